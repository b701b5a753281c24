import PyProof.Rows.All
import Wide.All
import OpenK.AllK
import Wide.FinOn
import KE.KDictKeyed
import HandS.ForMost
import HandS.Evl
import HandS.TupAny
import HandS.Defaults
import HandS.DictComp
import HandS.TupMul
import KE.GoesEnum
import HandS.Property
import HandS.ClsMeth
import HandS.MakeKwOnly
import HandS.Text
import HandS.Codes
import KE.KStateDown
import HandS.Words
import HandS.WordsExc
import HandS.Head0
import HandS.Head1
import HandS.Head2
import HandS.HeadEnd
import HandS.HeadHook1
import HandS.HeadHook2
import HandS.HeadNt
import PySem.Challenge.RW_leverhouse_k37_whole_shown_lists
set_option Elab.async false
set_option linter.all false
set_option maxRecDepth 100000
set_option maxHeartbeats 0
namespace DL
open PySem L2
abbrev Ex := Evl.Ex
theorem ex_refl (H : Hp) : Ex H H := Evl.Ex.refl H
theorem ex_tr {A B C : Hp} (a : Ex A B) (b : Ex B C) : Ex A C := Evl.Ex.trans a b
theorem ex_new {H : Hp} {p : Addr} {o : HO} (h : H p = none) : Ex H (upd H p o) := Evl.Ex.new h

/-- a state of a board: the movers, the fuse -/
abbrev Sv := List Bool × Bool

/-- deep data -/
inductive D where
  | v (x : V)
  | tup (ds : List D)
  | lst (ds : List D)
  | obj (C : Addr) (fs : List (Str × D))
  | sq (xs : List V)
  | sqt (xs : List V)
  | dk (kvs : List (Key × V))
  | any
  /-- an object told by a predicate that lasts -/
  | ab (p : Hp → Addr → Prop)

abbrev dI (i : Int) : D := .v (.int i)
abbrev dB (b : Bool) : D := .v (.bl b)
abbrev dS (s : Str) : D := .v (.str s)
abbrev dN : D := .v .non

mutual
/-- the value x is, in the heap H, the data d -/
inductive Rep (K : PySem.W.Frag) (H : Hp) : V → D → Prop
  | v (x : V) : Rep K H x (.v x)
  | tup {a : Addr} {xs : List V} {ds : List D} : H a = some (.tup xs) → Reps K H xs ds → Rep K H (.ref a) (.tup ds)
  | lst {a : Addr} {xs : List V} {ds : List D} : H a = some (.lst xs) → Reps K H xs ds → Rep K H (.ref a) (.lst ds)
  | obj {a C dx : Addr} {vs : List (Str × V)} {fs : List (Str × D)} : H a = some (.ins C dx vs) → RepF K H vs fs → Rep K H (.ref a) (.obj C fs)
  | sq {a : Addr} {xs : List V} : SqL K H a xs → Rep K H (.ref a) (.sq xs)
  | sqt {a : Addr} {xs : List V} : SqT K H a xs → Rep K H (.ref a) (.sqt xs)
  | dk {a : Addr} {kvs : List (Key × V)} : H a = some (.dK kvs) → Rep K H (.ref a) (.dk kvs)
  | any (x : V) : Rep K H x .any
  | ab {a : Addr} {p : Hp → Addr → Prop} : (∀ H', Ex H H' → p H' a) → Rep K H (.ref a) (.ab p)
inductive Reps (K : PySem.W.Frag) (H : Hp) : List V → List D → Prop
  | nil : Reps K H [] []
  | cons {x : V} {d : D} {xs : List V} {ds : List D} : Rep K H x d → Reps K H xs ds → Reps K H (x :: xs) (d :: ds)
inductive RepF (K : PySem.W.Frag) (H : Hp) : List (Str × V) → List (Str × D) → Prop
  | nil : RepF K H [] []
  | cons {f : Str} {x : V} {d : D} {vs : List (Str × V)} {fs : List (Str × D)} : Rep K H x d → RepF K H vs fs → RepF K H ((f, x) :: vs) ((f, d) :: fs)
end

section
variable {K : PySem.W.Frag} {H H' : Hp}
mutual
theorem Rep.mono (e : Ex H H') : ∀ {x : V} {d : D}, Rep K H x d → Rep K H' x d
  | _, _, .v x => .v x
  | _, _, .tup h r => .tup (e _ _ h) (Reps.mono e r)
  | _, _, .lst h r => .lst (e _ _ h) (Reps.mono e r)
  | _, _, .obj h r => .obj (e _ _ h) (RepF.mono e r)
  | _, _, .sq h => .sq (Evl.ex_l e h)
  | _, _, .sqt h => .sqt (Evl.ex_t e h)
  | _, _, .dk h => .dk (e _ _ h)
  | _, _, .any x => .any x
  | _, _, .ab h => .ab fun H2 e2 => h H2 (ex_tr e e2)
theorem Reps.mono (e : Ex H H') : ∀ {xs : List V} {ds : List D}, Reps K H xs ds → Reps K H' xs ds
  | _, _, .nil => .nil
  | _, _, .cons h r => .cons (Rep.mono e h) (Reps.mono e r)
theorem RepF.mono (e : Ex H H') : ∀ {vs : List (Str × V)} {fs : List (Str × D)}, RepF K H vs fs → RepF K H' vs fs
  | _, _, .nil => .nil
  | _, _, .cons h r => .cons (Rep.mono e h) (RepF.mono e r)
end
theorem Reps.length : ∀ {xs : List V} {ds : List D}, Reps K H xs ds → xs.length = ds.length
  | _, _, .nil => rfl
  | _, _, .cons _ r => by rw [List.length_cons, List.length_cons, Reps.length r]
theorem Reps.get : ∀ {xs : List V} {ds : List D} {i : Nat} {d : D}, Reps K H xs ds → ds[i]? = some d → ∃ x, xs[i]? = some x ∧ Rep K H x d
  | _, _, _, _, .nil, e => by simp at e
  | _, _, 0, _, .cons h _, e => by simp at e; subst e; exact ⟨_, rfl, h⟩
  | _, _, i + 1, _, .cons _ r, e => by
    obtain ⟨x, h1, h2⟩ := Reps.get (i := i) r (by simpa using e)
    exact ⟨x, by simpa using h1, h2⟩
theorem Reps.getv : ∀ {xs : List V} {ds : List D} {i : Nat} {x : V}, Reps K H xs ds → xs[i]? = some x → ∃ d, ds[i]? = some d ∧ Rep K H x d
  | _, _, _, _, .nil, e => by simp at e
  | _, _, 0, _, .cons h _, e => by simp at e; subst e; exact ⟨_, rfl, h⟩
  | _, _, i + 1, _, .cons _ r, e => by
    obtain ⟨x, h1, h2⟩ := Reps.getv (i := i) r (by simpa using e)
    exact ⟨x, by simpa using h1, h2⟩
theorem Reps.append : ∀ {xs ys : List V} {ds es : List D}, Reps K H xs ds → Reps K H ys es → Reps K H (xs ++ ys) (ds ++ es)
  | _, _, _, _, .nil, s => s
  | _, _, _, _, .cons h r, s => .cons h (Reps.append r s)
theorem Reps.take : ∀ {xs : List V} {ds : List D} (n : Nat), Reps K H xs ds → Reps K H (xs.take n) (ds.take n)
  | _, _, 0, _ => .nil
  | _, _, _ + 1, .nil => .nil
  | _, _, n + 1, .cons h r => .cons h (Reps.take n r)
theorem Reps.drop : ∀ {xs : List V} {ds : List D} (n : Nat), Reps K H xs ds → Reps K H (xs.drop n) (ds.drop n)
  | _, _, 0, r => r
  | _, _, _ + 1, .nil => .nil
  | _, _, n + 1, .cons _ r => Reps.drop n r
theorem Reps.set {x : V} {d : D} (q : Rep K H x d) : ∀ {xs : List V} {ds : List D} (i : Nat), Reps K H xs ds → Reps K H (xs.set i x) (ds.set i d)
  | _, _, _, .nil => .nil
  | _, _, 0, .cons _ r => .cons q r
  | _, _, i + 1, .cons h r => .cons h (Reps.set q i r)
theorem Reps.rep {xs : List V} {ds : List D} (r : Reps K H xs ds) : ∀ n : Nat, Reps K H (List.replicate n xs).flatten (List.replicate n ds).flatten
  | 0 => .nil
  | n + 1 => by
    rw [List.replicate_succ, List.flatten_cons, List.replicate_succ, List.flatten_cons]
    exact r.append (Reps.rep r n)
theorem reps_v : ∀ xs : List V, Reps K H xs (xs.map D.v)
  | [] => .nil
  | x :: xs => .cons (.v x) (reps_v xs)
theorem reps_flat : ∀ {xs ys : List V}, Reps K H xs (ys.map D.v) → xs = ys
  | [], [], _ => rfl
  | [], _ :: _, h => by cases h
  | _ :: _, [], h => by cases h
  | x :: xs, y :: ys, h => by
    rw [List.map_cons] at h
    cases h with
    | cons a b =>
      cases a
      rw [reps_flat b]
theorem RepF.look : ∀ {vs : List (Str × V)} {fs : List (Str × D)} {f : Str} {d : D}, RepF K H vs fs → fs.lookup f = some d → ∃ x, vs.lookup f = some x ∧ Rep K H x d
  | _, _, _, _, .nil, e => by simp at e
  | _, _, f, d, .cons (f := g) (x := x) (d := d') h r, e => by
    rw [List.lookup_cons] at e ⊢
    cases q : (f == g) with
    | true =>
      rw [q] at e
      exact ⟨x, rfl, by cases e; exact h⟩
    | false =>
      rw [q] at e
      exact RepF.look r e
theorem RepF.length : ∀ {vs : List (Str × V)} {fs : List (Str × D)}, RepF K H vs fs → vs.length = fs.length
  | _, _, .nil => rfl
  | _, _, .cons _ r => by rw [List.length_cons, List.length_cons, RepF.length r]
def putD (f : Str) (d : D) : List (Str × D) → List (Str × D)
  | [] => [(f, d)]
  | (g, e) :: r => if g = f then (g, d) :: r else (g, e) :: putD f d r
end

/-- Hb: what never changes from here on; H: all. What H had outside Hb stays outside -/
structure Grow (Hb H Hb' H' : Hp) : Prop where
  b : Ex Hb Hb'
  h : Ex H H'
  s : Ex Hb' H'
  out : ∀ a o, H a = some o → Hb a = none → Hb' a = none
theorem Grow.refl {Hb H : Hp} (e : Ex Hb H) : Grow Hb H Hb H := ⟨ex_refl _, ex_refl _, e, fun _ _ _ n => n⟩
theorem Grow.trans {Hb H Hb1 H1 Hb2 H2 : Hp} (a : Grow Hb H Hb1 H1) (b : Grow Hb1 H1 Hb2 H2) : Grow Hb H Hb2 H2 :=
  ⟨ex_tr a.b b.b, ex_tr a.h b.h, b.s, fun x o e n => b.out x o (a.h x o e) (a.out x o e n)⟩
theorem free_b {Hb H : Hp} {p : Addr} (e : Ex Hb H) (h : H p = none) : Hb p = none := Evl.fresh_back e h
/-- a new immutable object -/
theorem Grow.new {Hb H : Hp} {p : Addr} {o : HO} (e : Ex Hb H) (h : H p = none) : Grow Hb H (upd Hb p o) (upd H p o) :=
  ⟨ex_new (free_b e h), ex_new h, fun a u q => by
    by_cases z : a = p
    · subst z; rw [upd_same] at q ⊢; exact q
    · rw [upd_ne z] at q ⊢; exact e a u q, fun a u q n => by rw [upd_ne (ne_of_none q h)]; exact n⟩
/-- a new object that may change -/
theorem Grow.newm {Hb H : Hp} {p : Addr} {o : HO} (e : Ex Hb H) (h : H p = none) : Grow Hb H Hb (upd H p o) :=
  ⟨ex_refl _, ex_new h, ex_tr e (ex_new h), fun _ _ _ n => n⟩
/-- what stood new is from now on immutable -/
theorem Grow.freeze {Hb H Hb' H' : Hp} {p : Addr} {o : HO} (g : Grow Hb H Hb' H') (h0 : H p = none) (hb : Hb' p = none) (h : H' p = some o) : Grow Hb H (upd Hb' p o) H' :=
  ⟨ex_tr g.b (ex_new hb), g.h, fun a u q => by
    by_cases z : a = p
    · subst z; rw [upd_same] at q; rw [← q]; exact h
    · rw [upd_ne z] at q; exact g.s a u q, fun a u q n => by rw [upd_ne (ne_of_none q h0)]; exact g.out a u q n⟩
end DL

namespace DL
open PySem L2

/-- a thing that may change, by its footprint -/
structure Mu where
  ok : Hp → Hp → V → List Addr → Prop
  frame : ∀ {Hb H Hb' H' : Hp} {x : V} {fp : List Addr}, ok Hb H x fp → Ex Hb Hb' → (∀ a ∈ fp, H' a = H a) → ok Hb' H' x fp
  has : ∀ {Hb H : Hp} {x : V} {fp : List Addr}, ok Hb H x fp → ∀ a ∈ fp, ∃ o, H a = some o

/-- what is known of a slot -/
inductive Sl where
  | un
  | im (d : D)
  | mu (m : Mu)

def SlOk (K : PySem.W.Frag) (Hb H : Hp) (ov : Option V) : Sl → List Addr → Prop
  | .un, fp => fp = []
  | .im d, fp => fp = [] ∧ ∃ x, ov = some x ∧ Rep K Hb x d
  | .mu m, fp => ∃ x, ov = some x ∧ m.ok Hb H x fp
inductive Sls (K : PySem.W.Frag) (Hb H : Hp) : St → List Sl → List (List Addr) → Prop
  | nil : Sls K Hb H [] [] []
  | cons {ov : Option V} {s : Sl} {fp : List Addr} {σ : St} {G : List Sl} {fps : List (List Addr)} : SlOk K Hb H ov s fp → Sls K Hb H σ G fps → Sls K Hb H (ov :: σ) (s :: G) (fp :: fps)

section
variable {K : PySem.W.Frag} {Hb H Hb' H' : Hp}
theorem SlOk.frame {ov : Option V} {s : Sl} {fp : List Addr} (h : SlOk K Hb H ov s fp) (e : Ex Hb Hb') (k : ∀ a ∈ fp, H' a = H a) : SlOk K Hb' H' ov s fp := by
  cases s with
  | un => exact h
  | im d =>
    obtain ⟨h1, x, h2, h3⟩ := h
    exact ⟨h1, x, h2, h3.mono e⟩
  | mu m =>
    obtain ⟨x, h2, h3⟩ := h
    exact ⟨x, h2, m.frame h3 e k⟩
theorem SlOk.has {ov : Option V} {s : Sl} {fp : List Addr} (h : SlOk K Hb H ov s fp) : ∀ a ∈ fp, ∃ o, H a = some o := by
  cases s with
  | un => intro a ha; rw [show fp = [] from h] at ha; cases ha
  | im d => intro a ha; rw [h.1] at ha; cases ha
  | mu m =>
    obtain ⟨x, h2, h3⟩ := h
    exact m.has h3
theorem Sls.len : ∀ {σ : St} {G : List Sl} {fps : List (List Addr)}, Sls K Hb H σ G fps → σ.length = G.length ∧ fps.length = G.length
  | _, _, _, .nil => ⟨rfl, rfl⟩
  | _, _, _, .cons _ r => by
    obtain ⟨a, b⟩ := Sls.len r
    simp only [List.length_cons, a, b, and_self]
theorem Sls.frame : ∀ {σ : St} {G : List Sl} {fps : List (List Addr)}, Sls K Hb H σ G fps → Ex Hb Hb' → (∀ a ∈ fps.flatten, H' a = H a) → Sls K Hb' H' σ G fps
  | _, _, _, .nil, _, _ => .nil
  | _, _, _, .cons h r, e, k => .cons (h.frame e fun a ha => k a (by rw [List.flatten_cons]; exact List.mem_append_left _ ha)) (Sls.frame r e fun a ha => k a (by rw [List.flatten_cons]; exact List.mem_append_right _ ha))
theorem Sls.has : ∀ {σ : St} {G : List Sl} {fps : List (List Addr)}, Sls K Hb H σ G fps → ∀ a ∈ fps.flatten, ∃ o, H a = some o
  | _, _, _, .nil, a, ha => by simp at ha
  | _, _, _, .cons h r, a, ha => by
    rw [List.flatten_cons] at ha
    rcases List.mem_append.mp ha with z | z
    · exact h.has a z
    · exact Sls.has r a z
theorem Sls.get : ∀ {σ : St} {G : List Sl} {fps : List (List Addr)} {i : Nat} {s : Sl}, Sls K Hb H σ G fps → G[i]? = some s → ∃ ov fp, σ[i]? = some ov ∧ fps[i]? = some fp ∧ SlOk K Hb H ov s fp
  | _, _, _, _, _, .nil, e => by simp at e
  | _, _, _, 0, _, .cons h r, e => by
    simp at e; subst e
    exact ⟨_, _, rfl, rfl, h⟩
  | _, _, _, i + 1, _, .cons h r, e => by
    obtain ⟨ov, fp, a, b, c⟩ := Sls.get (i := i) r (by simpa using e)
    exact ⟨ov, fp, by simpa using a, by simpa using b, c⟩
theorem Sls.set {ov : Option V} {s : Sl} {fp : List Addr} (q : SlOk K Hb H ov s fp) : ∀ {σ : St} {G : List Sl} {fps : List (List Addr)} (i : Nat), Sls K Hb H σ G fps → Sls K Hb H (σ.set i ov) (G.set i s) (fps.set i fp)
  | _, _, _, _, .nil => .nil
  | _, _, _, 0, .cons _ r => .cons q r
  | _, _, _, i + 1, .cons h r => .cons h (Sls.set q i r)
theorem mem_set_fl : ∀ {l : List (List Addr)} {i : Nat} {fp : List Addr} {a : Addr}, a ∈ (l.set i fp).flatten → a ∈ fp ∨ a ∈ l.flatten
  | [], _, _, _, h => by simp at h
  | x :: l, 0, fp, a, h => by
    rw [List.set_cons_zero, List.flatten_cons] at h
    rw [List.flatten_cons]
    rcases List.mem_append.mp h with z | z
    · exact .inl z
    · exact .inr (List.mem_append_right _ z)
  | x :: l, i + 1, fp, a, h => by
    rw [List.set_cons_succ, List.flatten_cons] at h
    rw [List.flatten_cons]
    rcases List.mem_append.mp h with z | z
    · exact .inr (List.mem_append_left _ z)
    · rcases mem_set_fl z with z | z
      · exact .inl z
      · exact .inr (List.mem_append_right _ z)
/-- a part replaced: apart from the others -/
theorem nodup_set_fl : ∀ {l : List (List Addr)} {i : Nat} {fp : List Addr}, l.flatten.Nodup → fp.Nodup → (∀ a ∈ fp, ∀ j x, j ≠ i → l[j]? = some x → a ∉ x) → (l.set i fp).flatten.Nodup
  | [], _, _, _, _, _ => by simp
  | x :: l, 0, fp, h, n, k => by
    rw [List.flatten_cons, List.nodup_append] at h
    rw [List.set_cons_zero, List.flatten_cons, List.nodup_append]
    refine ⟨n, h.2.1, fun a ha b hb e => ?_⟩
    subst e
    obtain ⟨y, hy, hay⟩ := List.mem_flatten.mp hb
    obtain ⟨j, hj⟩ := List.getElem?_of_mem hy
    exact k a ha (j + 1) y (by omega) (by simpa using hj) hay
  | x :: l, i + 1, fp, h, n, k => by
    rw [List.flatten_cons, List.nodup_append] at h
    rw [List.set_cons_succ, List.flatten_cons, List.nodup_append]
    refine ⟨h.1, nodup_set_fl h.2.1 n fun a ha j y hj e => k a ha (j + 1) y (by omega) (by simpa using e), fun a ha b hb e => ?_⟩
    subst e
    rcases mem_set_fl hb with z | z
    · exact k a z 0 x (by omega) rfl ha
    · exact h.2.2 a ha a z rfl
theorem mem_fl {l : List (List Addr)} {j : Nat} {x : List Addr} {a : Addr} (e : l[j]? = some x) (h : a ∈ x) : a ∈ l.flatten := List.mem_flatten.mpr ⟨x, List.mem_of_getElem? e, h⟩
theorem nodup_part : ∀ {l : List (List Addr)} {i : Nat} {x : List Addr}, l.flatten.Nodup → l[i]? = some x → x.Nodup
  | [], _, _, _, e => by simp at e
  | z :: l, 0, x, h, e => by
    rw [List.flatten_cons, List.nodup_append] at h
    have e : z = x := by simpa using e
    rw [← e]; exact h.1
  | z :: l, i + 1, x, h, e => by
    rw [List.flatten_cons, List.nodup_append] at h
    exact nodup_part (i := i) h.2.1 (by simpa using e)
theorem fl_apart : ∀ {l : List (List Addr)} {i j : Nat} {x y : List Addr} {a : Addr}, l.flatten.Nodup → l[i]? = some x → l[j]? = some y → i ≠ j → a ∈ x → a ∉ y
  | [], _, _, _, _, _, _, e, _, _, _ => by simp at e
  | z :: l, 0, 0, _, _, _, _, _, _, n, _ => absurd rfl n
  | z :: l, 0, j + 1, x, y, a, h, e1, e2, _, ha => by
    rw [List.flatten_cons, List.nodup_append] at h
    have e : z = x := by simpa using e1
    subst e
    intro q
    exact h.2.2 a ha a (mem_fl (j := j) (by simpa using e2) q) rfl
  | z :: l, i + 1, 0, x, y, a, h, e1, e2, _, ha => by
    rw [List.flatten_cons, List.nodup_append] at h
    have e : z = y := by simpa using e2
    subst e
    intro q
    exact h.2.2 a q a (mem_fl (j := i) (by simpa using e1) ha) rfl
  | z :: l, i + 1, j + 1, x, y, a, h, e1, e2, n, ha => by
    rw [List.flatten_cons, List.nodup_append] at h
    exact fl_apart (i := i) (j := j) h.2.1 (by simpa using e1) (by simpa using e2) (by omega) ha
end

/-- the state of a body: what is known of its slots; H0, Hb0: the entry -/
structure Ok (K : PySem.W.Frag) (H0 Hb0 : Hp) (G : List Sl) (Hb H : Hp) (σ : St) : Prop where
  grow : Grow Hb0 H0 Hb H
  sl : ∃ fps : List (List Addr), Sls K Hb H σ G fps ∧ fps.flatten.Nodup ∧ ∀ a ∈ fps.flatten, H0 a = none ∧ Hb a = none

section
variable {K : PySem.W.Frag} {H0 Hb0 Hb H Hb' H' : Hp} {G : List Sl} {σ : St}
theorem Ok.up (k : Ok K H0 Hb0 G Hb H σ) (g : Grow Hb H Hb' H') : Ok K H0 Hb0 G Hb' H' σ := by
  obtain ⟨g0, fps, hs, nd, fr⟩ := k
  refine ⟨g0.trans g, fps, hs.frame g.b fun a ha => ?_, nd, fun a ha => ?_⟩
  · obtain ⟨o, e⟩ := hs.has a ha
    rw [e]; exact g.h a o e
  · obtain ⟨o, e⟩ := hs.has a ha
    exact ⟨(fr a ha).1, g.out a o e (fr a ha).2⟩
theorem Ok.ex (k : Ok K H0 Hb0 G Hb H σ) : Ex Hb H := k.grow.s
theorem Ok.len (k : Ok K H0 Hb0 G Hb H σ) : σ.length = G.length := by
  obtain ⟨_, fps, hs, _⟩ := k
  exact hs.len.1
theorem Ok.im {i : Nat} {d : D} (k : Ok K H0 Hb0 G Hb H σ) (e : G[i]? = some (.im d)) : ∃ x, σ[i]? = some (some x) ∧ Rep K Hb x d := by
  obtain ⟨_, fps, hs, _⟩ := k
  obtain ⟨ov, fp, a, b, c⟩ := hs.get e
  obtain ⟨_, x, hx, r⟩ := c
  exact ⟨x, by rw [a, hx], r⟩
/-- a slot gets immutable data -/
theorem Ok.put (k : Ok K H0 Hb0 G Hb H σ) (i : Nat) {x : V} {d : D} (r : Rep K Hb x d) : Ok K H0 Hb0 (G.set i (.im d)) Hb H (σ.set i (some x)) := by
  obtain ⟨g, fps, hs, nd, fr⟩ := k
  refine ⟨g, fps.set i [], hs.set (s := .im d) (fp := []) ⟨rfl, x, rfl, r⟩ i, nodup_set_fl nd List.nodup_nil (fun a ha => by cases ha), fun a ha => ?_⟩
  rcases mem_set_fl ha with z | z
  · cases z
  · exact fr a z
/-- a slot forgotten, whatever it holds -/
theorem Ok.forget (k : Ok K H0 Hb0 G Hb H σ) (i : Nat) (ov : Option V) : Ok K H0 Hb0 (G.set i .un) Hb H (σ.set i ov) := by
  obtain ⟨g, fps, hs, nd, fr⟩ := k
  refine ⟨g, fps.set i [], hs.set (s := .un) (fp := []) rfl i, nodup_set_fl nd List.nodup_nil (fun a ha => by cases ha), fun a ha => ?_⟩
  rcases mem_set_fl ha with z | z
  · cases z
  · exact fr a z
/-- a slot gets a thing that may change, new since H -/
theorem Ok.putm (k : Ok K H0 Hb0 G Hb H σ) (g' : Grow Hb H Hb' H') (i : Nat) {x : V} {m : Mu} {fp : List Addr} (r : m.ok Hb' H' x fp) (nd' : fp.Nodup) (hn : ∀ a ∈ fp, H a = none ∧ Hb' a = none) : Ok K H0 Hb0 (G.set i (.mu m)) Hb' H' (σ.set i (some x)) := by
  have k' := k.up g'
  obtain ⟨g, fps, hs, nd, fr⟩ := k
  obtain ⟨g2, _⟩ := k'
  have hs' : Sls K Hb' H' σ G fps := hs.frame g'.b fun a ha => by
    obtain ⟨o, e⟩ := hs.has a ha
    rw [e]; exact g'.h a o e
  refine ⟨g2, fps.set i fp, hs'.set (s := .mu m) (fp := fp) ⟨x, rfl, r⟩ i, nodup_set_fl nd nd' (fun a ha j y hj e hy => ?_), fun a ha => ?_⟩
  · obtain ⟨o, q⟩ := hs.has a (mem_fl e hy)
    rw [(hn a ha).1] at q; cases q
  · rcases mem_set_fl ha with z | z
    · exact ⟨free_b g.h (hn a z).1, (hn a z).2⟩
    · obtain ⟨o, q⟩ := hs.has a z
      exact ⟨(fr a z).1, g'.out a o q (fr a z).2⟩
/-- the thing at a slot, and how it may change -/
theorem Ok.mut (k : Ok K H0 Hb0 G Hb H σ) {i : Nat} {m : Mu} (e : G[i]? = some (.mu m)) : ∃ x fp, σ[i]? = some (some x) ∧ m.ok Hb H x fp ∧ fp.Nodup ∧ (∀ a ∈ fp, H0 a = none ∧ Hb a = none) ∧
    (∀ (m' : Mu) (H' : Hp) (fp' : List Addr), (∀ a o, a ∉ fp → H a = some o → H' a = some o) → (∀ a ∈ fp', a ∈ fp ∨ H a = none) → fp'.Nodup → m'.ok Hb H' x fp' → Ok K H0 Hb0 (G.set i (.mu m')) Hb H' σ) ∧
    ∀ (Hb' : Hp) (d : D), Ex Hb Hb' → Ex Hb' H → (∀ a, a ∉ fp → Hb a = none → Hb' a = none) → Rep K Hb' x d → Ok K H0 Hb0 (G.set i (.im d)) Hb' H σ := by
  obtain ⟨g, fps, hs, nd, fr⟩ := k
  obtain ⟨ov, fp, a, b, c⟩ := hs.get e
  obtain ⟨x, rfl, r⟩ := c
  have hfp : ∀ a ∈ fp, H0 a = none ∧ Hb a = none := fun a ha => fr a (mem_fl b ha)
  have nfp : fp.Nodup := nodup_part nd b
  have hset : ∀ o' : Option V, o' = some x → σ.set i o' = σ := fun o' ho => by
    rw [ho]
    refine List.ext_getElem? fun j => ?_
    rw [List.getElem?_set]
    by_cases hj : i = j
    · subst hj
      rw [if_pos rfl, a]
      have hl : i < σ.length := (List.getElem?_eq_some_iff.mp a).1
      rw [if_pos hl]
    · rw [if_neg hj]
  refine ⟨x, fp, a, r, nfp, hfp, fun m' H' fp' hk hn nd' r' => ?_, fun Hb' d e1 e2 e3 rd => ?_⟩
  · have other : ∀ a ∈ (fps.set i []).flatten, H' a = H a := fun a' ha => by
      rcases mem_set_fl ha with z | z
      · cases z
      obtain ⟨o, q⟩ := hs.has a' z
      rw [q]
      refine hk a' o (fun hf => ?_) q
      -- a' lies in another part
      obtain ⟨y, hy, hay⟩ := List.mem_flatten.mp ha
      obtain ⟨j, hj⟩ := List.getElem?_of_mem hy
      rw [List.getElem?_set] at hj
      by_cases hij : i = j
      · subst hij
        rw [if_pos rfl] at hj
        split at hj
        · cases hj; cases hay
        · cases hj
      · rw [if_neg hij] at hj
        exact fl_apart nd b hj hij hf hay
    have hs2 : Sls K Hb H' (σ.set i none) (G.set i .un) (fps.set i []) := (hs.set (s := .un) (ov := none) (fp := []) rfl i).frame (ex_refl _) other
    have hs3 := hs2.set (s := .mu m') (ov := some x) (fp := fp') ⟨x, rfl, r'⟩ i
    rw [List.set_set, List.set_set, List.set_set, hset _ rfl] at hs3
    refine ⟨⟨g.b, fun b' o q => ?_, fun b' o q => ?_, g.out⟩, fps.set i fp', hs3, nodup_set_fl nd nd' fun a' ha j y hj ey hy => ?_, fun a' ha => ?_⟩
    · exact hk b' o (fun z => by rw [(hfp b' z).1] at q; cases q) (g.h b' o q)
    · exact hk b' o (fun z => by rw [(hfp b' z).2] at q; cases q) (g.s b' o q)
    · rcases hn a' ha with z | z
      · exact fl_apart nd b ey (Ne.symm hj) z hy
      · obtain ⟨o, q⟩ := hs.has a' (mem_fl ey hy)
        rw [z] at q; cases q
    · rcases mem_set_fl ha with z | z
      · rcases hn a' z with z | z
        · exact hfp a' z
        · exact ⟨free_b g.h z, free_b g.s z⟩
      · exact fr a' z
  · have hs2 := (hs.frame (Hb' := Hb') (H' := H) e1 fun _ _ => rfl).set (s := .im d) (ov := some x) (fp := []) ⟨rfl, x, rfl, rd⟩ i
    rw [hset _ rfl] at hs2
    refine ⟨⟨ex_tr g.b e1, g.h, e2, fun b' o q n => e3 b' (fun z => by rw [(hfp b' z).1] at q; cases q) (g.out b' o q n)⟩, fps.set i [], hs2, nodup_set_fl nd List.nodup_nil (fun a ha => by cases ha), fun a' ha => ?_⟩
    refine ⟨?_, e3 a' (fun hf => ?_) ?_⟩
    · rcases mem_set_fl ha with z | z
      · cases z
      · exact (fr a' z).1
    · obtain ⟨y, hy, hay⟩ := List.mem_flatten.mp ha
      obtain ⟨j, hj⟩ := List.getElem?_of_mem hy
      rw [List.getElem?_set] at hj
      by_cases hij : i = j
      · subst hij
        rw [if_pos rfl] at hj
        split at hj
        · cases hj; cases hay
        · cases hj
      · rw [if_neg hij] at hj
        exact fl_apart nd b hj hij hf hay
    · rcases mem_set_fl ha with z | z
      · cases z
      · exact (fr a' z).2
end

section
variable (K : PySem.W.Frag)
def EvG (te : TE) (G : List Sl) (W : Hp → Hp → Hp → V → Prop) : Prop := ∀ H0 Hb0 Hb H σ, Ok K H0 Hb0 G Hb H σ → ∀ Q : VK, (∀ x Hb' H', Grow Hb H Hb' H' → W H Hb' H' x → Q x H') → te σ H Q
/-- immutable data -/
def EvD (te : TE) (G : List Sl) (d : D) : Prop := EvG K te G fun _ Hb' _ x => Rep K Hb' x d
/-- a new list, still to be changed -/
def EvN (te : TE) (G : List Sl) (ds : List D) : Prop := EvG K te G fun H Hb' H' x => ∃ a xs, x = .ref a ∧ H a = none ∧ Hb' a = none ∧ H' a = some (.lst xs) ∧ Reps K Hb' xs ds
/-- a list that is read -/
def EvR (te : TE) (G : List Sl) (ds : List D) : Prop := EvG K te G fun _ Hb' H' x => ∃ a xs, x = .ref a ∧ H' a = some (.lst xs) ∧ Reps K Hb' xs ds
/-- a new thing that may change -/
def EvM (te : TE) (G : List Sl) (m : Mu) : Prop := EvG K te G fun H Hb' H' x => ∃ fp, m.ok Hb' H' x fp ∧ fp.Nodup ∧ ∀ a ∈ fp, H a = none ∧ Hb' a = none
def EvT (tt : TT) (G : List Sl) (b : Bool) : Prop := ∀ H0 Hb0 Hb H σ, Ok K H0 Hb0 G Hb H σ → ∀ Q : Bool → Hp → Prop, (∀ Hb' H', Grow Hb H Hb' H' → Q b H') → tt σ H Q
def EvA (ta : TA) (G : List Sl) (ds : List D) : Prop := ∀ H0 Hb0 Hb H σ, Ok K H0 Hb0 G Hb H σ → ∀ Q : List V → Hp → Prop, (∀ xs Hb' H', Grow Hb H Hb' H' → Reps K Hb' xs ds → Q xs H') → ta σ H Q
def EvO (to : TO) (G : List Sl) (o : Option Int) : Prop := ∀ H0 Hb0 Hb H σ, Ok K H0 Hb0 G Hb H σ → ∀ Q : Option Int → Hp → Prop, (∀ Hb' H', Grow Hb H Hb' H' → Q o H') → to σ H Q
end
section
variable {K : PySem.W.Frag} {G : List Sl} {te : TE} {d d' : D} {ds : List D}
theorem EvD.is (h : EvD K te G d) (e : d = d') : EvD K te G d' := e ▸ h
theorem EvN.toD (h : EvN K te G ds) : EvD K te G (.lst ds) := fun H0 Hb0 Hb H σ k Q q => h H0 Hb0 Hb H σ k Q fun x Hb' H' g ⟨a, xs, e, h0, hb, hx, r⟩ => by
  subst e
  exact q _ _ _ (g.freeze h0 hb hx) (.lst upd_same (r.mono (ex_new hb)))
theorem EvD.r (h : EvD K te G (.lst ds)) : EvR K te G ds := fun H0 Hb0 Hb H σ k Q q => h H0 Hb0 Hb H σ k Q fun x Hb' H' g r => by
  cases r with
  | lst hx r => exact q _ _ _ g ⟨_, _, rfl, g.s _ _ hx, r⟩
end

def mList (K : PySem.W.Frag) (ds : List D) : Mu where
  ok := fun Hb H x fp => ∃ a xs, x = .ref a ∧ fp = [a] ∧ H a = some (.lst xs) ∧ Reps K Hb xs ds
  frame := fun ⟨a, xs, e, f, h, r⟩ e1 k => ⟨a, xs, e, f, (k a (by rw [f]; exact List.mem_cons_self)).trans h, r.mono e1⟩
  has := fun ⟨a, xs, e, f, h, r⟩ b hb => by
    rw [f] at hb
    rw [List.mem_singleton.mp hb]
    exact ⟨_, h⟩
abbrev Sl.ml (K : PySem.W.Frag) (ds : List D) : Sl := .mu (mList K ds)
theorem EvN.m {K : PySem.W.Frag} {G : List Sl} {te : TE} {ds : List D} (h : EvN K te G ds) : EvM K te G (mList K ds) := fun H0 Hb0 Hb H σ k Q q => h H0 Hb0 Hb H σ k Q fun x Hb' H' g ⟨a, xs, e, h0, hb, hx, r⟩ =>
  q _ _ _ g ⟨[a], ⟨a, xs, e, rfl, hx, r⟩, by simp, fun b z => by rw [List.mem_singleton.mp z]; exact ⟨h0, hb⟩⟩
end DL

namespace DL
open PySem L2

def wpE (X : Cx) (e : Expr) : TE := fun σ H Q => ∀ pins s, Inv X pins σ H s → wpAny (model X.prog X.w) X.A (eval e X.env) (EP X pins σ Q) X.xe s
def wpT (X : Cx) (e : Expr) : TT := fun σ H Q => ∀ pins s, Inv X pins σ H s → wpAny (model X.prog X.w) X.A (isTrue e X.env (eval e X.env)) (TP X pins σ Q) X.xe s
def wpW (X : Cx) (e : Expr) : TT := fun σ H Q => ∀ whole pins s, Inv X pins σ H s → wpAny (model X.prog X.w) X.A (isTrue e X.env whole) (TP X pins σ Q) X.xe s
def wpC (X : Cx) (op : CmpOp) (a b : Expr) : TE := fun σ H Q => ∀ pins s, Inv X pins σ H s →
  wpAny (model X.prog X.w) X.A (eval a X.env) (fun v s₁ => wpAny (model X.prog X.w) X.A (eval b X.env) (fun u s₂ => wpAny (model X.prog X.w) X.A (compareOp op v u) (EP X pins σ Q) X.xe s₂) X.xe s₁) X.xe s
def wpA (X : Cx) (es : List Expr) : TA := fun σ H Q => ∀ pos pins s, Inv X pins σ H s → wpAny (model X.prog X.w) X.A (spliced (backTo pos (starEach es X.env))) (AP X pins σ Q) X.xe s
def wpO (X : Cx) (e : Option Expr) : TO := fun σ H Q => ∀ pins s, Inv X pins σ H s → wpAny (model X.prog X.w) X.A (evalPart e X.env) (fun u s' => ∃ o H', Inv X pins σ H' s' ∧ IsPart u o ∧ Q o H') X.xe s
theorem pe_wp (X : Cx) (e : Expr) : PE X e (wpE X e) := ⟨fun pins s _ _ _ I h => h pins s I⟩
theorem pt_wp (X : Cx) (e : Expr) : PT X e (wpT X e) := ⟨fun pins s _ _ _ I h => h pins s I⟩
theorem pw_wp (X : Cx) (e : Expr) : PW X e (wpW X e) := ⟨fun wh pins s _ _ _ I h => h wh pins s I⟩
theorem pc_wp (X : Cx) (op : CmpOp) (a b : Expr) : PC X op a b (wpC X op a b) := ⟨fun pins s _ _ _ I h => h pins s I⟩
theorem pa_wp (X : Cx) (es : List Expr) : PA X es (wpA X es) := ⟨fun pos pins s _ _ _ I h => h pos pins s I⟩
theorem po_wp (X : Cx) (e : Option Expr) : PO X e (wpO X e) := ⟨fun pins s _ _ _ I h => h pins s I⟩

abbrev XG (X : Cx) (e : Expr) (G : List Sl) (W : Hp → Hp → Hp → V → Prop) : Prop := EvG X.K (wpE X e) G W
abbrev XE (X : Cx) (e : Expr) (G : List Sl) (d : D) : Prop := EvD X.K (wpE X e) G d
abbrev XN (X : Cx) (e : Expr) (G : List Sl) (ds : List D) : Prop := EvN X.K (wpE X e) G ds
abbrev XR (X : Cx) (e : Expr) (G : List Sl) (ds : List D) : Prop := EvR X.K (wpE X e) G ds
abbrev XM (X : Cx) (e : Expr) (G : List Sl) (m : Mu) : Prop := EvM X.K (wpE X e) G m
abbrev XT (X : Cx) (e : Expr) (G : List Sl) (b : Bool) : Prop := EvT X.K (wpT X e) G b
abbrev XW (X : Cx) (e : Expr) (G : List Sl) (b : Bool) : Prop := EvT X.K (wpW X e) G b
abbrev XC (X : Cx) (op : CmpOp) (a b : Expr) (G : List Sl) (c : Bool) : Prop := EvD X.K (wpC X op a b) G (dB c)
abbrev XA (X : Cx) (es : List Expr) (G : List Sl) (ds : List D) : Prop := EvA X.K (wpA X es) G ds
abbrev XO (X : Cx) (e : Option Expr) (G : List Sl) (o : Option Int) : Prop := EvO X.K (wpO X e) G o
section
variable {X : Cx} {e : Expr} {G : List Sl} {t : TE} {W : Hp → Hp → Hp → V → Prop}
theorem upG (h : PE X e t) (q : EvG X.K t G W) : EvG X.K (wpE X e) G W := fun H0 Hb0 Hb H σ k Q kq pins s I => h.run pins s σ H Q I (q H0 Hb0 Hb H σ k Q kq)
theorem upD {d : D} (h : PE X e t) (q : EvD X.K t G d) : XE X e G d := upG h q
theorem upN {ds : List D} (h : PE X e t) (q : EvN X.K t G ds) : XN X e G ds := upG h q
theorem upR {ds : List D} (h : PE X e t) (q : EvR X.K t G ds) : XR X e G ds := upG h q
theorem upM {m : Mu} (h : PE X e t) (q : EvM X.K t G m) : XM X e G m := upG h q
theorem upT {b : Bool} {t : TT} (h : PT X e t) (q : EvT X.K t G b) : XT X e G b := fun H0 Hb0 Hb H σ k Q kq pins s I => h.run pins s σ H Q I (q H0 Hb0 Hb H σ k Q kq)
theorem upW {b : Bool} {t : TT} (h : PW X e t) (q : EvT X.K t G b) : XW X e G b := fun H0 Hb0 Hb H σ k Q kq wh pins s I => h.run wh pins s σ H Q I (q H0 Hb0 Hb H σ k Q kq)
theorem upC {op : CmpOp} {a b : Expr} {d : D} (h : PC X op a b t) (q : EvD X.K t G d) : EvD X.K (wpC X op a b) G d := fun H0 Hb0 Hb H σ k Q kq pins s I => h.run pins s σ H Q I (q H0 Hb0 Hb H σ k Q kq)
theorem upA {es : List Expr} {ds : List D} {t : TA} (h : PA X es t) (q : EvA X.K t G ds) : XA X es G ds := fun H0 Hb0 Hb H σ k Q kq pos pins s I => h.run pos pins s σ H Q I (q H0 Hb0 Hb H σ k Q kq)
theorem upO {e : Option Expr} {o : Option Int} {t : TO} (h : PO X e t) (q : EvO X.K t G o) : XO X e G o := fun H0 Hb0 Hb H σ k Q kq pins s I => h.run pins s σ H Q I (q H0 Hb0 Hb H σ k Q kq)
end

structure Cxt (P : Program) (w : World) (K : PySem.W.Frag) (mg : Str → Option Value) (base : Heap) (N : List Str) (sc : List (Str × NameKind)) (k : Nat) (X : Cx) : Prop where
  eP : X.prog = P
  ew : X.w = w
  eK : X.K = K
  emg : X.mg = mg
  eB : X.base = base
  eN : X.N = N
  esc : X.env.scope.names = sc
  nd : N.Nodup
  room : Room k X.A
  calm : X.calm = true
  kd : X.env.scope.kind = .function
def VisL (sc : List (Str × NameKind)) (x : Str) : Prop := sc.lookup x = some .local ∨ sc.lookup x = some .cell ∨ sc.lookup x = some .free
def LocL (sc : List (Str × NameKind)) (x : Str) : Prop := sc.lookup x = some .local ∨ sc.lookup x = some .cell
def GlL (sc : List (Str × NameKind)) (x : Str) : Prop := sc.lookup x = some .globalImplicit
section
variable {P : Program} {w : World} {K : PySem.W.Frag} {mg : Str → Option Value} {base : Heap} {N : List Str} {sc : List (Str × NameKind)} {k : Nat} {X : Cx}
theorem Cxt.vis (C : Cxt P w K mg base N sc k X) {x : Str} (h : VisL sc x) : Vis X.env.scope x := by
  unfold Vis; rw [C.esc]; exact h
theorem Cxt.loc (C : Cxt P w K mg base N sc k X) {x : Str} (h : LocL sc x) : L2.Loc X.env.scope x := by
  unfold L2.Loc; rw [C.esc]; exact h
theorem Cxt.gl (C : Cxt P w K mg base N sc k X) {x : Str} (h : GlL sc x) : Gl X x := by
  show X.env.scope.names.lookup x = some .globalImplicit
  rw [C.esc]; exact h
theorem Cxt.hu (C : Cxt P w K mg base N sc k X) : X.A.units + 1 < cLine := hu_of C.room
end

section
variable {K : PySem.W.Frag} {G : List Sl} {ta tb : TE}
/-- what stays true of a value while all grows -/
def MonP (p : Hp → Hp → V → Prop) : Prop := ∀ Hb H Hb' H' x, Grow Hb H Hb' H' → p Hb H x → p Hb' H' x
def pD (K : PySem.W.Frag) (d : D) : Hp → Hp → V → Prop := fun Hb _ x => Rep K Hb x d
def pR (K : PySem.W.Frag) (ds : List D) : Hp → Hp → V → Prop := fun Hb H x => ∃ a xs, x = .ref a ∧ H a = some (.lst xs) ∧ Reps K Hb xs ds
theorem mon_D {d : D} : MonP (pD K d) := fun _ _ _ _ _ g r => Rep.mono g.b r
theorem mon_R {ds : List D} : MonP (pR K ds) := fun _ _ _ _ _ g ⟨a, xs, e, h, r⟩ => ⟨a, xs, e, g.h _ _ h, r.mono g.b⟩
theorem evg_op {r : R2} {p1 p2 : Hp → Hp → V → Prop} {W : Hp → Hp → Hp → V → Prop} (m1 : MonP p1) (h1 : EvG K ta G fun _ => p1) (h2 : EvG K tb G fun _ => p2)
    (hr : ∀ Hs Hb H x y, Ex Hs H → Ex Hb H → p1 Hb H x → p2 Hb H y → ∀ Q : VK, (∀ z Hb' H', Grow Hb H Hb' H' → W Hs Hb' H' z → Q z H') → r x y H Q) : EvG K (tOp r ta tb) G W :=
  fun H0 Hb0 Hb H σ k Q q => h1 H0 Hb0 Hb H σ k _ fun x Hb1 H1 g1 q1 => h2 H0 Hb0 Hb1 H1 σ (k.up g1) _ fun y Hb2 H2 g2 q2 =>
    hr H Hb2 H2 x y (ex_tr g1.h g2.h) g2.s (m1 _ _ _ _ _ g2 q1) q2 Q fun z Hb' H' g3 w3 => q z Hb' H' ((g1.trans g2).trans g3) w3
theorem evg_un {r : V → Hp → VK → Prop} {p1 : Hp → Hp → V → Prop} {W : Hp → Hp → Hp → V → Prop} (h1 : EvG K ta G fun _ => p1)
    (hr : ∀ Hs Hb H x, Ex Hs H → Ex Hb H → p1 Hb H x → ∀ Q : VK, (∀ z Hb' H', Grow Hb H Hb' H' → W Hs Hb' H' z → Q z H') → r x H Q) : EvG K (tUn r ta) G W :=
  fun H0 Hb0 Hb H σ k Q q => h1 H0 Hb0 Hb H σ k _ fun x Hb1 H1 g1 q1 => hr H Hb1 H1 x g1.h g1.s q1 Q fun z Hb' H' g3 w3 => q z Hb' H' (g1.trans g3) w3
/-- a call by values, its arguments data -/
theorem evg_cb {r : List V → Hp → VK → Prop} {ta : TA} {ds : List D} {W : Hp → Hp → Hp → V → Prop} (h : EvA K ta G ds)
    (hr : ∀ Hs Hb H xs, Ex Hs H → Ex Hb H → Reps K Hb xs ds → ∀ Q : VK, (∀ z Hb' H', Grow Hb H Hb' H' → W Hs Hb' H' z → Q z H') → r xs H Q) : EvG K (tCB r ta) G W :=
  fun H0 Hb0 Hb H σ k Q q => h H0 Hb0 Hb H σ k _ fun xs Hb1 H1 g1 q1 => hr H Hb1 H1 xs g1.h g1.s q1 Q fun z Hb' H' g3 w3 => q z Hb' H' (g1.trans g3) w3
/-- a call by values, of one argument, read -/
theorem evg_cb1 {r : List V → Hp → VK → Prop} {p1 : Hp → Hp → V → Prop} {W : Hp → Hp → Hp → V → Prop} (h1 : EvG K ta G fun _ => p1)
    (hr : ∀ Hs Hb H x, Ex Hs H → Ex Hb H → p1 Hb H x → ∀ Q : VK, (∀ z Hb' H', Grow Hb H Hb' H' → W Hs Hb' H' z → Q z H') → r [x] H Q) : EvG K (tCB r (tCons ta tNil)) G W :=
  fun H0 Hb0 Hb H σ k Q q => h1 H0 Hb0 Hb H σ k _ fun x Hb1 H1 g1 q1 => hr H Hb1 H1 x g1.h g1.s q1 Q fun z Hb' H' g3 w3 => q z Hb' H' (g1.trans g3) w3
theorem eva_nil : EvA K tNil G [] := fun H0 Hb0 Hb H σ k Q q => q [] Hb H (Grow.refl k.ex) .nil
theorem eva_cons {tr : TA} {d : D} {ds : List D} (h1 : EvD K ta G d) (h2 : EvA K tr G ds) : EvA K (tCons ta tr) G (d :: ds) :=
  fun H0 Hb0 Hb H σ k Q q => h1 H0 Hb0 Hb H σ k _ fun x Hb1 H1 g1 q1 => h2 H0 Hb0 Hb1 H1 σ (k.up g1) _ fun xs Hb2 H2 g2 q2 => q (x :: xs) Hb2 H2 (g1.trans g2) (.cons (Rep.mono g2.b q1) q2)
theorem ev_c {x : V} : EvD K (tC x) G (.v x) := fun H0 Hb0 Hb H σ k Q q => q x Hb H (Grow.refl k.ex) (.v x)
theorem ev_var {i : Nat} {d : D} (e : G[i]? = some (.im d)) : EvD K (tVar i) G d := fun H0 Hb0 Hb H σ k Q q => by
  obtain ⟨x, hx, r⟩ := k.im e
  exact ⟨x, hx, q x Hb H (Grow.refl k.ex) r⟩
theorem er_var {i : Nat} {ds : List D} (e : G[i]? = some (.ml K ds)) : EvR K (tVar i) G ds := fun H0 Hb0 Hb H σ k Q q => by
  obtain ⟨x, fp, hx, ⟨a, xs, e1, _, h, r⟩, _⟩ := k.mut e
  exact ⟨x, hx, q x Hb H (Grow.refl k.ex) ⟨a, xs, e1, h, r⟩⟩
theorem et_test {b : Bool} (h : EvD K ta G (dB b)) : EvT K (tTest ta) G b := fun H0 Hb0 Hb H σ k Q q => h H0 Hb0 Hb H σ k _ fun x Hb1 H1 g r => by
  cases r
  exact ⟨b, rfl, q Hb1 H1 g⟩
theorem et_B {b : Bool} (h : EvD K ta G (dB b)) : EvT K (tB ta) G b := fun H0 Hb0 Hb H σ k Q q => h H0 Hb0 Hb H σ k _ fun x Hb1 H1 g r => by
  cases r
  exact ⟨b, rfl, q Hb1 H1 g⟩
theorem et_and {t u : TT} {a b : Bool} (h1 : EvT K t G a) (h2 : a = true → EvT K u G b) : EvT K (tAnd t u) G (a && b) := fun H0 Hb0 Hb H σ k Q q => h1 H0 Hb0 Hb H σ k _ fun Hb1 H1 g1 => by
  cases a with
  | true => exact h2 rfl H0 Hb0 Hb1 H1 σ (k.up g1) Q fun Hb2 H2 g2 => q Hb2 H2 (g1.trans g2)
  | false => exact q Hb1 H1 g1
theorem et_or {t u : TT} {a b : Bool} (h1 : EvT K t G a) (h2 : a = false → EvT K u G b) : EvT K (tOr t u) G (a || b) := fun H0 Hb0 Hb H σ k Q q => h1 H0 Hb0 Hb H σ k _ fun Hb1 H1 g1 => by
  cases a with
  | true => exact q Hb1 H1 g1
  | false => exact h2 rfl H0 Hb0 Hb1 H1 σ (k.up g1) Q fun Hb2 H2 g2 => q Hb2 H2 (g1.trans g2)
theorem et_not {t : TT} {a : Bool} (h1 : EvT K t G a) : EvT K (tNot t) G (!a) := fun H0 Hb0 Hb H σ k Q q => h1 H0 Hb0 Hb H σ k _ fun Hb1 H1 g1 => q Hb1 H1 g1
theorem ev_andV {a b : Bool} (h1 : EvD K ta G (dB a)) (h2 : a = true → EvD K tb G (dB b)) : EvD K (tAndV ta tb) G (dB (a && b)) := fun H0 Hb0 Hb H σ k Q q => h1 H0 Hb0 Hb H σ k _ fun x Hb1 H1 g1 r => by
  cases r
  refine ⟨a, rfl, ?_⟩
  cases a with
  | true => exact h2 rfl H0 Hb0 Hb1 H1 σ (k.up g1) Q fun y Hb2 H2 g2 r2 => q y Hb2 H2 (g1.trans g2) r2
  | false => exact q _ Hb1 H1 g1 (.v _)
theorem ev_orV {a b : Bool} (h1 : EvD K ta G (dB a)) (h2 : a = false → EvD K tb G (dB b)) : EvD K (tOrV ta tb) G (dB (a || b)) := fun H0 Hb0 Hb H σ k Q q => h1 H0 Hb0 Hb H σ k _ fun x Hb1 H1 g1 r => by
  cases r
  refine ⟨a, rfl, ?_⟩
  cases a with
  | true => exact q _ Hb1 H1 g1 (.v _)
  | false => exact h2 rfl H0 Hb0 Hb1 H1 σ (k.up g1) Q fun y Hb2 H2 g2 r2 => q y Hb2 H2 (g1.trans g2) r2
theorem ev_notV {a : Bool} (h1 : EvD K ta G (dB a)) : EvD K (tNotV ta) G (dB (!a)) := fun H0 Hb0 Hb H σ k Q q => h1 H0 Hb0 Hb H σ k _ fun x Hb1 H1 g1 r => by
  cases r
  exact ⟨a, rfl, q _ Hb1 H1 g1 (.v _)⟩
theorem ev_tup {ta : TA} {ds : List D} (h : EvA K ta G ds) (hl : ds.length ≤ 100000) : EvD K (tTup ta) G (.tup ds) := fun H0 Hb0 Hb H σ k Q q => h H0 Hb0 Hb H σ k _ fun xs Hb1 H1 g r =>
  ⟨Evl.sz_of (by rw [r.length]; exact hl), fun p hp => q _ _ _ (g.trans (Grow.new g.s hp)) (.tup upd_same (r.mono (ex_new (free_b g.s hp))))⟩
theorem en_lst {ta : TA} {ds : List D} (h : EvA K ta G ds) (hl : ds.length ≤ 100000) : EvN K (tLst ta) G ds := fun H0 Hb0 Hb H σ k Q q => h H0 Hb0 Hb H σ k _ fun xs Hb1 H1 g r =>
  ⟨Evl.sz_of (by rw [r.length]; exact hl), fun p hp => q _ _ _ (g.trans (Grow.newm g.s hp)) ⟨p, xs, rfl, free_b g.h hp, free_b g.s hp, upd_same, r⟩⟩
end
end DL

namespace DL
open PySem L2

section
variable {P : Program} {w : World} {K : PySem.W.Frag} {mg : Str → Option Value} {base : Heap} {N : List Str} {sc : List (Str × NameKind)} {k : Nat} {X : Cx} {G : List Sl}
variable {a b c e : Expr} {pos p p2 apos : Pos} {x : Str}

theorem xe_var (C : Cxt P w K mg base N sc k X) (i : Nat) {d : D} (hG : G[i]? = some (.im d)) (hN : N[i]? = some x := by rfl) (hv : VisL sc x := by first | exact Or.inl rfl | exact Or.inr (Or.inl rfl) | exact Or.inr (Or.inr rfl))
    (hd : (x == ("__debug__" : Str)) = false := by decide) (hcd : (x == ("__classdict__" : Str)) = false := by decide) : XE X (.Name x p) G d :=
  upD (pe_var (by rw [C.eN]; exact hN) (C.vis hv) hd hcd) (ev_var hG)
theorem xr_var (C : Cxt P w K mg base N sc k X) (i : Nat) {ds : List D} (hG : G[i]? = some (.ml K ds)) (hN : N[i]? = some x := by rfl) (hv : VisL sc x := by first | exact Or.inl rfl | exact Or.inr (Or.inl rfl) | exact Or.inr (Or.inr rfl))
    (hd : (x == ("__debug__" : Str)) = false := by decide) (hcd : (x == ("__classdict__" : Str)) = false := by decide) : XR X (.Name x p) G ds := by
  have eK := C.eK
  subst eK
  exact upR (pe_var (by rw [C.eN]; exact hN) (C.vis hv) hd hcd) (er_var hG)
theorem XE.r {ds : List D} (h : XE X e G (.lst ds)) : XR X e G ds := EvD.r h
theorem XN.toE {ds : List D} (h : XN X e G ds) : XE X e G (.lst ds) := EvN.toD h
theorem XN.r {ds : List D} (h : XN X e G ds) : XR X e G ds := EvD.r (EvN.toD h)
theorem XE.is {d d' : D} (h : XE X e G d) (q : d = d') : XE X e G d' := q ▸ h
theorem XN.is {d d' : List D} (h : XN X e G d) (q : d = d') : XN X e G d' := q ▸ h
theorem XT.is {d d' : Bool} (h : XT X e G d) (q : d = d') : XT X e G d' := q ▸ h
theorem xe_int {i : Int} {j : Nat} : XE X (.Constant (.int i) j pos) G (dI i) := upD pe_int ev_c
theorem xe_bl {b : Bool} {j : Nat} : XE X (.Constant (.bool b) j pos) G (dB b) := upD pe_bl ev_c
theorem xe_non {j : Nat} : XE X (.Constant .none j pos) G dN := upD pe_non ev_c
theorem xe_str {x : Str} {j : Nat} : XE X (.Constant (.str x) j pos) G (dS x) := upD pe_str ev_c
theorem xe_glob (C : Cxt P w K mg base N sc k X) {v : V} {u : Value} (hm : mg x = some u) (r : RelV v u) (hg : GlL sc x := by rfl) (hd : (x == ("__debug__" : Str)) = false := by decide) : XE X (.Name x p) G (.v v) :=
  upD (pe_glob (C.gl hg) (by rw [C.emg]; exact hm) r hd) ev_c
/-- a tuple of the module -/
theorem xe_globT (C : Cxt P w K mg base N sc k X) {q : Addr} {xs : List V} (hm : mg x = some (.ref q)) (hT : ∀ H, SqT K H q xs) (hg : GlL sc x := by rfl) (hd : (x == ("__debug__" : Str)) = false := by decide) : XE X (.Name x p) G (.sqt xs) := by
  have eK := C.eK
  subst eK
  exact upD (pe_glob (v := .ref q) (C.gl hg) (by rw [C.emg]; exact hm) rfl hd) (fun H0 Hb0 Hb H σ k Q q => q _ Hb H (Grow.refl k.ex) (.sqt (hT _)))

theorem ev_I0 {g : Int → Int → V} {i j : Int} {ta tb : TE} (h1 : EvD K ta G (dI i)) (h2 : EvD K tb G (dI j)) : EvD K (tOp (rI0 g) ta tb) G (.v (g i j)) :=
  evg_op mon_D h1 h2 fun Hs Hb H x y e1 e2 q1 q2 Q q => by
    cases q1; cases q2
    exact ⟨i, j, rfl, rfl, q _ Hb H (Grow.refl e2) (.v _)⟩
theorem ev_I {cc : Int → Int → Prop} {g : Int → Int → V} {i j : Int} {ta tb : TE} (hc : cc i j) (h1 : EvD K ta G (dI i)) (h2 : EvD K tb G (dI j)) : EvD K (tOp (rI cc g) ta tb) G (.v (g i j)) :=
  evg_op mon_D h1 h2 fun Hs Hb H x y e1 e2 q1 q2 Q q => by
    cases q1; cases q2
    exact ⟨i, j, rfl, rfl, hc, q _ Hb H (Grow.refl e2) (.v _)⟩
theorem xe_add {i j : Int} (h1 : XE X a G (dI i)) (h2 : XE X b G (dI j)) : XE X (.BinOp a .Add b pos) G (dI (i + j)) := upD (pe_op op_add (pe_wp X a) (pe_wp X b)) (ev_I0 h1 h2)
theorem xe_sub {i j : Int} (h1 : XE X a G (dI i)) (h2 : XE X b G (dI j)) : XE X (.BinOp a .Sub b pos) G (dI (i - j)) := upD (pe_op op_sub (pe_wp X a) (pe_wp X b)) (ev_I0 h1 h2)
theorem xe_mul {i j : Int} (h1 : XE X a G (dI i)) (h2 : XE X b G (dI j)) (hc : CMul i j) : XE X (.BinOp a .Mult b pos) G (dI (i * j)) := upD (pe_op op_mul (pe_wp X a) (pe_wp X b)) (ev_I hc h1 h2)
theorem xe_fdiv {i j : Int} (h1 : XE X a G (dI i)) (h2 : XE X b G (dI j)) (hc : CDiv i j) : XE X (.BinOp a .FloorDiv b pos) G (dI (i / j)) := upD (pe_op op_fdiv (pe_wp X a) (pe_wp X b)) (ev_I hc h1 h2)
theorem xe_mod {i j : Int} (h1 : XE X a G (dI i)) (h2 : XE X b G (dI j)) (hc : 0 < j) : XE X (.BinOp a .Mod b pos) G (dI (i % j)) := upD (pe_op op_mod (pe_wp X a) (pe_wp X b)) (ev_I (cc := fun _ j => 0 < j) hc h1 h2)
theorem xe_pow {i j : Int} (h1 : XE X a G (dI i)) (h2 : XE X b G (dI j)) (hc : CPow i j) : XE X (.BinOp a .Pow b pos) G (dI (i ^ j.toNat)) := upD (pe_op op_pow (pe_wp X a) (pe_wp X b)) (ev_I hc h1 h2)
theorem xe_addS {i j : Str} (h1 : XE X a G (dS i)) (h2 : XE X b G (dS j)) (hz : i.length + j.length ≤ 100000) : XE X (.BinOp a .Add b pos) G (dS (i ++ j)) :=
  upD (pe_op op_add_str (pe_wp X a) (pe_wp X b)) (evg_op mon_D h1 h2 fun Hs Hb H x y e1 e2 q1 q2 Q q => by
    cases q1; cases q2
    exact ⟨i, j, rfl, rfl, Evl.sz_of hz, q _ Hb H (Grow.refl e2) (.v _)⟩)
/-- list + list -/
theorem xn_cat {ds es : List D} (h1 : XR X a G ds) (h2 : XR X b G es) (hz : ds.length + es.length ≤ 100000) : XN X (.BinOp a .Add b pos) G (ds ++ es) :=
  upN (pe_op op_cat (pe_wp X a) (pe_wp X b)) (evg_op mon_R h1 h2 fun Hs Hb H x y e1 e2 ⟨l, xs, ex, hl, rl⟩ ⟨m, ys, ey, hm, rm⟩ Q q =>
    ⟨l, m, xs, ys, ex, ey, hl, hm, Evl.sz_of (by rw [rl.length, rm.length]; exact hz), fun p hp => q _ Hb _ (Grow.newm e2 hp) ⟨p, _, rfl, free_b e1 hp, free_b e2 hp, upd_same, rl.append rm⟩⟩)
/-- tuple + tuple -/
theorem xe_catT {ds es : List D} (h1 : XE X a G (.tup ds)) (h2 : XE X b G (.tup es)) (hz : ds.length + es.length ≤ 100000) : XE X (.BinOp a .Add b pos) G (.tup (ds ++ es)) :=
  upD (pe_op op_catA (pe_wp X a) (pe_wp X b)) (evg_op mon_D h1 h2 fun Hs Hb H x y e1 e2 q1 q2 Q q => by
    cases q1 with
    | @tup l xs _ hl rl =>
      cases q2 with
      | @tup m ys _ hm rm =>
        refine ⟨l, m, xs, ys, rfl, rfl, SqT.of (e2 _ _ hl), SqT.of (e2 _ _ hm), Evl.sz_of (by rw [rl.length, rm.length]; exact hz), fun z => ?_, fun _ z => ?_, fun _ _ p hp => ?_⟩
        · subst z
          cases rl
          exact q _ Hb H (Grow.refl e2) (.tup hm rm)
        · subst z
          cases rm
          rw [List.append_nil] at q
          exact q _ Hb H (Grow.refl e2) (.tup hl rl)
        · exact q _ _ _ (Grow.new e2 hp) (.tup upd_same ((rl.append rm).mono (ex_new (free_b e2 hp)))))

theorem pc_op {op : CmpOp} {r : R2} (ho : OpR X (compareOp op) r) (a b : Expr) : PC X op a b (tOp r (wpE X a) (wpE X b)) :=
  ⟨fun pins s σ H Q I h => bin (pe_wp X a) (pe_wp X b) I h fun v u s2 x y H2 I2 rx ry q => ho pins s2 σ H2 x y v u Q I2 rx ry q⟩
theorem xc_lt {i j : Int} (h1 : XE X a G (dI i)) (h2 : XE X b G (dI j)) : XC X .Lt a b G (decide (i < j)) := upC (pc_op op_lt a b) (ev_I0 h1 h2)
theorem xc_le {i j : Int} (h1 : XE X a G (dI i)) (h2 : XE X b G (dI j)) : XC X .LtE a b G (decide (i ≤ j)) := upC (pc_op op_le a b) (ev_I0 h1 h2)
theorem xc_gt {i j : Int} (h1 : XE X a G (dI i)) (h2 : XE X b G (dI j)) : XC X .Gt a b G (decide (j < i)) := upC (pc_op op_gt a b) (ev_I0 h1 h2)
theorem xc_ge {i j : Int} (h1 : XE X a G (dI i)) (h2 : XE X b G (dI j)) : XC X .GtE a b G (decide (j ≤ i)) := upC (pc_op op_ge a b) (ev_I0 h1 h2)
theorem xc_eq {u v : V} (h1 : XE X a G (.v u)) (h2 : XE X b G (.v v)) (hs : scal u v = true) : XC X .Eq a b G (decide (u = v)) :=
  upC (pc_op op_eq a b) (evg_op mon_D h1 h2 fun Hs Hb H x y e1 e2 q1 q2 Q q => by
    cases q1; cases q2
    exact ⟨hs, q _ Hb H (Grow.refl e2) (.v _)⟩)
theorem xc_ne {u v : V} (h1 : XE X a G (.v u)) (h2 : XE X b G (.v v)) (hs : scal u v = true) : XC X .NotEq a b G (!decide (u = v)) :=
  upC (pc_op op_ne a b) (evg_op mon_D h1 h2 fun Hs Hb H x y e1 e2 q1 q2 Q q => by
    cases q1; cases q2
    exact ⟨hs, q _ Hb H (Grow.refl e2) (.v _)⟩)
theorem rep_non {H : Hp} {x : V} {d : D} (r : Rep K H x d) (n : d ≠ .v .non) (n2 : d ≠ .any) : decide (x = V.non) = false := by
  cases r with
  | v x => exact decide_eq_false fun e => n (by rw [e])
  | any x => exact absurd rfl n2
  | _ => rfl
theorem xc_isN {d : D} (h1 : XE X a G d) (h2 : XE X b G dN) (n : d ≠ .v .non) (n2 : d ≠ .any) : XC X .Is a b G false :=
  upC (pc_op op_isN a b) (evg_op mon_D h1 h2 fun Hs Hb H x y e1 e2 q1 q2 Q q => by
    cases q2
    refine ⟨rfl, ?_⟩
    rw [rep_non q1 n n2]
    exact q _ Hb H (Grow.refl e2) (.v _))
theorem xc_isN' (h1 : XE X a G dN) (h2 : XE X b G dN) : XC X .Is a b G true :=
  upC (pc_op op_isN a b) (evg_op mon_D h1 h2 fun Hs Hb H x y e1 e2 q1 q2 Q q => by
    cases q1; cases q2
    exact ⟨rfl, q _ Hb H (Grow.refl e2) (.v _)⟩)
theorem xc_notN {d : D} (h1 : XE X a G d) (h2 : XE X b G dN) (n : d ≠ .v .non) (n2 : d ≠ .any) : XC X .IsNot a b G true :=
  upC (pc_op op_notN a b) (evg_op mon_D h1 h2 fun Hs Hb H x y e1 e2 q1 q2 Q q => by
    cases q2
    refine ⟨rfl, ?_⟩
    rw [rep_non q1 n n2]
    exact q _ Hb H (Grow.refl e2) (.v _))
theorem xc_notN' (h1 : XE X a G dN) (h2 : XE X b G dN) : XC X .IsNot a b G false :=
  upC (pc_op op_notN a b) (evg_op mon_D h1 h2 fun Hs Hb H x y e1 e2 q1 q2 Q q => by
    cases q1; cases q2
    exact ⟨rfl, q _ Hb H (Grow.refl e2) (.v _)⟩)
theorem xc_inL {u : V} {vs : List V} (h1 : XE X a G (.v u)) (h2 : XR X b G (vs.map D.v)) (hf : flatV u = true) (ha : vs.all flatV = true) : XC X .In a b G (inV u vs) :=
  upC (pc_op op_in_seq a b) (evg_op mon_D h1 h2 fun Hs Hb H x y e1 e2 q1 ⟨l, xs, ey, hl, rl⟩ Q q => by
    cases q1
    have e3 := reps_flat rl
    subst e3
    exact ⟨l, xs, ey, .inl (SqL.of hl), hf, ha, q _ Hb H (Grow.refl e2) (.v _)⟩)
theorem xc_niL {u : V} {vs : List V} (h1 : XE X a G (.v u)) (h2 : XR X b G (vs.map D.v)) (hf : flatV u = true) (ha : vs.all flatV = true) : XC X .NotIn a b G (!inV u vs) :=
  upC (pc_op op_notIn_seq a b) (evg_op mon_D h1 h2 fun Hs Hb H x y e1 e2 q1 ⟨l, xs, ey, hl, rl⟩ Q q => by
    cases q1
    have e3 := reps_flat rl
    subst e3
    exact ⟨l, xs, ey, .inl (SqL.of hl), hf, ha, q _ Hb H (Grow.refl e2) (.v _)⟩)
theorem xc_inT {u : V} {vs : List V} (h1 : XE X a G (.v u)) (h2 : XE X b G (.tup (vs.map D.v))) (hf : flatV u = true) (ha : vs.all flatV = true) : XC X .In a b G (inV u vs) :=
  upC (pc_op op_in_seq a b) (evg_op mon_D h1 h2 fun Hs Hb H x y e1 e2 q1 q2 Q q => by
    cases q1
    cases q2 with
    | @tup l xs _ hl rl =>
      have e3 := reps_flat rl
      subst e3
      exact ⟨l, xs, rfl, .inr (SqT.of (e2 _ _ hl)), hf, ha, q _ Hb H (Grow.refl e2) (.v _)⟩)
theorem xc_niG {u : V} {vs : List V} (h1 : XE X a G (.v u)) (h2 : XE X b G (.sqt vs)) (hf : flatV u = true) (ha : vs.all flatV = true) : XC X .NotIn a b G (!inV u vs) :=
  upC (pc_op op_notIn_seq a b) (evg_op mon_D h1 h2 fun Hs Hb H x y e1 e2 q1 q2 Q q => by
    cases q1
    cases q2 with
    | @sqt l xs hl => exact ⟨l, _, rfl, .inr (Evl.ex_t e2 hl), hf, ha, q _ Hb H (Grow.refl e2) (.v _)⟩)
theorem xe_cmp {op : CmpOp} {c : Bool} (h : XC X op a b G c) (h1 : behindInMarks op b = false := by first | exact nobehind _ (by decide) (by decide) | rfl) : XE X (.Compare a [op] [b] pos) G (dB c) := upD (pe_cmp (pc_wp X op a b) h1) h
theorem xt_cmp {op : CmpOp} {c : Bool} (h : XC X op a b G c) (h1 : behindInMarks op b = false := by first | exact nobehind _ (by decide) (by decide) | rfl) : XT X (.Compare a [op] [b] pos) G c := upT (pt_cmp (pc_wp X op a b) h1) (et_B h)
/-- least <= n <= most -/
theorem xt_chain {i j l : Int} (h1 : XE X a G (dI i)) (h2 : XE X b G (dI j)) (h3 : XE X c G (dI l)) (hm : lastMarks [CmpOp.LtE, CmpOp.LtE] [b, c] = false := by with_unfolding_all rfl) :
    XT X (.Compare a [.LtE, .LtE] [b, c] pos) G (decide (i ≤ j) && decide (j ≤ l)) :=
  upT (pt_chain op_le op_le (pe_wp X a) (pe_wp X b) (pe_wp X c) hm) (et_test fun H0 Hb0 Hb H σ k Q q => h1 H0 Hb0 Hb H σ k _ fun x Hb1 H1 g1 r1 => h2 H0 Hb0 Hb1 H1 σ (k.up g1) _ fun y Hb2 H2 g2 r2 => by
    cases r1; cases r2
    refine ⟨i, j, rfl, rfl, decide (i ≤ j), rfl, ?_⟩
    cases hd : decide (i ≤ j) with
    | true =>
      refine h3 H0 Hb0 Hb2 H2 σ ((k.up g1).up g2) _ fun z Hb3 H3 g3 r3 => ?_
      cases r3
      rw [hd] at q
      exact ⟨j, l, rfl, rfl, q _ Hb3 H3 ((g1.trans g2).trans g3) (.v _)⟩
    | false =>
      rw [hd] at q
      exact q _ Hb2 H2 (g1.trans g2) (.v _))

theorem xt_val {c : Bool} (h : XE X e G (dB c)) (he : ∀ whole, isTrue e X.env whole = (do let v ← whole; standAt e.pos; holding [v] (truthy v)) := by intro _; rfl) : XT X e G c := upT (pt_val (pe_wp X e) he) (et_B h)
theorem xt_list {ds : List D} (h : XR X e G ds) (he : ∀ whole, isTrue e X.env whole = (do let v ← whole; standAt e.pos; holding [v] (truthy v)) := by intro _; rfl) : XT X e G (!ds.isEmpty) :=
  upT (pt_truth (pe_wp X e) he) fun H0 Hb0 Hb H σ k Q q => h H0 Hb0 Hb H σ k _ fun x Hb1 H1 g ⟨l, xs, e, hl, r⟩ => by
    subst e
    refine ⟨!xs.isEmpty, .inl ⟨xs, SqL.of hl, rfl⟩, ?_⟩
    have e2 : xs.isEmpty = ds.isEmpty := by cases r <;> rfl
    rw [e2]
    exact q Hb1 H1 g
theorem xt_not {c : Bool} (h : XT X a G c) : XT X (.UnaryOp .Not a pos) G (!c) := upT (pt_not (pt_wp X a)) (et_not h)
theorem XW.t {c : Bool} (h : XW X e G c) : XT X e G c := upT (pw_wp X e).pt h
theorem xw_and1 {c : Bool} (h : XT X a G c) : XW X (.BoolOp .And [a] pos) G c := upW (pw_and1 (pt_wp X a)) h
theorem xw_or1 {c : Bool} (h : XT X a G c) : XW X (.BoolOp .Or [a] pos) G c := upW (pw_or1 (pt_wp X a)) h
theorem xw_and {rest : List Expr} {c d : Bool} (h : XT X a G c) (h2 : c = true → XW X (.BoolOp .And (b :: rest) pos) G d) : XW X (.BoolOp .And (a :: b :: rest) pos) G (c && d) := upW (pw_and (pt_wp X a) (pw_wp X _)) (et_and h h2)
theorem xw_or {rest : List Expr} {c d : Bool} (h : XT X a G c) (h2 : c = false → XW X (.BoolOp .Or (b :: rest) pos) G d) : XW X (.BoolOp .Or (a :: b :: rest) pos) G (c || d) := upW (pw_or (pt_wp X a) (pw_wp X _)) (et_or h h2)
theorem xt_and2 {c d : Bool} (h : XT X a G c) (h2 : c = true → XT X b G d) : XT X (.BoolOp .And [a, b] pos) G (c && d) := (xw_and h fun q => xw_and1 (h2 q)).t
theorem xt_or2 {c d : Bool} (h : XT X a G c) (h2 : c = false → XT X b G d) : XT X (.BoolOp .Or [a, b] pos) G (c || d) := (xw_or h fun q => xw_or1 (h2 q)).t
theorem xt_and3 {e1 e2 e3 : Expr} {c d f : Bool} (h : XT X e1 G c) (h2 : c = true → XT X e2 G d) (h3 : c = true → d = true → XT X e3 G f) : XT X (.BoolOp .And [e1, e2, e3] pos) G (c && (d && f)) := (xw_and h fun q => xw_and (h2 q) fun q2 => xw_and1 (h3 q q2)).t
theorem xt_or3 {e1 e2 e3 : Expr} {c d f : Bool} (h : XT X e1 G c) (h2 : c = false → XT X e2 G d) (h3 : c = false → d = false → XT X e3 G f) : XT X (.BoolOp .Or [e1, e2, e3] pos) G (c || (d || f)) := (xw_or h fun q => xw_or (h2 q) fun q2 => xw_or1 (h3 q q2)).t
/-- and, or, not as values -/
theorem xe_one {op : BoolOp} {d : D} (h : XE X a G d) : XE X (.BoolOp op [a] pos) G d := upD (pe_one (pe_wp X a)) h
theorem xe_and {rest : List Expr} {c d : Bool} (h : XE X a G (dB c)) (h2 : c = true → XE X (.BoolOp .And (b :: rest) pos) G (dB d)) : XE X (.BoolOp .And (a :: b :: rest) pos) G (dB (c && d)) := upD (pe_and (pe_wp X a) (pe_wp X _)) (ev_andV h h2)
theorem xe_or {rest : List Expr} {c d : Bool} (h : XE X a G (dB c)) (h2 : c = false → XE X (.BoolOp .Or (b :: rest) pos) G (dB d)) : XE X (.BoolOp .Or (a :: b :: rest) pos) G (dB (c || d)) := upD (pe_or (pe_wp X a) (pe_wp X _)) (ev_orV h h2)
theorem xe_and2 {c d : Bool} (h : XE X a G (dB c)) (h2 : c = true → XE X b G (dB d)) : XE X (.BoolOp .And [a, b] pos) G (dB (c && d)) := xe_and h fun q => xe_one (h2 q)
theorem xe_or2 {c d : Bool} (h : XE X a G (dB c)) (h2 : c = false → XE X b G (dB d)) : XE X (.BoolOp .Or [a, b] pos) G (dB (c || d)) := xe_or h fun q => xe_one (h2 q)
theorem xe_and3 {e1 e2 e3 : Expr} {c d f : Bool} (h : XE X e1 G (dB c)) (h2 : c = true → XE X e2 G (dB d)) (h3 : c = true → d = true → XE X e3 G (dB f)) : XE X (.BoolOp .And [e1, e2, e3] pos) G (dB (c && (d && f))) := xe_and h fun q => xe_and (h2 q) fun q2 => xe_one (h3 q q2)
theorem xe_not {c : Bool} (h : XE X a G (dB c)) : XE X (.UnaryOp .Not a pos) G (dB (!c)) := upD (pe_not (pe_wp X a)) (ev_notV h)

theorem atI_reps {H : Hp} {xs : List V} {ds : List D} {i : Int} {d : D} (r : Reps K H xs ds) (h : atI ds i = some d) : ∃ x, atI xs i = some x ∧ Rep K H x d := by
  unfold atI at h ⊢
  rw [r.length]
  cases e : ixN ds.length i with
  | none => rw [e] at h; cases h
  | some j =>
    rw [e] at h
    exact r.get (i := j) h
theorem xe_ixL {ds : List D} {i : Int} {d : D} (h1 : XR X a G ds) (h2 : XE X b G (dI i)) (hd : atI ds i = some d) (hs : PlainIx b := by intro _ _; rfl) : XE X (.Subscript a b pos) G d :=
  upD (pe_ix ix_list (pe_wp X a) (pe_wp X b) hs) (evg_op mon_R h1 h2 fun Hs Hb H x y e1 e2 ⟨l, xs, ex, hl, rl⟩ q2 Q q => by
    cases q2
    obtain ⟨v, hv, rv⟩ := atI_reps rl hd
    exact ⟨l, xs, i, v, ex, rfl, SqL.of hl, hv, q _ Hb H (Grow.refl e2) rv⟩)
theorem xe_ixT {ds : List D} {i : Int} {d : D} (h1 : XE X a G (.tup ds)) (h2 : XE X b G (dI i)) (hd : atI ds i = some d) (hs : PlainIx b := by intro _ _; rfl) : XE X (.Subscript a b pos) G d :=
  upD (pe_ix ix_tup (pe_wp X a) (pe_wp X b) hs) (evg_op mon_D h1 h2 fun Hs Hb H x y e1 e2 q1 q2 Q q => by
    cases q2
    cases q1 with
    | @tup l xs _ hl rl =>
      obtain ⟨v, hv, rv⟩ := atI_reps rl hd
      exact ⟨l, xs, i, v, rfl, rfl, SqT.of (e2 _ _ hl), hv, q _ Hb H (Grow.refl e2) rv⟩)
theorem xe_ixS {z : Str} {i : Int} {c : Nat} (h1 : XE X a G (dS z)) (h2 : XE X b G (dI i)) (hz : z.length ≤ 100000) (hd : atI z.cps.toList i = some c) (hs : PlainIx b := by intro _ _; rfl) : XE X (.Subscript a b pos) G (dS ⟨#[c]⟩) :=
  upD (pe_ix ix_str (pe_wp X a) (pe_wp X b) hs) (evg_op mon_D h1 h2 fun Hs Hb H x y e1 e2 q1 q2 Q q => by
    cases q1; cases q2
    exact ⟨z, i, c, rfl, rfl, Evl.sz_of hz, hd, q _ Hb H (Grow.refl e2) (.v _)⟩)

theorem xo_none : XO X none G none := upO po_none fun H0 Hb0 Hb H σ k Q q => q Hb H (Grow.refl k.ex)
theorem xo_some {i : Int} (h : XE X e G (dI i)) : XO X (some e) G (some i) := upO (po_some (pe_wp X e)) fun H0 Hb0 Hb H σ k Q q => h H0 Hb0 Hb H σ k _ fun x Hb1 H1 g r => by
  cases r
  exact ⟨i, rfl, q Hb1 H1 g⟩
def cutD (ds : List D) (lo hi : Option Int) : List D := (ds.drop (HT.sIx ds.length 0 lo)).take (HT.sIx ds.length ds.length hi - HT.sIx ds.length 0 lo)
theorem cut_reps {H : Hp} {xs : List V} {ds : List D} (r : Reps K H xs ds) (lo hi : Option Int) : Reps K H (cutV xs lo hi) (cutD ds lo hi) := by
  unfold cutV cutD
  rw [r.length]
  exact (r.drop _).take _
theorem evg_sl {r : V → Option Int → Option Int → Hp → VK → Prop} {p1 : Hp → Hp → V → Prop} {W : Hp → Hp → Hp → V → Prop} {te : TE} {tl th : TO} {lo hi : Option Int} (m1 : MonP p1) (h1 : EvG K te G fun _ => p1) (hl : EvO K tl G lo) (hh : EvO K th G hi)
    (hr : ∀ Hs Hb H x, Ex Hs H → Ex Hb H → p1 Hb H x → ∀ Q : VK, (∀ z Hb' H', Grow Hb H Hb' H' → W Hs Hb' H' z → Q z H') → r x lo hi H Q) : EvG K (tSl r te tl th) G W :=
  fun H0 Hb0 Hb H σ k Q q => h1 H0 Hb0 Hb H σ k _ fun x Hb1 H1 g1 q1 => hl H0 Hb0 Hb1 H1 σ (k.up g1) _ fun Hb2 H2 g2 => hh H0 Hb0 Hb2 H2 σ ((k.up g1).up g2) _ fun Hb3 H3 g3 =>
    hr H Hb3 H3 x (ex_tr g1.h (ex_tr g2.h g3.h)) g3.s (m1 _ _ _ _ _ (g2.trans g3) q1) Q fun z Hb' H' g4 w4 => q z Hb' H' (((g1.trans g2).trans g3).trans g4) w4
variable {lo hi : Option Expr} {o1 o2 : Option Int}
theorem xn_slL {ds : List D} (h1 : XR X a G ds) (h2 : XO X lo G o1) (h3 : XO X hi G o2) : XN X (.Subscript a (.Slice lo hi none p2) pos) G (cutD ds o1 o2) :=
  upN (pe_slice sl_list (pe_wp X a) (po_wp X lo) (po_wp X hi)) (evg_sl mon_R h1 h2 h3 fun Hs Hb H x e1 e2 ⟨l, xs, ex, hl, rl⟩ Q q =>
    ⟨l, xs, ex, SqL.of hl, fun p hp => q _ Hb _ (Grow.newm e2 hp) ⟨p, _, rfl, free_b e1 hp, free_b e2 hp, upd_same, cut_reps rl _ _⟩⟩)
/-- of a list that is read (the script) -/
theorem xn_slQ {vs : List V} (h1 : XE X a G (.sq vs)) (h2 : XO X lo G o1) (h3 : XO X hi G o2) : XN X (.Subscript a (.Slice lo hi none p2) pos) G ((cutV vs o1 o2).map D.v) :=
  upN (pe_slice sl_list (pe_wp X a) (po_wp X lo) (po_wp X hi)) (evg_sl mon_D h1 h2 h3 fun Hs Hb H x e1 e2 q1 Q q => by
    cases q1 with
    | @sq l _ hl => exact ⟨l, vs, rfl, Evl.ex_l e2 hl, fun p hp => q _ Hb _ (Grow.newm e2 hp) ⟨p, _, rfl, free_b e1 hp, free_b e2 hp, upd_same, reps_v _⟩⟩)
theorem xe_slT {ds : List D} (h1 : XE X a G (.tup ds)) (h2 : XO X lo G o1) (h3 : XO X hi G o2) : XE X (.Subscript a (.Slice lo hi none p2) pos) G (.tup (cutD ds o1 o2)) :=
  upD (pe_slice sl_tupA (pe_wp X a) (po_wp X lo) (po_wp X hi)) (evg_sl mon_D h1 h2 h3 fun Hs Hb H x e1 e2 q1 Q q => by
    cases q1 with
    | @tup l xs _ hl rl =>
      refine ⟨l, xs, rfl, SqT.of (e2 _ _ hl), fun hw => ?_, fun _ p hp => q _ _ _ (Grow.new e2 hp) (.tup upd_same ((cut_reps rl _ _).mono (ex_new (free_b e2 hp))))⟩
      have e3 : cutD ds o1 o2 = ds := by
        unfold cutD
        rw [← rl.length, hw.1, hw.2, Nat.sub_zero, List.drop_zero, rl.length, List.take_length]
      rw [e3] at q
      exact q _ Hb H (Grow.refl e2) (.tup hl rl))
theorem xe_slS {z : Str} (h1 : XE X a G (dS z)) (h2 : XO X lo G o1) (h3 : XO X hi G o2) (hz : z.length ≤ 100000) : XE X (.Subscript a (.Slice lo hi none p2) pos) G (dS (cutS z o1 o2)) :=
  upD (pe_slice sl_str (pe_wp X a) (po_wp X lo) (po_wp X hi)) (evg_sl mon_D h1 h2 h3 fun Hs Hb H x e1 e2 q1 Q q => by
    cases q1
    exact ⟨z, rfl, Evl.sz_of hz, q _ Hb H (Grow.refl e2) (.v _)⟩)

theorem xa_nil : XA X [] G [] := upA pa_nil eva_nil
theorem xa_cons {es : List Expr} {d : D} {ds : List D} (h1 : XE X e G d) (h2 : XA X es G ds) (hs : starEach (e :: es) X.env = (false, eval e X.env) :: starEach es X.env := by rfl) : XA X (e :: es) G (d :: ds) := upA (pa_cons (pe_wp X e) (pa_wp X es) hs) (eva_cons h1 h2)
theorem xe_tup {es : List Expr} {ds : List D} {j : Nat} (h : XA X es G ds) (hl : ds.length ≤ 100000) : XE X (.Tuple es j pos) G (.tup ds) := upD (pe_tup (pa_wp X es)) (ev_tup h hl)
theorem xn_lst {es : List Expr} {ds : List D} (h : XA X es G ds) (hl : ds.length ≤ 100000) : XN X (.List es pos) G ds := upN (pe_lst (pa_wp X es)) (en_lst h hl)
theorem xe_tup2 {d1 d2 : D} {j : Nat} (h1 : XE X a G d1) (h2 : XE X b G d2) (hs : starEach [a, b] X.env = (false, eval a X.env) :: starEach [b] X.env := by rfl) (hs2 : starEach [b] X.env = (false, eval b X.env) :: starEach [] X.env := by rfl) : XE X (.Tuple [a, b] j pos) G (.tup [d1, d2]) :=
  xe_tup (xa_cons h1 (xa_cons h2 xa_nil hs2) hs) (by simp)
theorem xe_tup3 {d1 d2 d3 : D} {j : Nat} (h1 : XE X a G d1) (h2 : XE X b G d2) (h3 : XE X c G d3) (hs : starEach [a, b, c] X.env = (false, eval a X.env) :: starEach [b, c] X.env := by rfl) (hs2 : starEach [b, c] X.env = (false, eval b X.env) :: starEach [c] X.env := by rfl)
    (hs3 : starEach [c] X.env = (false, eval c X.env) :: starEach [] X.env := by rfl) : XE X (.Tuple [a, b, c] j pos) G (.tup [d1, d2, d3]) := xe_tup (xa_cons h1 (xa_cons h2 (xa_cons h3 xa_nil hs3) hs2) hs) (by simp)
theorem xn_nil : XN X (.List [] pos) G [] := xn_lst xa_nil (Nat.zero_le _)

/-- one argument -/
theorem pa_one (hs : starEach [e] X.env = (false, eval e X.env) :: starEach [] X.env := by rfl) : PA X [e] (tCons (wpE X e) tNil) := pa_cons (pe_wp X e) pa_nil hs
theorem xe_lenL (C : Cxt P w K mg base N sc k X) {ds : List D} (hm : mg "len" = none) (h : XR X e G ds) (hg : GlL sc "len" := by rfl) (hs : starEach [e] X.env = (false, eval e X.env) :: starEach [] X.env := by rfl) (hpl : (backTo pos (starEach [] X.env)).any (·.1) = false := by rfl) :
    XE X (.Call (.Name "len" p) [e] [] pos) G (dI ds.length) :=
  upD (pe_callB call_len_seq (C.gl hg) (by rw [C.emg]; exact hm) PySem.boot_len (pa_one hs) (he := hs) (hpl := hpl)) (evg_cb1 h fun Hs Hb H x e1 e2 ⟨l, xs, ex, hl, rl⟩ Q q =>
    ⟨l, xs, by rw [ex], .inl (SqL.of hl), by rw [rl.length]; exact q _ Hb H (Grow.refl e2) (.v _)⟩)
theorem xe_lenT (C : Cxt P w K mg base N sc k X) {ds : List D} (hm : mg "len" = none) (h : XE X e G (.tup ds)) (hg : GlL sc "len" := by rfl) (hs : starEach [e] X.env = (false, eval e X.env) :: starEach [] X.env := by rfl) (hpl : (backTo pos (starEach [] X.env)).any (·.1) = false := by rfl) :
    XE X (.Call (.Name "len" p) [e] [] pos) G (dI ds.length) :=
  upD (pe_callB call_len_seq (C.gl hg) (by rw [C.emg]; exact hm) PySem.boot_len (pa_one hs) (he := hs) (hpl := hpl)) (evg_cb1 h fun Hs Hb H x e1 e2 q1 Q q => by
    cases q1 with
    | @tup l xs _ hl rl => exact ⟨l, xs, rfl, .inr (SqT.of (e2 _ _ hl)), by rw [rl.length]; exact q _ Hb H (Grow.refl e2) (.v _)⟩)
theorem xe_lenS (C : Cxt P w K mg base N sc k X) {z : Str} (hm : mg "len" = none) (h : XE X e G (dS z)) (hz : z.length ≤ 100000) (hg : GlL sc "len" := by rfl) (hs : starEach [e] X.env = (false, eval e X.env) :: starEach [] X.env := by rfl) (hpl : (backTo pos (starEach [] X.env)).any (·.1) = false := by rfl) :
    XE X (.Call (.Name "len" p) [e] [] pos) G (dI z.length) :=
  upD (pe_callB call_len_str (C.gl hg) (by rw [C.emg]; exact hm) PySem.boot_len (pa_one hs) (he := hs) (hpl := hpl)) (evg_cb1 h fun Hs Hb H x e1 e2 q1 Q q => by
    cases q1
    exact ⟨z, rfl, Evl.sz_of hz, q _ Hb H (Grow.refl e2) (.v _)⟩)
theorem xe_abs (C : Cxt P w K mg base N sc k X) {i : Int} (hm : mg "abs" = none) (h : XE X e G (dI i)) (hg : GlL sc "abs" := by rfl) (hs : starEach [e] X.env = (false, eval e X.env) :: starEach [] X.env := by rfl) (hpl : (backTo pos (starEach [] X.env)).any (·.1) = false := by rfl) :
    XE X (.Call (.Name "abs" p) [e] [] pos) G (dI (if i < 0 then -i else i)) :=
  upD (pe_callB call_abs (C.gl hg) (by rw [C.emg]; exact hm) (by decide +kernel) (pa_one hs) (he := hs) (hpl := hpl)) (evg_cb1 h fun Hs Hb H x e1 e2 q1 Q q => by
    cases q1
    exact ⟨i, rfl, q _ Hb H (Grow.refl e2) (.v _)⟩)
theorem xe_intI (C : Cxt P w K mg base N sc k X) {i : Int} (hm : mg "int" = none) (h : XE X e G (dI i)) (hg : GlL sc "int" := by rfl) (hs : starEach [e] X.env = (false, eval e X.env) :: starEach [] X.env := by rfl) (hpl : (backTo pos (starEach [] X.env)).any (·.1) = false := by rfl) :
    XE X (.Call (.Name "int" p) [e] [] pos) G (dI i) :=
  upD (pe_callTy call_int1 (C.gl hg) (by rw [C.emg]; exact hm) PyProof.Rows.boot_int (pa_one hs) (he := hs) (hpl := hpl)) (evg_cb1 h fun Hs Hb H x e1 e2 q1 Q q => by
    cases q1
    exact .inl ⟨i, rfl, q _ Hb H (Grow.refl e2) (.v _)⟩)
theorem xe_intB (C : Cxt P w K mg base N sc k X) {c : Bool} (hm : mg "int" = none) (h : XE X e G (dB c)) (hg : GlL sc "int" := by rfl) (hs : starEach [e] X.env = (false, eval e X.env) :: starEach [] X.env := by rfl) (hpl : (backTo pos (starEach [] X.env)).any (·.1) = false := by rfl) :
    XE X (.Call (.Name "int" p) [e] [] pos) G (dI (if c then 1 else 0)) :=
  upD (pe_callTy call_int1 (C.gl hg) (by rw [C.emg]; exact hm) PyProof.Rows.boot_int (pa_one hs) (he := hs) (hpl := hpl)) (evg_cb1 h fun Hs Hb H x e1 e2 q1 Q q => by
    cases q1
    exact .inr ⟨c, rfl, q _ Hb H (Grow.refl e2) (.v _)⟩)
theorem pa_two (hs : starEach [a, b] X.env = (false, eval a X.env) :: starEach [b] X.env := by rfl) (hs2 : starEach [b] X.env = (false, eval b X.env) :: starEach [] X.env := by rfl) : PA X [a, b] (tCons (wpE X a) (tCons (wpE X b) tNil)) := pa_cons (pe_wp X a) (pa_one hs2) hs
theorem xe_max2 (C : Cxt P w K mg base N sc k X) {i j : Int} (hm : mg "max" = none) (h1 : XE X a G (dI i)) (h2 : XE X b G (dI j)) (hg : GlL sc "max" := by rfl) (hs : starEach [a, b] X.env = (false, eval a X.env) :: starEach [b] X.env := by rfl)
    (hs2 : starEach [b] X.env = (false, eval b X.env) :: starEach [] X.env := by rfl) (hpl : (backTo pos (starEach [b] X.env)).any (·.1) = false := by rfl) : XE X (.Call (.Name "max" p) [a, b] [] pos) G (dI (if j > i then j else i)) :=
  upD (pe_callB (call_max2 C.calm) (C.gl hg) (by rw [C.emg]; exact hm) (by decide +kernel) (pa_two hs hs2) (he := hs) (hpl := hpl)) (evg_cb (eva_cons h1 (eva_cons h2 eva_nil)) fun Hs Hb H xs e1 e2 r Q q => by
    obtain ⟨_, _⟩ | ⟨q1, _ | ⟨q2, r3⟩⟩ := r
    cases q1; cases q2; cases r3
    exact ⟨i, j, rfl, q _ Hb H (Grow.refl e2) (.v _)⟩)
theorem xe_min2 (C : Cxt P w K mg base N sc k X) {i j : Int} (hm : mg "min" = none) (h1 : XE X a G (dI i)) (h2 : XE X b G (dI j)) (hg : GlL sc "min" := by rfl) (hs : starEach [a, b] X.env = (false, eval a X.env) :: starEach [b] X.env := by rfl)
    (hs2 : starEach [b] X.env = (false, eval b X.env) :: starEach [] X.env := by rfl) (hpl : (backTo pos (starEach [b] X.env)).any (·.1) = false := by rfl) : XE X (.Call (.Name "min" p) [a, b] [] pos) G (dI (if j < i then j else i)) :=
  upD (pe_callB (call_min2 C.calm) (C.gl hg) (by rw [C.emg]; exact hm) (by decide +kernel) (pa_two hs hs2) (he := hs) (hpl := hpl)) (evg_cb (eva_cons h1 (eva_cons h2 eva_nil)) fun Hs Hb H xs e1 e2 r Q q => by
    obtain ⟨_, _⟩ | ⟨q1, _ | ⟨q2, r3⟩⟩ := r
    cases q1; cases q2; cases r3
    exact ⟨i, j, rfl, q _ Hb H (Grow.refl e2) (.v _)⟩)
/-- min of a list of ints -/
theorem xe_minL (C : Cxt P w K mg base N sc k X) {ns : List Int} {m : Int} (hm : mg "min" = none) (h : XR X e G (ns.map dI)) (h1 : m ∈ ns) (h2 : ∀ y ∈ ns, m ≤ y) (hg : GlL sc "min" := by rfl) (hs : starEach [e] X.env = (false, eval e X.env) :: starEach [] X.env := by rfl)
    (hpl : (backTo pos (starEach [] X.env)).any (·.1) = false := by rfl) : XE X (.Call (.Name "min" p) [e] [] pos) G (dI m) :=
  upD (pe_callB (cr_min C.calm) (C.gl hg) (by rw [C.emg]; exact hm) (by decide +kernel) (pa_one hs) (he := hs) (hpl := hpl)) (evg_cb1 h fun Hs Hb H x e1 e2 ⟨l, xs, ex, hl, rl⟩ Q q => by
    have e3 : ns.map dI = (ns.map V.int).map D.v := by rw [List.map_map]; rfl
    rw [e3] at rl
    have e4 := reps_flat rl
    subst e4
    refine ⟨l, ns, by rw [ex], SqL.of hl, List.length_pos_of_mem h1, fun m' hm1 hm2 => ?_⟩
    have e5 : m' = m := Int.le_antisymm (hm2 m h1) (h2 m' hm1)
    rw [e5]
    exact q _ Hb H (Grow.refl e2) (.v _))
theorem xe_all (C : Cxt P w K mg base N sc k X) {bs : List Bool} (hm : mg "all" = none) (h : XR X e G (bs.map dB)) (hg : GlL sc "all" := by rfl) (hs : starEach [e] X.env = (false, eval e X.env) :: starEach [] X.env := by rfl)
    (hpl : (backTo pos (starEach [] X.env)).any (·.1) = false := by rfl) : XE X (.Call (.Name "all" p) [e] [] pos) G (dB (bs.all id)) :=
  upD (pe_callB (cr_all C.calm) (C.gl hg) (by rw [C.emg]; exact hm) (by decide +kernel) (pa_one hs) (he := hs) (hpl := hpl)) (evg_cb1 h fun Hs Hb H x e1 e2 ⟨l, xs, ex, hl, rl⟩ Q q => by
    have e3 : bs.map dB = (bs.map V.bl).map D.v := by rw [List.map_map]; rfl
    rw [e3] at rl
    have e4 := reps_flat rl
    subst e4
    exact ⟨l, bs, by rw [ex], SqL.of hl, q _ Hb H (Grow.refl e2) (.v _)⟩)
/-- list(list), list(tuple), tuple(list), tuple(tuple) -/
theorem xn_listL (C : Cxt P w K mg base N sc k X) {ds : List D} (hm : mg "list" = none) (h : XR X e G ds) (hg : GlL sc "list" := by rfl) (hs : starEach [e] X.env = (false, eval e X.env) :: starEach [] X.env := by rfl) (hpl : (backTo pos (starEach [] X.env)).any (·.1) = false := by rfl) :
    XN X (.Call (.Name "list" p) [e] [] pos) G ds :=
  upN (pe_callTy call_list_of (C.gl hg) (by rw [C.emg]; exact hm) (by decide +kernel) (pa_one hs) (he := hs) (hpl := hpl)) (evg_cb1 h fun Hs Hb H x e1 e2 ⟨l, xs, ex, hl, rl⟩ Q q =>
    ⟨l, xs, by rw [ex], .inl (SqL.of hl), fun p hp => q _ Hb _ (Grow.newm e2 hp) ⟨p, xs, rfl, free_b e1 hp, free_b e2 hp, upd_same, rl⟩⟩)
theorem xn_listT (C : Cxt P w K mg base N sc k X) {ds : List D} (hm : mg "list" = none) (h : XE X e G (.tup ds)) (hg : GlL sc "list" := by rfl) (hs : starEach [e] X.env = (false, eval e X.env) :: starEach [] X.env := by rfl) (hpl : (backTo pos (starEach [] X.env)).any (·.1) = false := by rfl) :
    XN X (.Call (.Name "list" p) [e] [] pos) G ds :=
  upN (pe_callTy call_list_of (C.gl hg) (by rw [C.emg]; exact hm) (by decide +kernel) (pa_one hs) (he := hs) (hpl := hpl)) (evg_cb1 h fun Hs Hb H x e1 e2 q1 Q q => by
    cases q1 with
    | @tup l xs _ hl rl => exact ⟨l, xs, rfl, .inr (SqT.of (e2 _ _ hl)), fun p hp => q _ Hb _ (Grow.newm e2 hp) ⟨p, xs, rfl, free_b e1 hp, free_b e2 hp, upd_same, rl⟩⟩)
theorem xe_tupL (C : Cxt P w K mg base N sc k X) {ds : List D} (hm : mg "tuple" = none) (h : XR X e G ds) (hg : GlL sc "tuple" := by rfl) (hs : starEach [e] X.env = (false, eval e X.env) :: starEach [] X.env := by rfl) (hpl : (backTo pos (starEach [] X.env)).any (·.1) = false := by rfl) :
    XE X (.Call (.Name "tuple" p) [e] [] pos) G (.tup ds) :=
  upD (pe_callTy call_tuple_of (C.gl hg) (by rw [C.emg]; exact hm) (by decide +kernel) (pa_one hs) (he := hs) (hpl := hpl)) (evg_cb1 h fun Hs Hb H x e1 e2 ⟨l, xs, ex, hl, rl⟩ Q q =>
    ⟨l, xs, by rw [ex], .inl ⟨SqL.of hl, fun p hp => q _ _ _ (Grow.new e2 hp) (.tup upd_same (rl.mono (ex_new (free_b e2 hp))))⟩⟩)
theorem xe_tupT (C : Cxt P w K mg base N sc k X) {ds : List D} (hm : mg "tuple" = none) (h : XE X e G (.tup ds)) (hg : GlL sc "tuple" := by rfl) (hs : starEach [e] X.env = (false, eval e X.env) :: starEach [] X.env := by rfl) (hpl : (backTo pos (starEach [] X.env)).any (·.1) = false := by rfl) :
    XE X (.Call (.Name "tuple" p) [e] [] pos) G (.tup ds) :=
  upD (pe_callTy call_tuple_of (C.gl hg) (by rw [C.emg]; exact hm) (by decide +kernel) (pa_one hs) (he := hs) (hpl := hpl)) (evg_cb1 h fun Hs Hb H x e1 e2 q1 Q q => by
    cases q1 with
    | @tup l xs _ hl rl => exact ⟨l, xs, rfl, .inr ⟨SqT.of (e2 _ _ hl), q _ Hb H (Grow.refl e2) (.tup hl rl)⟩⟩)
/-- sep.join(list of texts) -/
theorem xe_join {z : Str} {ys : List Str} (h1 : XE X a G (dS z)) (h2 : XR X b G (ys.map dS)) (hz : (ys.map (·.length)).sum + ys.length * z.length ≤ 16777216) (hs : starEach [b] X.env = [(false, eval b X.env)] := by rfl) (hbase : attributeBase a "join" X.env (eval a X.env) = eval a X.env := by rfl)
    (hline : (apos.endLine == pos.line) = true := by rfl) : XE X (.Call (.Attribute a "join" apos) [b] [] pos) G (dS (Txt.join z ys)) :=
  upD (pe_join (pe_wp X a) (pe_wp X b) hs hbase hline) fun H0 Hb0 Hb H σ k Q q => h1 H0 Hb0 Hb H σ k _ fun x Hb1 H1 g1 r1 => by
    cases r1
    refine ⟨⟨z, rfl⟩, h2 H0 Hb0 Hb1 H1 σ (k.up g1) _ fun y Hb2 H2 g2 ⟨l, xs, ex, hl, rl⟩ => ?_⟩
    have e3 : ys.map dS = (ys.map V.str).map D.v := by rw [List.map_map]; rfl
    rw [e3] at rl
    have e4 := reps_flat rl
    subst e4
    exact ⟨z, l, ys, rfl, by rw [ex], .inl (SqL.of hl), hz, q _ Hb2 H2 (g1.trans g2) (.v _)⟩
end
end DL

namespace DL
open PySem L2

inductive Wk : List Sl → List Sl → Prop
  | nil : Wk [] []
  | keep {s : Sl} {G G' : List Sl} : Wk G G' → Wk (s :: G) (s :: G')
  | drop {s : Sl} {G G' : List Sl} : Wk G G' → Wk (s :: G) (.un :: G')
theorem Wk.refl : ∀ G : List Sl, Wk G G
  | [] => .nil
  | _ :: G => .keep (Wk.refl G)
theorem Wk.trans : ∀ {A B C : List Sl}, Wk A B → Wk B C → Wk A C
  | _, _, _, .nil, .nil => .nil
  | _, _, _, .keep a, .keep b => .keep (Wk.trans a b)
  | _, _, _, .keep a, .drop b => .drop (Wk.trans a b)
  | _, _, _, .drop a, .keep b => .drop (Wk.trans a b)
  | _, _, _, .drop a, .drop b => .drop (Wk.trans a b)
theorem Sls.wk {K : PySem.W.Frag} {Hb H : Hp} : ∀ {σ : St} {G G' : List Sl} {fps : List (List Addr)}, Sls K Hb H σ G fps → Wk G G' → ∃ fps', Sls K Hb H σ G' fps' ∧ fps'.flatten.Sublist fps.flatten
  | _, _, _, _, .nil, .nil => ⟨[], .nil, List.Sublist.refl _⟩
  | _, _, _, _, .cons h r, .keep q => by
    obtain ⟨f, a, b⟩ := Sls.wk r q
    refine ⟨_ :: f, .cons h a, ?_⟩
    rw [List.flatten_cons, List.flatten_cons]
    exact List.Sublist.append (List.Sublist.refl _) b
  | _, _, _, _, .cons (fp := fp) h r, .drop q => by
    obtain ⟨f, a, b⟩ := Sls.wk r q
    refine ⟨[] :: f, .cons (s := .un) rfl a, ?_⟩
    rw [List.flatten_cons, List.flatten_cons]
    exact List.Sublist.append (List.nil_sublist _) b
theorem Ok.wk {K : PySem.W.Frag} {H0 Hb0 Hb H : Hp} {G G' : List Sl} {σ : St} (k : Ok K H0 Hb0 G Hb H σ) (q : Wk G G') : Ok K H0 Hb0 G' Hb H σ := by
  obtain ⟨g, fps, hs, nd, fr⟩ := k
  obtain ⟨f, a, b⟩ := hs.wk q
  exact ⟨g, f, a, nd.sublist b, fun x hx => fr x (b.subset hx)⟩

structure Po where
  nx : List Sl → Prop
  rt : D → Prop := fun _ => False
  bk : List Sl → Prop := fun _ => False
  ct : List Sl → Prop := fun _ => False
def StD (K : PySem.W.Frag) (ts : TS) (G : List Sl) (P : Po) : Prop := ∀ H0 Hb0 Hb H σ, Ok K H0 Hb0 G Hb H σ → ∀ Dn : Ends,
  (∀ G' Hb' H' σ', P.nx G' → Ex Hb Hb' → Ok K H0 Hb0 G' Hb' H' σ' → Dn.nx σ' H') → (∀ d x Hb' H', P.rt d → Grow Hb0 H0 Hb' H' → Rep K Hb' x d → Dn.rt x H') →
  (∀ G' Hb' H' σ', P.bk G' → Ex Hb Hb' → Ok K H0 Hb0 G' Hb' H' σ' → Dn.bk σ' H') → (∀ G' Hb' H' σ', P.ct G' → Ex Hb Hb' → Ok K H0 Hb0 G' Hb' H' σ' → Dn.ct σ' H') → ts Dn σ H
/-- from a later base -/
theorem StD.later {K : PySem.W.Frag} {ts : TS} {G : List Sl} {P : Po} (h : StD K ts G P) {H0 Hb0 Hb H : Hp} {σ : St} (k : Ok K H0 Hb0 G Hb H σ) {Hbs : Hp} (e : Ex Hbs Hb) {Dn : Ends}
    (a : ∀ G' Hb' H' σ', P.nx G' → Ex Hbs Hb' → Ok K H0 Hb0 G' Hb' H' σ' → Dn.nx σ' H') (b : ∀ d x Hb' H', P.rt d → Grow Hb0 H0 Hb' H' → Rep K Hb' x d → Dn.rt x H')
    (c : ∀ G' Hb' H' σ', P.bk G' → Ex Hbs Hb' → Ok K H0 Hb0 G' Hb' H' σ' → Dn.bk σ' H') (d : ∀ G' Hb' H' σ', P.ct G' → Ex Hbs Hb' → Ok K H0 Hb0 G' Hb' H' σ' → Dn.ct σ' H') : ts Dn σ H :=
  h H0 Hb0 Hb H σ k Dn (fun G' Hb' H' σ' p q => a G' Hb' H' σ' p (ex_tr e q)) b (fun G' Hb' H' σ' p q => c G' Hb' H' σ' p (ex_tr e q)) (fun G' Hb' H' σ' p q => d G' Hb' H' σ' p (ex_tr e q))
def wpS (X : Cx) (st : Stmt) : TS := fun Dn σ H => ∀ pins s, Inv X pins σ H s → wpAny (model X.prog X.w) X.A (exec st X.env) (SP X pins Dn) X.xe s
def wpSs (X : Cx) (sts : List Stmt) : TS := fun Dn σ H => ∀ pins s, Inv X pins σ H s → wpAny (model X.prog X.w) X.A (execs sts X.env) (SP X pins Dn) X.xe s
theorem ps_wp (X : Cx) (st : Stmt) : PS X st (wpS X st) := ⟨fun pins s _ _ _ I h => h pins s I⟩
theorem pss_wp (X : Cx) (sts : List Stmt) : PSs X sts (wpSs X sts) := ⟨fun pins s _ _ _ I h => h pins s I⟩
abbrev XS (X : Cx) (st : Stmt) (G : List Sl) (P : Po) : Prop := StD X.K (wpS X st) G P
abbrev XSs (X : Cx) (sts : List Stmt) (G : List Sl) (P : Po) : Prop := StD X.K (wpSs X sts) G P
section
variable {X : Cx} {st : Stmt} {sts : List Stmt} {G : List Sl} {P : Po} {t : TS}
theorem upS (h : PS X st t) (q : StD X.K t G P) : XS X st G P := fun H0 Hb0 Hb H σ k Dn a b c d pins s I => h.run pins s σ H Dn I (q H0 Hb0 Hb H σ k Dn a b c d)
theorem upSs (h : PSs X sts t) (q : StD X.K t G P) : XSs X sts G P := fun H0 Hb0 Hb H σ k Dn a b c d pins s I => h.run pins s σ H Dn I (q H0 Hb0 Hb H σ k Dn a b c d)
theorem StD.wk {K : PySem.W.Frag} {G' : List Sl} (h : StD K t G' P) (q : Wk G G') : StD K t G P := fun H0 Hb0 Hb H σ k => h H0 Hb0 Hb H σ (k.wk q)
theorem xss_nil (h : P.nx G) : XSs X [] G P := upSs pss_nil fun H0 Hb0 Hb H σ k Dn a _ _ _ => a G Hb H σ h (ex_refl _) k
theorem xss_cons (h : XS X st G { P with nx := fun G' => XSs X sts G' P }) : XSs X (st :: sts) G P :=
  upSs (pss_cons (ps_wp X st) (pss_wp X sts)) fun H0 Hb0 Hb H σ k Dn a b c d => h H0 Hb0 Hb H σ k { Dn with nx := wpSs X sts Dn } (fun G' Hb' H' σ' q e k' => StD.later q k' e a b c d) b c d
theorem xss_one (h : XS X st G P) : XSs X [st] G P := upSs (pss_one (ps_wp X st)) h
/-- a list that was filled is from now on as it is -/
theorem xss_freeze (i : Nat) {ds : List D} (hG : G[i]? = some (.ml X.K ds)) (h : XSs X sts (G.set i (.im (.lst ds))) P) : XSs X sts G P := fun H0 Hb0 Hb H σ k => by
  obtain ⟨x, fp, hx, ⟨a, xs, e1, e2, h1, r⟩, _, hn, _, fz⟩ := k.mut hG
  subst e1 e2
  have hb := (hn a (by simp)).2
  intro Dn c1 c2 c3 c4
  exact StD.later h (fz (upd Hb a (.lst xs)) (.lst ds) (ex_new hb) (fun b u q => by
    by_cases z : b = a
    · subst z; rw [upd_same] at q; rw [← q]; exact h1
    · rw [upd_ne z] at q; exact k.ex b u q) (fun b nb q => by rw [upd_ne (fun z => nb (by rw [z]; simp))]; exact q) (.lst upd_same (r.mono (ex_new hb)))) (ex_new hb) c1 c2 c3 c4
theorem xss_wk {G' : List Sl} (q : Wk G G') (h : XSs X sts G' P) : XSs X sts G P := StD.wk h q
end

structure Dfx (P : Program) (w : World) (K : PySem.W.Frag) (mg : Str → Option Value) (base : Heap) (N : List Str) (sc : List (Str × NameKind)) (k : Nat) (X : Cx) : Prop extends Cxt P w K mg base N sc k X where
  fn : ∀ x : Str, X.fn x = true
  own : PassesOwn (model X.prog X.w) X.A X.env X.xe

def EvTg (K : PySem.W.Frag) (g : TG) (vs : List Nat) (G : List Sl) (d : D) (G' : List Sl) : Prop := ∀ H0 Hb0 Hb H σ x, Ok K H0 Hb0 G Hb H σ → Rep K Hb x d → ∀ Q : St → Hp → Prop,
  (∀ σ', Ok K H0 Hb0 G' Hb H σ' → (∀ ws : List Nat, (∀ i ∈ vs, i ∈ ws) → wipe σ' ws = wipe σ ws) → Q σ' H) → g x σ H Q
def EvTs (K : PySem.W.Frag) (g : TGs) (vs : List Nat) (G : List Sl) (ds : List D) (G' : List Sl) : Prop := ∀ H0 Hb0 Hb H σ xs, Ok K H0 Hb0 G Hb H σ → Reps K Hb xs ds → ∀ Q : St → Hp → Prop,
  (∀ σ', Ok K H0 Hb0 G' Hb H σ' → (∀ ws : List Nat, (∀ i ∈ vs, i ∈ ws) → wipe σ' ws = wipe σ ws) → Q σ' H) → g xs σ H Q
def wpG (X : Cx) (tg : Expr) : TG := fun v σ H Q => ∀ pins s u, Inv X pins σ H s → RelV v u → wpAny (model X.prog X.w) X.A (assign tg X.env u) (fun _ s' => ∃ σ' H', Inv X pins σ' H' s' ∧ Q σ' H') X.xe s
def wpGs (X : Cx) (ts : List Expr) : TGs := fun vs σ H Q => ∀ pins s us, Inv X pins σ H s → Vals vs us → wpAny (model X.prog X.w) X.A (assignInOrder ((assignEach ts X.env).map (·.2)) us) (fun _ s' => ∃ σ' H', Inv X pins σ' H' s' ∧ Q σ' H') X.xe s
theorem pg_wp (X : Cx) (tg : Expr) : PG X tg (wpG X tg) := ⟨fun pins s _ _ _ u _ I r h => h pins s u I r⟩
theorem pgs_wp (X : Cx) (ts : List Expr) : PGs X ts (wpGs X ts) := ⟨fun pins s _ _ _ us _ I r h => h pins s us I r⟩
abbrev XTg (X : Cx) (tg : Expr) (vs : List Nat) (G : List Sl) (d : D) (G' : List Sl) : Prop := EvTg X.K (wpG X tg) vs G d G'
abbrev XTs (X : Cx) (ts : List Expr) (vs : List Nat) (G : List Sl) (ds : List D) (G' : List Sl) : Prop := EvTs X.K (wpGs X ts) vs G ds G'
theorem wipe_set {σ : St} {i : Nat} {x : Option V} : ∀ {ws : List Nat}, i ∈ ws → wipe (σ.set i x) ws = wipe σ ws
  | [], h => by cases h
  | v :: ws, h => by
    have comm : ∀ (l : List Nat), wipe (σ.set i x) l = (wipe σ l).set i ((wipe (σ.set i x) l)[i]?.getD none) ∨ wipe (σ.set i x) l = wipe σ l := by
      intro l
      induction l with
      | nil =>
        by_cases hi : i < σ.length
        · refine .inl ?_
          show σ.set i x = σ.set i (((σ.set i x)[i]?).getD none)
          rw [List.getElem?_set_self hi]; rfl
        · refine .inr ?_
          show σ.set i x = σ
          rw [List.set_eq_of_length_le (by omega)]
      | cons u l ih =>
        by_cases hu : u = i
        · subst hu
          refine .inr ?_
          show (wipe (σ.set u x) l).set u none = (wipe σ l).set u none
          rcases ih with z | z
          · rw [z, List.set_set]
          · rw [z]
        · rcases ih with z | z
          · refine .inl ?_
            show (wipe (σ.set i x) l).set u none = ((wipe σ l).set u none).set i (((wipe (σ.set i x) l).set u none)[i]?.getD none)
            rw [List.getElem?_set_ne hu, List.set_comm _ _ hu, ← z]
          · refine .inr ?_
            show (wipe (σ.set i x) l).set u none = (wipe σ l).set u none
            rw [z]
    rcases List.mem_cons.mp h with e | h
    · subst e
      show (wipe (σ.set i x) ws).set i none = (wipe σ ws).set i none
      rcases comm ws with z | z
      · rw [z, List.set_set]
      · rw [z]
    · show (wipe (σ.set i x) ws).set v none = (wipe σ ws).set v none
      rw [wipe_set h]
theorem wipe_wipe (σ : St) : ∀ ws : List Nat, wipe (wipe σ ws) ws = wipe σ ws := by
  have one : ∀ (ws : List Nat) (τ : St), (∀ i ∈ ws, τ[i]? = some none ∨ τ.length ≤ i) → wipe τ ws = τ := by
    intro ws
    induction ws with
    | nil => intro τ _; rfl
    | cons v ws ih =>
      intro τ h
      show (wipe τ ws).set v none = τ
      rw [ih τ fun i hi => h i (List.mem_cons_of_mem _ hi)]
      refine List.ext_getElem? fun j => ?_
      rw [List.getElem?_set]
      by_cases e : v = j
      · subst e
        rw [if_pos rfl]
        rcases h v List.mem_cons_self with z | z
        · have hl := (List.getElem?_eq_some_iff.mp z).1
          rw [if_pos hl, z]
        · rw [if_neg (by omega), List.getElem?_eq_none (by omega)]
      · rw [if_neg e]
  intro ws
  refine one ws _ fun i hi => ?_
  by_cases hl : i < (wipe σ ws).length
  · refine .inl ?_
    cases e : (wipe σ ws)[i]? with
    | none => exact absurd hl (by have := List.getElem?_eq_none_iff.mp e; omega)
    | some o =>
      cases o with
      | none => rfl
      | some y => exact absurd hi (wipe_some e).2
  · exact .inr (by omega)
section
variable {P : Program} {w : World} {K : PySem.W.Frag} {mg : Str → Option Value} {base : Heap} {N : List Str} {sc : List (Str × NameKind)} {k : Nat} {X : Cx} {G : List Sl} {Pw : Po}
variable {a b c e : Expr} {pos p p2 apos : Pos} {x : Str}
theorem upTg {g : TG} {tg : Expr} {vs : List Nat} {d : D} {G' : List Sl} (h : PG X tg g) (q : EvTg X.K g vs G d G') : XTg X tg vs G d G' := fun H0 Hb0 Hb H σ x k r Q f pins s u I rv => h.run pins s σ H x u Q I rv (q H0 Hb0 Hb H σ x k r Q f)
theorem upTs {g : TGs} {ts : List Expr} {vs : List Nat} {ds : List D} {G' : List Sl} (h : PGs X ts g) (q : EvTs X.K g vs G ds G') : XTs X ts vs G ds G' := fun H0 Hb0 Hb H σ xs k r Q f pins s us I rv => h.run pins s σ H xs us Q I rv (q H0 Hb0 Hb H σ xs k r Q f)
theorem etg_name {i : Nat} {d : D} : EvTg K (gName i) [i] G d (G.set i (.im d)) := fun H0 Hb0 Hb H σ x k r Q f => f _ (k.put i r) fun ws h => wipe_set (h i (by simp))
/-- a local name -/
theorem xtg_name (C : Cxt P w K mg base N sc k X) (i : Nat) {d : D} (hN : N[i]? = some x := by rfl) (hl : sc.lookup x = some .local := by rfl) : XTg X (.Name x p) [i] G d (G.set i (.im d)) :=
  upTg (pg_name (by rw [C.eN]; exact C.nd) (by rw [C.eN]; exact hN) (C.loc (.inl hl)) (.inr (by rw [C.esc]; exact hl))) etg_name
/-- any name of the def -/
theorem xtg_nameD (C : Dfx P w K mg base N sc k X) (i : Nat) {d : D} (hN : N[i]? = some x := by rfl) (hl : LocL sc x := by first | exact Or.inl rfl | exact Or.inr rfl) : XTg X (.Name x p) [i] G d (G.set i (.im d)) :=
  upTg (pg_name (by rw [C.eN]; exact C.nd) (by rw [C.eN]; exact hN) (C.loc hl) (.inl (C.fn x))) etg_name
theorem xts_nil : XTs X [] [] G [] G := upTs pgs_nil fun H0 Hb0 Hb H σ xs k r Q f => by
  cases r
  exact ⟨rfl, f σ k fun _ _ => rfl⟩
theorem xts_cons {es : List Expr} {vs ws : List Nat} {d : D} {ds : List D} {G1 G2 : List Sl} (h1 : XTg X e vs G d G1) (h2 : XTs X es ws G1 ds G2) (hs : (assignEach (e :: es) X.env).map (·.2) = assign e X.env :: (assignEach es X.env).map (·.2) := by rfl) : XTs X (e :: es) (vs ++ ws) G (d :: ds) G2 :=
  upTs (pgs_cons (pg_wp X e) (pgs_wp X es) hs) fun H0 Hb0 Hb H σ xs k r Q f => by
    cases r with
    | @cons y _ ys _ r1 r2 =>
      refine ⟨y, ys, rfl, h1 H0 Hb0 Hb H σ y k r1 _ fun σ1 k1 w1 => h2 H0 Hb0 Hb H σ1 ys k1 r2 _ fun σ2 k2 w2 => f σ2 k2 fun zs hz => ?_⟩
      rw [w2 zs fun i hi => hz i (List.mem_append_right _ hi), w1 zs fun i hi => hz i (List.mem_append_left _ hi)]
theorem xtg_tup (C : Cxt P w K mg base N sc k X) {es : List Expr} {j n : Nat} {vs : List Nat} {ds : List D} {G' : List Sl} (h : XTs X es vs G ds G') (hl : ds.length = n) (hn : (assignEach es X.env).length = n := by rfl) (hst : (assignEach es X.env).findIdx? (·.1) = none := by rfl) :
    XTg X (.Tuple es j pos) vs G (.tup ds) G' :=
  upTg (pg_tup C.calm (pgs_wp X es) hn hst) fun H0 Hb0 Hb H σ x k r Q f => by
    cases r with
    | @tup q xs _ hq rq => exact ⟨q, xs, rfl, SqT.of (k.ex _ _ hq), rq.length.trans hl, h H0 Hb0 Hb H σ xs k rq Q f⟩

theorem xs_asgG {tg : Expr} {d : D} {vs : List Nat} {G' : List Sl} (he : XE X e G d) (hg : XTg X tg vs G d G') (hP : Pw.nx G') (hs : swapsWithSole [tg] e pos.line X.env = pure false := by rfl) (hw : swappedStores [tg] e X.env = pure none := by rfl)
    (h1 : (assignEach [tg] X.env).map (·.2) = [assign tg X.env] := by rfl) : XS X (.Assign [tg] e pos) G Pw :=
  upS (ps_asg (pe_wp X e) (pg_wp X tg) hs hw h1) fun H0 Hb0 Hb H σ k Dn a _ _ _ => he H0 Hb0 Hb H σ k _ fun y Hb1 H1 g r => hg H0 Hb0 Hb1 H1 σ y (k.up g) r _ fun σ' k' _ => a G' Hb1 H1 σ' hP g.b k'
theorem pg_nm (C : Dfx P w K mg base N sc k X) (i : Nat) (hN : N[i]? = some x) (hl : LocL sc x) : PG X (.Name x p) (gName i) := pg_name (by rw [C.eN]; exact C.nd) (by rw [C.eN]; exact hN) (C.loc hl) (.inl (C.fn x))
theorem xs_asg (C : Dfx P w K mg base N sc k X) (i : Nat) {d : D} (he : XE X e G d) (hP : Pw.nx (G.set i (.im d))) (hN : N[i]? = some x := by rfl) (hl : LocL sc x := by first | exact Or.inl rfl | exact Or.inr rfl) (hs : swapsWithSole [.Name x p] e pos.line X.env = pure false := by rfl)
    (hw : swappedStores [.Name x p] e X.env = pure none := by rfl) : XS X (.Assign [.Name x p] e pos) G Pw := xs_asgG he (xtg_nameD C i hN hl) hP hs hw
/-- a new thing that may change -/
theorem xs_asgM (C : Dfx P w K mg base N sc k X) (i : Nat) {m : Mu} (he : XM X e G m) (hP : Pw.nx (G.set i (.mu m))) (hN : N[i]? = some x := by rfl) (hl : LocL sc x := by first | exact Or.inl rfl | exact Or.inr rfl) (hs : swapsWithSole [.Name x p] e pos.line X.env = pure false := by rfl)
    (hw : swappedStores [.Name x p] e X.env = pure none := by rfl) : XS X (.Assign [.Name x p] e pos) G Pw :=
  upS (ps_asg (pe_wp X e) (pg_nm C i hN hl) hs hw) fun H0 Hb0 Hb H σ k Dn a _ _ _ => he H0 Hb0 Hb H σ k _ fun y Hb1 H1 g ⟨fp, ok, nd, fr⟩ => a _ Hb1 H1 _ hP g.b (k.putm g i ok nd fr)
theorem xs_asgN (C : Dfx P w K mg base N sc k X) (i : Nat) {ds : List D} (he : XN X e G ds) (hP : Pw.nx (G.set i (.ml X.K ds))) (hN : N[i]? = some x := by rfl) (hl : LocL sc x := by first | exact Or.inl rfl | exact Or.inr rfl) (hs : swapsWithSole [.Name x p] e pos.line X.env = pure false := by rfl)
    (hw : swappedStores [.Name x p] e X.env = pure none := by rfl) : XS X (.Assign [.Name x p] e pos) G Pw := xs_asgM C i (EvN.m he) hP hN hl hs hw
theorem xs_aug (C : Dfx P w K mg base N sc k X) (i : Nat) {m n : Int} (hG : G[i]? = some (.im (dI m))) (he : XE X e G (dI n)) (hP : Pw.nx (G.set i (.im (dI (m + n))))) (hN : N[i]? = some x := by rfl) (hl : LocL sc x := by first | exact Or.inl rfl | exact Or.inr rfl) : XS X (.AugAssign (.Name x p) .Add e pos) G Pw :=
  upS (ps_aug (by rw [C.eN]; exact C.nd) (by rw [C.eN]; exact hN) (C.loc hl) (pe_wp X e) ip_add (.inl (C.fn x))) fun H0 Hb0 Hb H σ k Dn a _ _ _ => by
    obtain ⟨y, hy, r⟩ := k.im hG
    cases r
    exact ⟨_, hy, he H0 Hb0 Hb H σ k _ fun z Hb1 H1 g r1 => by
      cases r1
      exact ⟨m, n, rfl, rfl, a _ Hb1 H1 _ hP g.b ((k.up g).put i (.v _))⟩⟩
theorem xs_ret {d : D} (he : XE X e G d) (hP : Pw.rt d) : XS X (.Return (some e) pos) G Pw :=
  upS (ps_ret (pe_wp X e)) fun H0 Hb0 Hb H σ k Dn _ b _ _ => he H0 Hb0 Hb H σ k _ fun y Hb1 H1 g r => b d y Hb1 H1 hP (k.up g).grow r
theorem xs_pass (hP : Pw.nx G) : XS X (.Pass pos) G Pw := upS ps_pass fun H0 Hb0 Hb H σ k Dn a _ _ _ => a G Hb H σ hP (ex_refl _) k
theorem xs_if {t u : List Stmt} {bb : Bool} (hc : XT X c G bb) (h1 : bb = true → XSs X t G Pw) (h2 : bb = false → XSs X u G Pw) : XS X (.If c t u pos) G Pw :=
  upS (ps_if (pt_wp X c) (pss_wp X t) (pss_wp X u)) fun H0 Hb0 Hb H σ k Dn e1 e2 e3 e4 => hc H0 Hb0 Hb H σ k _ fun Hb1 H1 g => by
    cases bb with
    | true => exact StD.later (h1 rfl) (k.up g) g.b e1 e2 e3 e4
    | false => exact StD.later (h2 rfl) (k.up g) g.b e1 e2 e3 e4
/-- list.append on a name that holds a list of ours -/
theorem xs_app (C : Dfx P w K mg base N sc k X) (i : Nat) {ds : List D} {d : D} (hG : G[i]? = some (.ml X.K ds)) (he : XE X e G d) (hz : ds.length < 100000) (hP : Pw.nx (G.set i (.ml X.K (ds ++ [d])))) (hN : N[i]? = some x := by rfl)
    (hv : VisL sc x := by first | exact Or.inl rfl | exact Or.inr (Or.inl rfl) | exact Or.inr (Or.inr rfl)) (hd : (x == ("__debug__" : Str)) = false := by decide) (hcd : (x == ("__classdict__" : Str)) = false := by decide)
    (hbase : attributeBase (.Name x p) "append" X.env (eval (.Name x p) X.env) = eval (.Name x p) X.env := by rfl)
    (hfew : ((backTo p2 (starEach [e] X.env)).all (fun x => !x.1) && (backToKw p2 (keywordEach [] X.env)).all (fun x => x.1.isSome) && decide (([e] : List Expr).length + ([] : List Keyword).length + (if ([] : List Keyword).isEmpty then 0 else 1) < 30)) = true := by rfl)
    (hline : (apos.endLine == p2.line) = true := by rfl) (hs : starEach [e] X.env = (false, eval e X.env) :: starEach [] X.env := by rfl) (hplain : (backTo p2 (starEach [] X.env)).any (·.1) = false := by rfl)
    (hsw : swapsWith (.Call (.Attribute (.Name x p) "append" apos) [e] [] p2) none pos.line X.env = pure false := by rfl) :
    XS X (.Expr (.Call (.Attribute (.Name x p) "append" apos) [e] [] p2) pos) G Pw :=
  upS (ps_expr (pe_bm PySem.F.plainAttrs_list PySem.F.slot_list_append PySem.F.type_list_append mt_append (pe_var (by rw [C.eN]; exact hN) (C.vis hv) hd hcd) (pa_one (e := e) hs) hbase hfew hline hs hplain) hsw)
    fun H0 Hb0 Hb H σ k Dn f _ _ _ => by
      obtain ⟨y, fp, hy, ⟨l, xs, e1, e2, h1, r⟩, _⟩ := k.mut hG
      subst e1
      refine ⟨.ref l, hy, .inl ⟨rfl, _, SqL.of h1⟩, he H0 Hb0 Hb H σ k _ fun z Hb1 H1 g rz => ?_⟩
      have k1 := k.up g
      obtain ⟨y', fp', hy', ⟨l', xs', e1', e2', h1', r'⟩, nd', hn', up', _⟩ := k1.mut hG
      rw [hy] at hy'
      have e3 : V.ref l = y' := Option.some.inj (Option.some.inj hy')
      subst e3
      cases e1'
      have hx : xs = xs' := by
        have h2 := g.h _ _ h1
        rw [h1'] at h2
        cases h2
        rfl
      subst hx
      subst e2'
      refine ⟨l, xs, z, rfl, rfl, h1', Evl.sz_lt (by rw [r'.length]; exact hz), f _ Hb1 _ σ hP g.b (up' (mList X.K (ds ++ [d])) _ [l] (fun q o hq ho => ?_) (fun q hq => .inl hq) (by simp) ⟨l, xs ++ [z], rfl, rfl, upd_same, r'.append (.cons rz .nil)⟩)⟩
      rw [upd_ne (fun z => hq (by rw [z]; simp))]
      exact ho
/-- xs[j] = e -/
theorem xs_setL (C : Dfx P w K mg base N sc k X) (i : Nat) {ds : List D} {d : D} {j : Int} {n : Nat} {ie : Expr} (hG : G[i]? = some (.ml X.K ds)) (he : XE X e G d) (hi : XE X ie G (dI j)) (hj : ixN ds.length j = some n) (hP : Pw.nx (G.set i (.ml X.K (ds.set n d)))) (hN : N[i]? = some x := by rfl)
    (hv : VisL sc x := by first | exact Or.inl rfl | exact Or.inr (Or.inl rfl) | exact Or.inr (Or.inr rfl)) (hd : (x == ("__debug__" : Str)) = false := by decide) (hcd : (x == ("__classdict__" : Str)) = false := by decide)
    (ha : ∀ v, assign (.Subscript (.Name x p) ie p2) X.env v = (do
      let ov ← holding [v] (eval (.Name x p) X.env)
      let iv ← holding [v, ov] (eval ie X.env)
      standAt p2
      holding [v, ov, iv] (setItem ov iv v)
      release [v, ov, iv] []) := by intro _; rfl)
    (hs : swapsWithSole [.Subscript (.Name x p) ie p2] e pos.line X.env = pure false := by rfl) (hw : swappedStores [.Subscript (.Name x p) ie p2] e X.env = pure none := by rfl)
    (h1 : (assignEach [.Subscript (.Name x p) ie p2] X.env).map (·.2) = [assign (.Subscript (.Name x p) ie p2) X.env] := by rfl) :
    XS X (.Assign [.Subscript (.Name x p) ie p2] e pos) G Pw :=
  upS (ps_asg (pe_wp X e) (pg_sub (pe_var (by rw [C.eN]; exact hN) (C.vis hv) hd hcd) (pe_wp X ie) set_list ha) hs hw h1)
    fun H0 Hb0 Hb H σ k Dn f _ _ _ => he H0 Hb0 Hb H σ k _ fun z Hb1 H1 g rz => by
      have k1 := k.up g
      obtain ⟨y, fp, hy, ⟨l, xs, e1, e2, h1, r⟩, _⟩ := k1.mut hG
      subst e1
      refine ⟨.ref l, hy, hi H0 Hb0 Hb1 H1 σ k1 _ fun iv Hb2 H2 g2 ri => ?_⟩
      cases ri
      have k2 := k1.up g2
      obtain ⟨y', fp', hy', ⟨l', xs', e1', e2', h1', r'⟩, nd', hn', up', _⟩ := k2.mut hG
      rw [hy] at hy'
      have e3 : V.ref l = y' := Option.some.inj (Option.some.inj hy')
      subst e3
      cases e1'
      subst e2'
      refine ⟨l, xs', j, n, rfl, rfl, h1', by rw [r'.length]; exact hj, f _ Hb2 _ σ hP (ex_tr g.b g2.b) (up' (mList X.K (ds.set n d)) _ [l] (fun q o hq ho => ?_) (fun q hq => .inl hq) (by simp) ⟨l, xs'.set n z, rfl, rfl, upd_same, r'.set (Rep.mono g2.b rz) n⟩)⟩
      rw [upd_ne (fun z => hq (by rw [z]; simp))]
      exact ho

/-- an iterator that gives the data ds -/
def IterOk (K : PySem.W.Frag) (J : It) (Hb : Hp) (ds : List D) : Prop := ∀ Hb2 H2, Ex Hb Hb2 → Ex Hb2 H2 → ∀ i : Nat,
  (∀ d, ds[i]? = some d → J.go i H2 ∧ ∀ x H3, J.yld i H2 x H3 → ∃ Hb3, Grow Hb2 H2 Hb3 H3 ∧ Rep K Hb3 x d) ∧ (ds[i]? = none → J.stop i H2)
def EvI (K : PySem.W.Frag) (wi : TI) (G : List Sl) (ds : List D) : Prop := ∀ H0 Hb0 Hb H σ, Ok K H0 Hb0 G Hb H σ → ∀ R : It → Hp → Prop, (∀ J Hb' H', Grow Hb H Hb' H' → IterOk K J Hb' ds → R J H') → wi σ H R
def wpI (X : Cx) (tg iter : Expr) : TI := fun σ H R => ∀ pins s, Inv X pins σ H s → wpAny (model X.prog X.w) X.A (eval iter X.env) (fun v s1 => wpAny (model X.prog X.w) X.A (pyIter v) (PIE X pins σ tg R) X.xe s1) X.xe s
theorem pi_wp (X : Cx) (tg iter : Expr) : PI X tg iter (wpI X tg iter) := ⟨fun pins s _ _ _ I h => h pins s I⟩
abbrev XI (X : Cx) (tg iter : Expr) (G : List Sl) (ds : List D) : Prop := EvI X.K (wpI X tg iter) G ds
theorem upI {tg iter : Expr} {wi : TI} {ds : List D} (h : PI X tg iter wi) (q : EvI X.K wi G ds) : XI X tg iter G ds := fun H0 Hb0 Hb H σ k R f pins s I => h.run pins s σ H R I (q H0 Hb0 Hb H σ k R f)
theorem xi_list {tg : Expr} {ds : List D} (h : XE X e G (.lst ds)) : XI X tg e G ds :=
  upI (pi_list (pe_wp X e)) fun H0 Hb0 Hb H σ k R f => h H0 Hb0 Hb H σ k _ fun x Hb1 H1 g r => by
    cases r with
    | @lst q xs _ hq rq =>
      refine ⟨q, rfl, ⟨xs, SqL.of (g.s _ _ hq)⟩, f _ Hb1 H1 g fun Hb2 H2 e1 e2 i => ⟨fun d hd => ?_, fun hn => ⟨xs, SqL.of (e2 _ _ (e1 _ _ hq)), ?_⟩⟩⟩
      · obtain ⟨v, hv, rv⟩ := rq.get hd
        refine ⟨⟨xs, v, SqL.of (e2 _ _ (e1 _ _ hq)), hv⟩, fun y H3 hy => ?_⟩
        obtain ⟨rfl, hy⟩ := hy
        have e3 := hy xs (SqL.of (e2 _ _ (e1 _ _ hq)))
        rw [hv] at e3
        cases e3
        exact ⟨Hb2, Grow.refl e2, rv.mono e1⟩
      · rw [rq.length]
        exact List.getElem?_eq_none_iff.mp hn
theorem xi_tup {tg : Expr} {ds : List D} (h : XE X e G (.tup ds)) : XI X tg e G ds :=
  upI (pi_tup (pe_wp X e)) fun H0 Hb0 Hb H σ k R f => h H0 Hb0 Hb H σ k _ fun x Hb1 H1 g r => by
    cases r with
    | @tup q xs _ hq rq =>
      refine ⟨q, rfl, ⟨xs, SqT.of (g.s _ _ hq)⟩, f _ Hb1 H1 g fun Hb2 H2 e1 e2 i => ⟨fun d hd => ?_, fun hn => ⟨xs, SqT.of (e2 _ _ (e1 _ _ hq)), ?_⟩⟩⟩
      · obtain ⟨v, hv, rv⟩ := rq.get hd
        refine ⟨⟨xs, v, SqT.of (e2 _ _ (e1 _ _ hq)), hv⟩, fun y H3 hy => ?_⟩
        obtain ⟨rfl, hy⟩ := hy
        have e3 := hy xs (SqT.of (e2 _ _ (e1 _ _ hq)))
        rw [hv] at e3
        cases e3
        exact ⟨Hb2, Grow.refl e2, rv.mono e1⟩
      · rw [rq.length]
        exact List.getElem?_eq_none_iff.mp hn
/-- range(n) -/
def rngD (n : Nat) : List D := (List.range n).map fun (i : Nat) => dI (i : Int)
theorem xi_range (C : Cxt P w K mg base N sc k X) {tg : Expr} {n : Int} (hm : mg "range" = none) (h : XE X e G (dI n)) (h1 : -(2 ^ 62) ≤ n) (h2 : n < 2 ^ 62) (hg : GlL sc "range" := by rfl) (hs : starEach [e] X.env = (false, eval e X.env) :: starEach [] X.env := by rfl)
    (hs2 : starEach [e] X.env = [(false, eval e X.env)] := by rfl) : XI X tg (.Call (.Name "range" p) [e] [] pos) G (rngD n.toNat) :=
  upI (pi_range1 (C.gl hg) (by rw [C.emg]; exact hm) (pa_one hs) hs2) fun H0 Hb0 Hb H σ k R f => h H0 Hb0 Hb H σ k _ fun x Hb1 H1 g r => by
    cases r
    refine ⟨n, rfl, h1, h2, f _ Hb1 H1 g fun Hb2 H2 e1 e2 i => ⟨fun d hd => ?_, fun hn => ?_⟩⟩
    · unfold rngD at hd
      rw [List.getElem?_map] at hd
      cases q : (List.range n.toNat)[i]? with
      | none => rw [q] at hd; cases hd
      | some y =>
        rw [q] at hd
        cases hd
        have hi := (List.getElem?_eq_some_iff.mp q).1
        rw [List.length_range] at hi
        rw [List.getElem?_range hi] at q
        cases q
        refine ⟨hi, fun z H3 hz => ?_⟩
        obtain ⟨rfl, rfl⟩ := hz
        exact ⟨Hb2, Grow.refl e2, by rw [Int.zero_add]; exact .v _⟩
    · unfold rngD at hn
      rw [List.getElem?_eq_none_iff, List.length_map, List.length_range] at hn
      exact hn
/-- enumerate(list) -/
def enumD (ds : List D) : List D := ds.zipIdx.map fun q => .tup [dI (q.2 : Int), q.1]
theorem enumD_at (ds : List D) (i : Nat) : (enumD ds)[i]? = (ds[i]?).map fun d => .tup [dI (i : Int), d] := by
  unfold enumD
  rw [List.getElem?_map, List.getElem?_zipIdx]
  cases ds[i]? with
  | none => rfl
  | some d => simp
theorem xi_enumL (C : Cxt P w K mg base N sc k X) {elts : List Expr} {kk : Nat} {tpos : Pos} {ds : List D} (hm : mg "enumerate" = none) (h : XE X e G (.lst ds)) (hg : GlL sc "enumerate" := by rfl) (hs : starEach [e] X.env = (false, eval e X.env) :: starEach [] X.env := by rfl)
    (hs2 : starEach [e] X.env = [(false, eval e X.env)] := by rfl) : XI X (.Tuple elts kk tpos) (.Call (.Name "enumerate" p) [e] [] pos) G (enumD ds) :=
  upI (pi_enum (C.gl hg) (by rw [C.emg]; exact hm) (pa_one hs) hs2) fun H0 Hb0 Hb H σ k R f => h H0 Hb0 Hb H σ k _ fun x Hb1 H1 g r => by
    cases r with
    | @lst q xs _ hq rq =>
      refine ⟨q, xs, rfl, SqL.of (g.s _ _ hq), f _ Hb1 H1 g fun Hb2 H2 e1 e2 i => ⟨fun d hd => ?_, fun hn => ⟨xs, SqL.of (e2 _ _ (e1 _ _ hq)), ?_⟩⟩⟩
      · rw [enumD_at] at hd
        cases q0 : ds[i]? with
        | none => rw [q0] at hd; cases hd
        | some d0 =>
          rw [q0] at hd
          cases hd
          obtain ⟨v, hv, rv⟩ := rq.get q0
          refine ⟨⟨xs, v, SqL.of (e2 _ _ (e1 _ _ hq)), hv⟩, fun y H3 hy => ?_⟩
          obtain ⟨T, z, rfl, hT, rfl, hz⟩ := hy
          have e3 := hz xs (SqL.of (e2 _ _ (e1 _ _ hq)))
          rw [hv] at e3
          cases e3
          exact ⟨_, Grow.new e2 hT, .tup upd_same (.cons (.v _) (.cons ((rv.mono e1).mono (ex_new (free_b e2 hT))) .nil))⟩
      · rw [rq.length]
        rw [enumD_at] at hn
        cases q0 : ds[i]? with
        | none => exact List.getElem?_eq_none_iff.mp q0
        | some d0 => rw [q0] at hn; cases hn

def wkI (I : List Sl → Prop) : List Sl → Prop := fun G1 => ∃ G2, Wk G1 G2 ∧ I G2
theorem xs_for (C : Dfx P w K mg base N sc k X) {tg iter : Expr} {body : List Stmt} {ds : List D} (hI : XI X tg iter G ds) (I : Nat → List Sl → Prop) (h0 : I 0 G)
    (hs : ∀ (i : Nat) (d : D) (G1 : List Sl), ds[i]? = some d → I i G1 → ∃ vs G2, XTg X tg vs G1 d G2 ∧ XSs X body G2 { nx := wkI (I (i + 1)), rt := Pw.rt, bk := Pw.nx, ct := wkI (I (i + 1)) })
    (hd : ∀ G1, I ds.length G1 → Pw.nx G1) (hf : ∀ x, foldedSetIterable iter X.env x = pure x := by intro _; rfl) : XS X (.For tg iter body [] pos) G Pw :=
  upS (ps_for C.own C.calm (pi_wp X tg iter) (pg_wp X tg) (pss_wp X body) hf) fun H0 Hb0 Hb H σ k Dn a b _ _ => hI H0 Hb0 Hb H σ k _ fun J Hb1 H1 g it => by
    refine ⟨fun i m σ' H' => i + m = ds.length ∧ ∃ G1 Hb', I i G1 ∧ Ex Hb1 Hb' ∧ Ok X.K H0 Hb0 G1 Hb' H' σ', ⟨ds.length, by omega, G, Hb1, h0, ex_refl _, k.up g⟩, ?_⟩
    rintro i m σ' H' ⟨hm, G1, Hb', hi, e1, k1⟩
    obtain ⟨it1, it2⟩ := it Hb' H' e1 k1.ex i
    cases q : ds[i]? with
    | none =>
      have hl := List.getElem?_eq_none_iff.mp q
      have e : i = ds.length := by omega
      subst e
      exact .inl ⟨it2 q, a G1 Hb' H' σ' (hd G1 hi) (ex_tr g.b e1) k1⟩
    | some d =>
      have hl := (List.getElem?_eq_some_iff.mp q).1
      obtain ⟨go, yl⟩ := it1 d q
      refine .inr ⟨go, fun σ2 H2 => ∃ G2 Hb2, I (i + 1) G2 ∧ Ex Hb1 Hb2 ∧ Ok X.K H0 Hb0 G2 Hb2 H2 σ2, fun σ2 H2 ⟨G2, Hb2, h2, e2, k2⟩ => ⟨m - 1, by omega, by omega, G2, Hb2, h2, e2, k2⟩, fun x H2 hy => ?_⟩
      obtain ⟨Hb3, g3, r3⟩ := yl x H2 hy
      obtain ⟨vs, G2, htg, hbd⟩ := hs i d G1 q hi
      refine htg H0 Hb0 Hb3 H2 σ' x (k1.up g3) r3 _ fun σ3 k3 _ => StD.later hbd k3 (ex_tr e1 g3.b) ?_ b (fun G4 Hb4 H4 σ4 q4 e4 k4 => a G4 Hb4 H4 σ4 q4 (ex_tr g.b e4) k4) ?_
      · rintro G4 Hb4 H4 σ4 ⟨G5, wk, h5⟩ e4 k4
        exact ⟨G5, Hb4, h5, e4, k4.wk wk⟩
      · rintro G4 Hb4 H4 σ4 ⟨G5, wk, h5⟩ e4 k4
        exact ⟨G5, Hb4, h5, e4, k4.wk wk⟩
theorem xs_while (C : Dfx P w K mg base N sc k X) {body : List Stmt} (I : Nat → List Sl → Prop) (m0 : Nat) (h0 : I m0 G)
    (hs : ∀ m G1, I m G1 → ∃ bb, XT X c G1 bb ∧ (bb = true → XSs X body G1 { nx := fun G2 => ∃ m', m' < m ∧ wkI (I m') G2, rt := Pw.rt, bk := Pw.nx, ct := fun G2 => ∃ m', m' < m ∧ wkI (I m') G2 }) ∧ (bb = false → Pw.nx G1)) : XS X (.While c body [] pos) G Pw :=
  upS (ps_while C.own (pt_wp X c) (pss_wp X body)) fun H0 Hb0 Hb H σ k Dn a b _ _ => by
    refine ⟨fun m σ' H' => ∃ G1 Hb', I m G1 ∧ Ex Hb Hb' ∧ Ok X.K H0 Hb0 G1 Hb' H' σ', ⟨m0, G, Hb, h0, ex_refl _, k⟩, ?_⟩
    rintro m σ' H' ⟨G1, Hb', hi, e1, k1⟩
    obtain ⟨bb, ht, h1, h2⟩ := hs m G1 hi
    refine ht H0 Hb0 Hb' H' σ' k1 _ fun Hb2 H2 g2 => ?_
    cases bb with
    | true =>
      refine ⟨fun σ3 H3 => ∃ m', m' < m ∧ ∃ G3 Hb3, I m' G3 ∧ Ex Hb Hb3 ∧ Ok X.K H0 Hb0 G3 Hb3 H3 σ3, fun σ3 H3 h => h, ?_⟩
      refine StD.later (h1 rfl) (k1.up g2) (ex_tr e1 g2.b) ?_ b (fun G4 Hb4 H4 σ4 q4 e4 k4 => a G4 Hb4 H4 σ4 q4 e4 k4) ?_
      · rintro G4 Hb4 H4 σ4 ⟨m', hm, G5, wk, h5⟩ e4 k4
        exact ⟨m', hm, G5, Hb4, h5, e4, k4.wk wk⟩
      · rintro G4 Hb4 H4 σ4 ⟨m', hm, G5, wk, h5⟩ e4 k4
        exact ⟨m', hm, G5, Hb4, h5, e4, k4.wk wk⟩
    | false => exact a G1 Hb2 H2 σ' (h2 rfl) (ex_tr e1 g2.b) (k1.up g2)
end
end DL

namespace DL
open PySem L2

def relN (sc names : List (Str × NameKind)) : List (Str × NameKind) := names.map fun (n, k) => if (k == .free && sc.lookup n == some .cell) = true then (n, .cell) else (n, k)
def scOf (sc : List (Str × NameKind)) : Scope := { kind := .function, names := sc, isGenerator := false, isCoroutine := false }
def wipeG (G : List Sl) : List Nat → List Sl
  | [] => G
  | v :: vs => (wipeG G vs).set v .un
theorem Ok.wipe {K : PySem.W.Frag} {H0 Hb0 Hb H : Hp} {G : List Sl} {σ : St} (k : Ok K H0 Hb0 G Hb H σ) : ∀ vs : List Nat, Ok K H0 Hb0 (wipeG G vs) Hb H (wipe σ vs)
  | [] => k
  | v :: vs => (Ok.wipe k vs).forget v none
def wpF (X : Cx) (ifs : List Expr) : TT := fun σ H Q => ∀ pins s, Inv X pins σ H s →
  wpAny (model X.prog X.w) X.A (forIn ifs true fun c r => if r = true then do let ok ← isTrue c X.env (eval c X.env); pure (ForInStep.yield ok) else pure (ForInStep.yield r)) (TP X pins σ Q) X.xe s
theorem pts_wp (X : Cx) (ifs : List Expr) : PTs X ifs (wpF X ifs) := ⟨fun pins s _ _ _ I h => h pins s I⟩
abbrev XF (X : Cx) (ifs : List Expr) (G : List Sl) (b : Bool) : Prop := EvT X.K (wpF X ifs) G b
section
variable {P : Program} {w : World} {K : PySem.W.Frag} {mg : Str → Option Value} {base : Heap} {N : List Str} {sc : List (Str × NameKind)} {k : Nat} {X : Cx} {G : List Sl} {Pw : Po}
variable {a b c e elt tg iter : Expr} {ifs : List Expr} {scope : Scope} {own : List (Str × Nat)} {pos p p2 apos : Pos} {x : Str}
theorem upF {t : TT} {b : Bool} (h : PTs X ifs t) (q : EvT X.K t G b) : XF X ifs G b := fun H0 Hb0 Hb H σ k Q f pins s I => h.run pins s σ H Q I (q H0 Hb0 Hb H σ k Q f)
theorem xf_nil : XF X [] G true := upF pts_nil fun H0 Hb0 Hb H σ k Q q => q Hb H (Grow.refl k.ex)
theorem xf_one {b : Bool} (h : XT X c G b) : XF X [c] G b := upF (pts_one (pt_wp X c)) h
/-- the block's context -/
theorem Cxt.blk (C : Cxt P w K mg base N sc k X) (hk : scope.kind = .function) (s : Shared) (H : Hp) (cl : List (Str × Addr)) (Ca : Addr) (fp : List Addr) : Cxt P w K mg base N (relN sc scope.names) k (X.blk s H scope (compEnvC scope cl Ca X.env) fp) where
  eP := C.eP
  ew := C.ew
  eK := C.eK
  emg := C.emg
  eB := C.eB
  eN := C.eN
  esc := by
    have e : (X.blk s H scope (compEnvC scope cl Ca X.env) fp).env.scope = relS scope X.env.scope := rfl
    rw [e]
    unfold relS relN
    have kd := C.kd
    have es := C.esc
    simp only [kd, es, beq_self_eq_true, Bool.and_true]
  nd := C.nd
  room := C.room
  calm := C.calm
  kd := by
    have e : (X.blk s H scope (compEnvC scope cl Ca X.env) fp).env.scope = relS scope X.env.scope := rfl
    rw [e]
    exact hk
theorem Cxt.blkOk (C : Cxt P w K mg base N sc k X) (h : blkC N (scOf sc) scope own = true) : BlkOk X.N X.env.scope scope own := by
  obtain ⟨h1, h2, h3, h4, h5⟩ := blkOk_by h
  refine ⟨h1, h2, by rw [C.eN]; exact h3, fun y hy e => ?_, by rw [C.eN]; exact h5⟩
  rw [C.esc]
  exact h4 y hy e
theorem scope_fn {own : List (Str × Nat)} (h : blkC N (scOf sc) scope own = true) : scope.kind = .function := (blkOk_by h).kind
def wpEB (X : Cx) (scope : Scope) (e : Expr) : TE := fun σ H Q => ∀ s H1 Ca cl fp, wpE (X.blk s H1 scope (compEnvC scope cl Ca X.env) fp) e σ H Q
def wpFB (X : Cx) (scope : Scope) (ifs : List Expr) : TT := fun σ H Q => ∀ s H1 Ca cl fp, wpF (X.blk s H1 scope (compEnvC scope cl Ca X.env) fp) ifs σ H Q
def wpGB (X : Cx) (scope : Scope) (tg : Expr) : TG := fun v σ H Q => ∀ s H1 Ca cl fp, wpG (X.blk s H1 scope (compEnvC scope cl Ca X.env) fp) tg v σ H Q
/-- the reading of a list comprehension -/
theorem en_lc {α : Type} {wi : TI} {g : TG} {tt : TT} {te : TE} {vs : List Nat} (l : List α) (enc : α → D) (Gx : α → List Sl) (p : α → Bool) (f : α → D) (hI : EvI K wi G (l.map enc))
    (hg : ∀ x ∈ l, ∃ us, (∀ i ∈ us, i ∈ vs) ∧ EvTg K g us (wipeG G vs) (enc x) (Gx x)) (ht : ∀ x ∈ l, EvT K tt (Gx x) (p x)) (he : ∀ x ∈ l, p x = true → EvD K te (Gx x) (f x)) (hz : l.length ≤ 50000) :
    EvN K (tLc wi g tt te vs) G ((l.filter p).map f) := fun H0 Hb0 Hb H σ k Q q => hI H0 Hb0 Hb H σ k _ fun J Hb1 H1 g1 it Da hD => by
  have k1 := k.up g1
  refine ⟨fun i m H' => i + m = l.length ∧ ∃ Hb' xs, Grow Hb1 H1 Hb' H' ∧ Hb' Da = none ∧ H' Da = some (.lst xs) ∧ Reps K Hb' xs (((l.take i).filter p).map f), ⟨l.length, by omega, Hb1, [], Grow.newm g1.s hD, free_b g1.s hD, upd_same, .nil⟩, ?_⟩
  rintro i m H' ⟨hm, Hb', xs, gi, hb, hx, hr⟩
  obtain ⟨it1, it2⟩ := it Hb' H' gi.b gi.s i
  by_cases hi : i < l.length
  · have hd : (l.map enc)[i]? = some (enc l[i]) := by rw [List.getElem?_map, List.getElem?_eq_getElem hi]; rfl
    have hmem : l[i] ∈ l := List.getElem_mem hi
    obtain ⟨go, yl⟩ := it1 _ hd
    refine .inr ⟨go, fun H2 => ∃ Hb2 ys, Grow Hb1 H1 Hb2 H2 ∧ Hb2 Da = none ∧ H2 Da = some (.lst ys) ∧ Reps K Hb2 ys (((l.take (i + 1)).filter p).map f), fun H2 ⟨Hb2, ys, a1, a2, a3, a4⟩ => ⟨m - 1, by omega, by omega, Hb2, ys, a1, a2, a3, a4⟩, fun y H2 hy => ?_⟩
    obtain ⟨Hb2, g2, r2⟩ := yl y H2 hy
    obtain ⟨us, hus, htg⟩ := hg l[i] hmem
    have k2 := (k1.up (gi.trans g2)).wipe vs
    have tk : l.take (i + 1) = l.take i ++ [l[i]] := by rw [List.take_add_one, List.getElem?_eq_getElem hi]; rfl
    refine htg H0 Hb0 Hb2 H2 (L2.wipe σ vs) y k2 r2 _ fun σ2 k3 w3 => ⟨by rw [w3 vs hus, wipe_wipe], ht l[i] hmem H0 Hb0 Hb2 H2 σ2 k3 _ fun Hb3 H3 g3 => ?_⟩
    have g23 := g2.trans g3
    cases hp : p l[i] with
    | true =>
      refine he l[i] hmem hp H0 Hb0 Hb3 H3 σ2 (k3.up g3) _ fun z Hb4 H4 g4 r4 => ?_
      have g24 := g23.trans g4
      have h4 := g24.h _ _ hx
      have n4 := g24.out _ _ hx hb
      have gl := gi.trans g24
      refine ⟨xs, h4, Evl.sz_lt ?_, Hb4, xs ++ [z], ⟨gl.b, fun b o q => ?_, fun b o q => ?_, gl.out⟩, n4, upd_same, ?_⟩
      · have e1 := hr.length
        rw [List.length_map] at e1
        have e2 := List.length_filter_le p (l.take i)
        rw [List.length_take] at e2
        omega
      · rw [upd_ne (ne_of_none q hD)]
        exact gl.h b o q
      · rw [upd_ne (ne_of_none q n4)]
        exact gl.s b o q
      · rw [tk, List.filter_append, List.map_append, List.filter_cons, if_pos hp]
        exact (hr.mono g24.b).append (.cons r4 .nil)
    | false =>
      refine ⟨Hb3, xs, gi.trans g23, g23.out _ _ hx hb, g23.h _ _ hx, ?_⟩
      rw [tk, List.filter_append, List.map_append, List.filter_cons, if_neg (by rw [hp]; exact Bool.false_ne_true)]
      rw [List.filter_nil, List.map_nil, List.append_nil]
      exact hr.mono g23.b
  · have e : i = l.length := by omega
    have hn : (l.map enc)[i]? = none := by rw [List.getElem?_eq_none_iff, List.length_map]; omega
    rw [e, List.take_length] at hr
    exact .inl ⟨it2 hn, q _ Hb' H' (g1.trans gi) ⟨Da, xs, rfl, free_b g1.h hD, hb, hx, hr⟩⟩
/-- what a list comprehension asks -/
structure Lc (X : Cx) (K : PySem.W.Frag) (P : Program) (w : World) (mg : Str → Option Value) (base : Heap) (N : List Str) (sc : List (Str × NameKind)) (k : Nat) (own : List (Str × Nat)) (scope : Scope) (elt tg iter : Expr) (ifs : List Expr) (G : List Sl) (ds : List D) : Prop where
  blk : blkC N (scOf sc) scope own = true
  ex : ∃ (α : Type) (l : List α) (enc : α → D) (Gx : α → List Sl) (p : α → Bool) (f : α → D), ds = (l.filter p).map f ∧ XI X tg iter G (l.map enc) ∧ l.length ≤ 50000 ∧
    ∀ X', Cxt P w K mg base N (relN sc scope.names) k X' → ∀ x ∈ l, (∃ us, (∀ i ∈ us, i ∈ own.map (·.2)) ∧ XTg X' tg us (wipeG G (own.map (·.2))) (enc x) (Gx x)) ∧ XF X' ifs (Gx x) (p x) ∧ (p x = true → XE X' elt (Gx x) (f x))
theorem Lc.ev {ds : List D} (C : Cxt P w K mg base N sc k X) (h : Lc X K P w mg base N sc k own scope elt tg iter ifs G ds) : EvN X.K (tLc (wpI X tg iter) (wpGB X scope tg) (wpFB X scope ifs) (wpEB X scope elt) (own.map (·.2))) G ds := by
  obtain ⟨α, l, enc, Gx, p, f, rfl, hI, hz, hb⟩ := h.ex
  have kk := scope_fn h.blk
  refine en_lc l enc Gx p f hI (fun x hx => ?_) (fun x hx H0 Hb0 Hb H σ k Q q s H1 Ca cl fp => ?_) (fun x hx hp H0 Hb0 Hb H σ k Q q s H1 Ca cl fp => ?_) hz
  · have e0 := C.eK
    subst e0
    have all : ∀ s H1 Ca cl fp, EvTg X.K (wpG (X.blk s H1 scope (compEnvC scope cl Ca X.env) fp) tg) (own.map (·.2)) (wipeG G (own.map (·.2))) (enc x) (Gx x) := fun s H1 Ca cl fp => by
      obtain ⟨⟨us2, h2, h3⟩, _⟩ := hb _ (C.blk kk s H1 cl Ca fp) x hx
      exact fun H0 Hb0 Hb H σ y k r Q f => h3 H0 Hb0 Hb H σ y k r Q fun σ' k' w' => f σ' k' fun ws hw => w' ws fun i hi => hw i (h2 i hi)
    exact ⟨own.map (·.2), fun i hi => hi, fun H0 Hb0 Hb H σ y k r Q f s H1 Ca cl fp => all s H1 Ca cl fp H0 Hb0 Hb H σ y k r Q f⟩
  · have e0 := C.eK
    subst e0
    exact (hb _ (C.blk kk s H1 cl Ca fp) x hx).2.1 H0 Hb0 Hb H σ k Q q
  · have e0 := C.eK
    subst e0
    exact (hb _ (C.blk kk s H1 cl Ca fp) x hx).2.2 hp H0 Hb0 Hb H σ k Q q
theorem pg_blk (s : Shared) (H1 : Hp) (Ca : Addr) (cl : List (Str × Addr)) (fp : List Addr) : PG (X.blk s H1 scope (compEnvC scope cl Ca X.env) fp) tg (wpGB X scope tg) := ⟨fun pins s' _ _ _ u _ I r h => h s H1 Ca cl fp pins s' u I r⟩
theorem pts_blk (s : Shared) (H1 : Hp) (Ca : Addr) (cl : List (Str × Addr)) (fp : List Addr) : PTs (X.blk s H1 scope (compEnvC scope cl Ca X.env) fp) ifs (wpFB X scope ifs) := ⟨fun pins s' _ _ _ I h => h s H1 Ca cl fp pins s' I⟩
theorem pe_blk (s : Shared) (H1 : Hp) (Ca : Addr) (cl : List (Str × Addr)) (fp : List Addr) : PE (X.blk s H1 scope (compEnvC scope cl Ca X.env) fp) elt (wpEB X scope elt) := ⟨fun pins s' _ _ _ I h => h s H1 Ca cl fp pins s' I⟩
/-- [elt for tg in iter if ..] -/
theorem xn_lc {ds : List D} (C : Cxt P w K mg base N sc k X) (h : Lc X K P w mg base N sc k own scope elt tg iter ifs G ds) (hf : ∀ x, foldedSetIterable iter X.env x = pure x := by intro _; rfl) : XN X (.ListComp elt [⟨tg, iter, ifs, 0⟩] scope pos) G ds :=
  upN (pe_lc C.calm (by rw [C.eN]; exact C.nd) (pi_wp X tg iter) (C.blkOk h.blk) pg_blk pts_blk pe_blk hf) (h.ev C)
/-- y = [..] -/
theorem xs_lcN {ds : List D} (C : Dfx P w K mg base N sc k X) (i : Nat) {py spos : Pos} (h : Lc X K P w mg base N sc k own scope elt tg iter ifs G ds) (hP : Pw.nx (G.set i (.ml X.K ds))) (hN : N[i]? = some x := by rfl) (hl : sc.lookup x = some .local := by rfl)
    (ho : (scope.names.any fun (n, k) => n == x && (k == .local || k == .cell)) = false := by decide +kernel) (hln : (py.line == pos.line) = true := by rfl) (hf : ∀ x, foldedSetIterable iter X.env x = pure x := by intro _; rfl) :
    XS X (.Assign [.Name x py] (.ListComp elt [⟨tg, iter, ifs, 0⟩] scope pos) spos) G Pw :=
  upS (ps_setLc C.calm (by rw [C.eN]; exact C.nd) (by rw [C.eN]; exact hN) (by rw [C.esc]; exact hl) (sw_true C.kd (by rw [C.esc]; exact hl) hln ho) (pi_wp X tg iter) (C.blkOk h.blk) pg_blk pts_blk pe_blk hf)
    fun H0 Hb0 Hb H σ k Dn a _ _ _ => EvN.m (h.ev C.toCxt) H0 Hb0 Hb H σ k _ fun y Hb1 H1 g ⟨fp, ok, nd, fr⟩ => a _ Hb1 H1 _ hP g.b (k.putm g i ok nd fr)
theorem xs_lc {ds : List D} (C : Dfx P w K mg base N sc k X) (i : Nat) {py spos : Pos} (h : Lc X K P w mg base N sc k own scope elt tg iter ifs G ds) (hP : Pw.nx (G.set i (.im (.lst ds)))) (hN : N[i]? = some x := by rfl) (hl : sc.lookup x = some .local := by rfl)
    (ho : (scope.names.any fun (n, k) => n == x && (k == .local || k == .cell)) = false := by decide +kernel) (hln : (py.line == pos.line) = true := by rfl) (hf : ∀ x, foldedSetIterable iter X.env x = pure x := by intro _; rfl) :
    XS X (.Assign [.Name x py] (.ListComp elt [⟨tg, iter, ifs, 0⟩] scope pos) spos) G Pw :=
  upS (ps_setLc C.calm (by rw [C.eN]; exact C.nd) (by rw [C.eN]; exact hN) (by rw [C.esc]; exact hl) (sw_true C.kd (by rw [C.esc]; exact hl) hln ho) (pi_wp X tg iter) (C.blkOk h.blk) pg_blk pts_blk pe_blk hf)
    fun H0 Hb0 Hb H σ k Dn a _ _ _ => EvN.toD (h.ev C.toCxt) H0 Hb0 Hb H σ k _ fun y Hb1 H1 g r => a _ Hb1 H1 _ hP g.b ((k.up g).put i r)
end

def spD (K : PySem.W.Frag) (pre : List D → D → Prop) : Sp := fun vs H Q _ => ∃ Hb ds d, Ex Hb H ∧ Reps K Hb vs ds ∧ pre ds d ∧ ∀ x Hb' H', Grow Hb H Hb' H' → Rep K Hb' x d → Q x H'
def entry (N : List Str) (ds : List D) : List Sl := ds.map Sl.im ++ List.replicate (N.length - ds.length) .un
section
variable {P : Program} {w : World} {K : PySem.W.Frag} {mg : Str → Option Value} {base : Heap} {N ps : List Str} {k : Nat} {x qual : Str} {params : Arguments} {body : List Stmt} {scope : Scope} {dvs : List V} {kws : List (Str × V)} {f : Addr} {fd : FuncData} {pre : List D → D → Prop}
theorem sls_un {Hb H : Hp} : ∀ n : Nat, Sls K Hb H (List.replicate n none) (List.replicate n .un) (List.replicate n [])
  | 0 => .nil
  | n + 1 => .cons rfl (sls_un n)
theorem sls_args {Hb H : Hp} (n : Nat) : ∀ {vs : List V} {ds : List D}, Reps K Hb vs ds → Sls K Hb H (vs.map some ++ List.replicate n none) (ds.map Sl.im ++ List.replicate n .un) (ds.map (fun _ => []) ++ List.replicate n [])
  | _, _, .nil => sls_un n
  | _, _, .cons h r => .cons ⟨rfl, _, rfl, h⟩ (sls_args n r)
theorem fl_nil {α β : Type} : ∀ (l : List α) (n : Nat), (l.map (fun _ => ([] : List β)) ++ List.replicate n []).flatten = []
  | [], 0 => rfl
  | [], n + 1 => by
    rw [List.map_nil, List.nil_append, List.replicate_succ, List.flatten_cons]
    exact fl_nil ([] : List α) n
  | _ :: l, n => by
    rw [List.map_cons, List.cons_append, List.flatten_cons]
    exact fl_nil l n
theorem ok_entry {Hb H : Hp} {vs : List V} {ds : List D} (e : Ex Hb H) (r : Reps K Hb vs ds) : Ok K H Hb (entry N ds) Hb H (L2.start N vs) := by
  refine ⟨Grow.refl e, ds.map (fun _ => []) ++ List.replicate (N.length - ds.length) [], ?_, ?_, ?_⟩
  · unfold entry L2.start
    rw [r.length]
    exact sls_args _ r
  · rw [fl_nil]; exact List.nodup_nil
  · rw [fl_nil]; intro a h; cases h
/-- the context of a def's body -/
theorem dfx_of {cdv : Value} {A : Around} {outer : List Env} {s : Shared} {H : Hp} {E : XK} (S : FnScope N ps scope) (hr : Room k (A.deeper (PyProof.Rows.envOfC qual scope s.heap.objs.size f cdv))) :
    Dfx P w K mg base N scope.names k (cxOf CX0 P w K mg base N qual scope f cdv A outer s H E).nox where
  eP := rfl
  ew := rfl
  eK := rfl
  emg := rfl
  eB := rfl
  eN := rfl
  esc := rfl
  nd := S.nd
  room := hr
  calm := rfl
  kd := S.kind
  fn := fun _ => rfl
  own := PassesOwn.never
theorem fn_d (F : FunD K x qual params body scope dvs kws f fd) (S : FnScope N ps scope) (hlen : ∀ ds d, pre ds d → ds.length = ps.length)
    (hb : ∀ X, Dfx P w K mg base N scope.names k X → ∀ ds d, pre ds d → XSs X body (entry N ds) { nx := fun _ => d = dN, rt := fun r => r = d }) : FnOk P w K mg base CX0 (k + 1) f fd ps (spD K pre) := by
  refine F.ok S (fun vs H Q E h => ?_) (fun cdv A outer s H vs Q E hr h => ?_)
  · obtain ⟨Hb, ds, d, _, r, hp, _⟩ := h
    rw [r.length, hlen ds d hp]
  · obtain ⟨Hb, ds, d, e, r, hp, q⟩ := h
    refine ⟨_, (pss_wp (cxOf CX0 P w K mg base N qual scope f cdv A outer s H E).nox body).nox, ?_⟩
    refine hb _ (dfx_of S hr) ds d hp H Hb Hb H _ (ok_entry e r) _ ?_ ?_ (fun _ _ _ _ z => z.elim) (fun _ _ _ _ z => z.elim)
    · intro G' Hb' H' σ' z _ k'
      exact q _ Hb' H' k'.grow (by rw [z]; exact .v _)
    · intro r' y Hb' H' z g ry
      exact q y Hb' H' g (by rw [← z]; exact ry)
end

/-- what is known of the def that the module's name x holds: on the arguments ds it gives d, where pre ds d; j: its level -/
def Kn (P : Program) (w : World) (K : PySem.W.Frag) (mg : Str → Option Value) (base : Heap) (x : Str) (j : Nat) (pre : List D → D → Prop) : Prop :=
  ∃ f fd ps, mg x = some (.ref f) ∧ PySem.W.keepIn K (.ref f) = true ∧ Binds K fd ps [] ∧ FnOk P w K mg base CX0 j f fd ps (spD K pre)
/-- .. called with n positional arguments and the keywords ks; more: the defaults behind -/
def KnK (P : Program) (w : World) (K : PySem.W.Frag) (mg : Str → Option Value) (base : Heap) (x : Str) (j n : Nat) (ks : List Str) (more : List V) (pre : List D → D → Prop) : Prop :=
  ∃ f fd ps g, mg x = some (.ref f) ∧ PySem.W.keepIn K (.ref f) = true ∧ KBn K fd ps n ks g (fun vs zs => vs ++ zs ++ more) ∧ FnOk P w K mg base CX0 j f fd ps (spD K pre)
section
variable {P : Program} {w : World} {K : PySem.W.Frag} {mg : Str → Option Value} {base : Heap} {N : List Str} {sc : List (Str × NameKind)} {k j : Nat} {X : Cx} {G : List Sl} {Pw : Po} {pre : List D → D → Prop}
variable {e : Expr} {es : List Expr} {pos p : Pos} {x : Str}
theorem ev_call {ta : TA} {ds : List D} {d : D} (h : EvA K ta G ds) (hp : pre ds d) : EvD K (tCall (spD K pre) [] E0 ta) G d := fun H0 Hb0 Hb H σ k Q q => h H0 Hb0 Hb H σ k _ fun xs Hb1 H1 g r => by
  rw [List.append_nil]
  exact ⟨Hb1, ds, d, g.s, r, hp, fun y Hb2 H2 g2 r2 => q y Hb2 H2 (g.trans g2) r2⟩
/-- f(e, ..) -/
theorem xe_call {ds : List D} {d : D} (C : Cxt P w K mg base N sc k X) (F : Kn P w K mg base x j pre) (ha : XA X (e :: es) G ds) (hp : pre ds d) (hj : j ≤ k := by decide) (hg : GlL sc x := by rfl) (hdb : (x == ("__debug__" : Str)) = false := by decide)
    (he : starEach (e :: es) X.env = (false, eval e X.env) :: starEach es X.env := by rfl) (hpl : (backTo pos (starEach es X.env)).any (·.1) = false := by rfl) : XE X (.Call (.Name x p) (e :: es) [] pos) G d := by
  obtain ⟨f, fd, ps, hm, kp, hb, ok⟩ := F
  obtain ⟨rfl, rfl, rfl, rfl, rfl⟩ : X.prog = P ∧ X.w = w ∧ X.K = K ∧ X.mg = mg ∧ X.base = base := ⟨C.eP, C.ew, C.eK, C.emg, C.eB⟩
  exact upD (pe_call ok (C.room.mono hj) (C.gl hg) hm kp hb .nil pass0 (pa_wp X (e :: es)) hdb he hpl) (ev_call ha hp)
def wpK (X : Cx) (kws : List Keyword) : TA := fun σ H Q => ∀ pos pins s, Inv X pins σ H s → wpAny (model X.prog X.w) X.A (evalAll ((backToKw pos (keywordEach kws X.env)).map (·.2))) (AP X pins σ Q) X.xe s
theorem pk_wp (X : Cx) (kws : List Keyword) : PK X kws (wpK X kws) := ⟨fun pos pins s _ _ _ I h => h pos pins s I⟩
abbrev XK' (X : Cx) (kws : List Keyword) (G : List Sl) (ds : List D) : Prop := EvA X.K (wpK X kws) G ds
theorem upK {kws : List Keyword} {ds : List D} {t : TA} (h : PK X kws t) (q : EvA X.K t G ds) : XK' X kws G ds := fun H0 Hb0 Hb H σ k Q kq pos pins s I => h.run pos pins s σ H Q I (q H0 Hb0 Hb H σ k Q kq)
theorem xk_nil : XK' X [] G [] := upK pk_nil eva_nil
theorem xk_cons {nm : Option Str} {kpos : Pos} {kws : List Keyword} {d : D} {ds : List D} (h1 : XE X e G d) (h2 : XK' X kws G ds) : XK' X (⟨nm, e, kpos⟩ :: kws) G (d :: ds) := upK (pk_cons (pe_wp X e) (pk_wp X kws)) (eva_cons h1 h2)
theorem ev_callN {n m : Nat} {ta tk : TA} {more : List V} {ds zs : List D} {d : D} (h : EvA K ta G ds) (h2 : EvA K tk G zs) (l1 : ds.length = n) (l2 : zs.length = m) (hp : pre (ds ++ zs ++ more.map D.v) d) : EvD K (tCallN n m (spD K pre) (fun vs zs => vs ++ zs ++ more) E0 ta tk) G d :=
  fun H0 Hb0 Hb H σ k Q q => h H0 Hb0 Hb H σ k _ fun xs Hb1 H1 g r => h2 H0 Hb0 Hb1 H1 σ (k.up g) _ fun ys Hb2 H2 g2 r2 =>
    ⟨r.length.trans l1, r2.length.trans l2, Hb2, _, d, g2.s, ((r.mono g2.b).append r2).append (reps_v more), hp, fun y Hb3 H3 g3 r3 => q y Hb3 H3 ((g.trans g2).trans g3) r3⟩
/-- f(e, .., k = v, ..) -/
theorem xe_callK {n : Nat} {ks : List Str} {more : List V} {ds zs : List D} {d : D} {kws : List Keyword} (C : Cxt P w K mg base N sc k X) (F : KnK P w K mg base x j n ks more pre) (ha : XA X (e :: es) G ds) (hk : XK' X kws G zs) (l1 : ds.length = n) (l2 : zs.length = ks.length) (hp : pre (ds ++ zs ++ more.map D.v) d) (hj : j ≤ k := by decide) (hg : GlL sc x := by rfl)
    (hall : (backToKw pos (keywordEach kws X.env)).all (·.1.isSome) = true := by rfl) (hks : (backToKw pos (keywordEach kws X.env)).filterMap (·.1) = ks := by rfl)
    (hdb : (x == ("__debug__" : Str)) = false := by decide) (he : starEach (e :: es) X.env = (false, eval e X.env) :: starEach es X.env := by rfl)
    (hpl : ((backTo pos (starEach (e :: es) X.env)).any (·.1) || (backToKw pos (keywordEach kws X.env)).any (·.1.isNone)) = false := by rfl) : XE X (.Call (.Name x p) (e :: es) kws pos) G d := by
  obtain ⟨f, fd, ps, g, hm, kp, hb, ok⟩ := F
  obtain ⟨rfl, rfl, rfl, rfl, rfl⟩ : X.prog = P ∧ X.w = w ∧ X.K = K ∧ X.mg = mg ∧ X.base = base := ⟨C.eP, C.ew, C.eK, C.emg, C.eB⟩
  exact upD (pe_callN ok (C.room.mono hj) (C.gl hg) hm kp hb pass0 (pa_wp X (e :: es)) (pk_wp X kws) hall hks hdb he hpl) (ev_callN ha hk l1 l2 hp)
end
end DL

namespace DL
open PySem L2

def bInt (b : Bool) : Int := if b = true then 1 else 0
theorem bInt_inj {a b : Bool} (h : bInt a = bInt b) : a = b := by
  cases a <;> cases b <;> first | rfl | exact absurd h (by decide)
def skey (s : Sv) : NestedKey := .tup [.tup (s.1.map fun b => .num (bInt b)), .num (bInt s.2)]
theorem nums_inj : ∀ {xs ys : List Bool}, xs.map (fun b => NestedKey.num (bInt b)) = ys.map (fun b => NestedKey.num (bInt b)) → xs = ys
  | [], [], _ => rfl
  | [], _ :: _, h => by simp at h
  | _ :: _, [], h => by simp at h
  | x :: xs, y :: ys, h => by
    rw [List.map_cons, List.map_cons] at h
    injection h with h1 h2
    injection h1 with h1
    rw [bInt_inj h1, nums_inj h2]
theorem skey_inj {s t : Sv} (h : skey s = skey t) : s = t := by
  unfold skey at h
  injection h with h
  injection h with h1 h2
  injection h1 with h1
  injection h2 with h2 _
  injection h2 with h2
  obtain ⟨a, b⟩ := s
  obtain ⟨c, d⟩ := t
  have e1 : a = c := nums_inj h1
  have e2 : b = d := bInt_inj h2
  rw [e1, e2]
def dSv (s : Sv) : D := .tup [.tup (s.1.map dB), dB s.2]
theorem nums_all {h : Heap} : ∀ {bs : List Bool} {us : List Value}, Vals (bs.map V.bl) us → NestedAll h (bs.map fun b => .num (bInt b)) us
  | [], _, r => by cases r; exact .nil
  | b :: bs, _, r => by
    rw [List.map_cons] at r
    cases r with
    | cons r1 r2 =>
      cases r1
      exact .cons (.bool rfl) (nums_all r2)
theorem depth_nums : ∀ bs : List Bool, NestedKey.depthAll (bs.map fun b => NestedKey.num (bInt b)) = 0
  | [] => rfl
  | b :: bs => by
    rw [List.map_cons]
    show max (NestedKey.depth (.num (bInt b))) (NestedKey.depthAll (bs.map fun b => NestedKey.num (bInt b))) = 0
    rw [depth_nums bs]
    rfl
/-- a state that stands is a key -/
theorem key_sv {X : Cx} {pins : List (Addr × Obj)} {σ : St} {H : Hp} {s : Shared} {b : Addr} {st : Sv} (I : Inv X pins σ H s) (r : Rep X.K H (.ref b) (dSv st)) : (nestedKind X.prog X.w).is s.heap (skey st) b := by
  cases r with
  | @tup _ xs _ hb r1 =>
    cases r1 with
    | @cons x0 _ xs1 _ r2 r3 =>
      cases r3 with
      | cons r4 r5 =>
        cases r5
        cases r4
        cases r2 with
        | @tup m ys _ hm r6 =>
          have e : st.1.map dB = (st.1.map V.bl).map D.v := by rw [List.map_map]; rfl
          rw [e] at r6
          have e2 := reps_flat r6
          subst e2
          obtain ⟨its, v1, ⟨o, g1, c1, n1, d1⟩, _⟩ := I.tuple (SqT.of hb)
          obtain ⟨its2, v2, ⟨o2, g2, c2, n2, d2⟩, _⟩ := I.tuple (SqT.of hm)
          refine ⟨.tup g1 c1 d1 ?_, ?_⟩
          · cases v1 with
            | cons w1 v1 =>
              cases v1 with
              | cons w2 v1 =>
                cases v1
                cases w1
                cases w2
                exact .cons (.tup g2 c2 d2 (by simpa using nums_all v2)) (.cons (.bool rfl) .nil)
          · show NestedKey.depth (skey st) ≤ 8
            unfold skey
            simp only [NestedKey.depth, NestedKey.depthAll, depth_nums]
            decide

def lkR (raw : List (Sv × Addr × V)) (s : Sv) : Option (Addr × V) := (raw.find? fun p => decide (p.1 = s)).map (·.2)
def putR (raw : List (Sv × Addr × V)) (s : Sv) (b : Addr) (v : V) : List (Sv × Addr × V) := if (lkR raw s).isSome then raw.map (fun p => if p.1 = s then (p.1, p.2.1, v) else p) else raw ++ [(s, b, v)]
abbrev RawRel : List (Sv × Addr × V) → List (NestedKey × Addr × Value) → Prop := Paired fun p q => skey p.1 = q.1 ∧ p.2.1 = q.2.1 ∧ RelV p.2.2 q.2.2
theorem RawRel.look {raw : List (Sv × Addr × V)} {xs : List (NestedKey × Addr × Value)} (r : RawRel raw xs) (s : Sv) : (lkR raw s = none ∧ atKey xs (skey s) = none) ∨ ∃ b v u, lkR raw s = some (b, v) ∧ atKey xs (skey s) = some (b, u) ∧ RelV v u := by
  induction r with
  | nil => exact .inl ⟨rfl, rfl⟩
  | @cons p q ps qs h t ih =>
    obtain ⟨h1, h2, h3⟩ := h
    by_cases e : p.1 = s
    · have e' : q.1 = skey s := by rw [← h1, e]
      refine .inr ⟨p.2.1, p.2.2, q.2.2, by simp [lkR, List.find?_cons, e], ?_, h3⟩
      rw [h2]
      simp [atKey, List.find?_cons, e']
    · have e' : ¬ q.1 = skey s := fun z => e (skey_inj (h1.trans z))
      have a1 : lkR (p :: ps) s = lkR ps s := by simp [lkR, List.find?_cons, e]
      have a2 : atKey (q :: qs) (skey s) = atKey qs (skey s) := by simp [atKey, List.find?_cons, e']
      rw [a1, a2]
      exact ih
theorem RawRel.repl {raw : List (Sv × Addr × V)} {xs : List (NestedKey × Addr × Value)} (r : RawRel raw xs) (s : Sv) {v : V} {u : Value} (rv : RelV v u) : RawRel (raw.map fun p => if p.1 = s then (p.1, p.2.1, v) else p) (xs.map (putAt (skey s) u)) := by
  induction r with
  | nil => exact .nil
  | @cons p q ps qs h t ih =>
    rw [List.map_cons, List.map_cons]
    refine .cons ?_ ih
    obtain ⟨h1, h2, h3⟩ := h
    unfold putAt
    by_cases e : p.1 = s
    · rw [if_pos e, if_pos (by rw [← h1, e])]; exact ⟨h1, h2, rv⟩
    · rw [if_neg e, if_neg (fun z => e (skey_inj (h1.trans z)))]; exact ⟨h1, h2, h3⟩
theorem RawRel.put {raw : List (Sv × Addr × V)} {xs : List (NestedKey × Addr × Value)} (r : RawRel raw xs) (s : Sv) (b : Addr) {v : V} {u : Value} (rv : RelV v u) : RawRel (putR raw s b v) (storedH xs (skey s) b u) := by
  unfold putR storedH
  rcases r.look s with ⟨a1, a2⟩ | ⟨b', v', u', a1, a2, _⟩
  · rw [a1, a2]
    exact Paired.snoc r ⟨rfl, rfl, rv⟩
  · rw [a1, a2]
    exact r.repl s rv
theorem putR_len (raw : List (Sv × Addr × V)) (s : Sv) (b : Addr) (v : V) : (putR raw s b v).length ≤ raw.length + 1 := by
  unfold putR
  split
  · rw [List.length_map]; omega
  · rw [List.length_append, List.length_singleton]; exact Nat.le_refl _

/-- at a stands a dict of states -/
def dStO (P : Program) (w : World) (a : Addr) (raw : List (Sv × Addr × V)) (h : Heap) : Prop := raw.length ≤ sizeLine ∧ (a == sysModules) = false ∧ ∃ xs, RawRel raw xs ∧ ∃ o es ep, h.get? a = some o ∧ o.ExactDict ∧ o.data = .dict es ep ∧ es.toList = xs.map (entryOfKey (nestedKind P w)) ∧ (xs.map (·.1)).Nodup
def dSt (P : Program) (w : World) (a : Addr) (raw : List (Sv × Addr × V)) : HO := .ext (dStO P w a raw)
def KeysAt (K : PySem.W.Frag) (H : Hp) (raw : List (Sv × Addr × V)) : Prop := ∀ p ∈ raw, Rep K H (.ref p.2.1) (dSv p.1)
theorem KeysAt.mono {K : PySem.W.Frag} {H H' : Hp} {raw : List (Sv × Addr × V)} (h : KeysAt K H raw) (e : Ex H H') : KeysAt K H' raw := fun p hp => Rep.mono e (h p hp)
theorem mem_putR {raw : List (Sv × Addr × V)} {s : Sv} {b : Addr} {v : V} {p : Sv × Addr × V} (h : p ∈ putR raw s b v) : (∃ q ∈ raw, q.1 = p.1 ∧ q.2.1 = p.2.1) ∨ (p.1 = s ∧ p.2.1 = b) := by
  unfold putR at h
  split at h
  · obtain ⟨q, hq, e⟩ := List.mem_map.mp h
    by_cases z : q.1 = s
    · rw [if_pos z] at e
      subst e
      exact .inl ⟨q, hq, rfl, rfl⟩
    · rw [if_neg z] at e
      subst e
      exact .inl ⟨q, hq, rfl, rfl⟩
  · rcases List.mem_append.mp h with z | z
    · exact .inl ⟨p, z, rfl, rfl⟩
    · have e := List.mem_singleton.mp z
      subst e
      exact .inr ⟨rfl, rfl⟩
theorem KeysAt.put {K : PySem.W.Frag} {H : Hp} {raw : List (Sv × Addr × V)} (h : KeysAt K H raw) {s : Sv} {b : Addr} (r : Rep K H (.ref b) (dSv s)) (v : V) : KeysAt K H (putR raw s b v) := fun p hp => by
  rcases mem_putR hp with ⟨q, hq, e1, e2⟩ | ⟨e1, e2⟩
  · rw [← e1, ← e2]; exact h q hq
  · rw [e1, e2]; exact r

section
variable {X : Cx} {pins : List (Addr × Obj)} {σ : St} {H : Hp} {s : Shared} {a b : Addr} {raw : List (Sv × Addr × V)} {st : Sv} {A : Around} {E : Value → Shared → Prop}
theorem ds_of (I : Inv X pins σ H s) (h : H a = some (dSt X.prog X.w a raw)) (hk : KeysAt X.K H raw) : raw.length ≤ sizeLine ∧ (a == sysModules) = false ∧ ∃ xs, RawRel raw xs ∧ s.heap.DictOfH (nestedKind X.prog X.w) a xs := by
  obtain ⟨⟨z, hd, xs, r, o, es, ep, g, ex, d, l, nd⟩, _⟩ := (show ObjOk X.prog X.w H s.heap a (.ext (dStO X.prog X.w a raw)) from I.hok a _ h)
  refine ⟨z, hd, xs, r, o, es, ep, g, ex, d, l, fun x hx => ?_, nd⟩
  have all : ∀ {l : List (Sv × Addr × V)} {m : List (NestedKey × Addr × Value)}, RawRel l m → KeysAt X.K H l → ∀ x ∈ m, (nestedKind X.prog X.w).is s.heap x.1 x.2.1 := by
    intro l m q
    induction q with
    | nil => intro _ x hx; cases hx
    | @cons p q ps qs hq t ih =>
      intro kl x hx
      rcases List.mem_cons.mp hx with e | hx
      · subst e
        rw [← hq.1, ← hq.2.1]
        exact key_sv I (kl p List.mem_cons_self)
      · exact ih (fun y hy => kl y (List.mem_cons_of_mem _ hy)) x hx
  exact all r hk x hx
theorem ds_ok {P : Program} {w : World} {H' : Hp} {h' : Heap} {xs : List (NestedKey × Addr × Value)} (z : raw.length ≤ sizeLine) (hd : (a == sysModules) = false) (r : RawRel raw xs) (dd : h'.DictOfH (nestedKind P w) a xs) : ObjOk P w H' h' a (dSt P w a raw) := by
  obtain ⟨o, es, ep, g, ex, d, l, _, nd⟩ := dd
  refine ⟨⟨z, hd, xs, r, o, es, ep, g, ex, d, l, nd⟩, ⟨o, g⟩, ?_⟩
  rintro h1 h2 ⟨z, hd, xs, r, o, es, ep, g, ex, d, l, nd⟩ k
  exact ⟨z, hd, xs, r, o, es, ep, k _ g, ex, d, l, nd⟩
theorem room8 (hu : A.units + 64 < cLine) : (nestedKind X.prog X.w).room A.in1 := by
  show A.units + 1 + 8 < cLine
  omega
theorem ds_get {Q : Value → Shared → Prop} {bb : Addr} {v : V} (hu : A.units + 64 < cLine) (I : Inv X pins σ H s) (h : H a = some (dSt X.prog X.w a raw)) (hk : KeysAt X.K H raw) (rb : Rep X.K H (.ref b) (dSv st)) (l : lkR raw st = some (bb, v)) (q : ∀ w' s', Inv X pins σ H s' → RelV v w' → Q w' s') :
    wpAny (model X.prog X.w) A (getItem (.ref a) (.ref b)) Q E s := by
  obtain ⟨z, hd, xs, r, dd⟩ := ds_of I h hk
  rcases r.look st with ⟨a1, _⟩ | ⟨b', v', u', a1, a2, rv⟩
  · rw [a1] at l; cases l
  · rw [a1] at l
    cases l
    exact wpAny_getItem_heap (room8 (X := X) hu) (key_sv I rb) dd a2 (q _ _ (I.tok _) rv)
theorem ds_in {Q : Value → Shared → Prop} (hu : A.units + 64 < cLine) (I : Inv X pins σ H s) (h : H a = some (dSt X.prog X.w a raw)) (hk : KeysAt X.K H raw) (rb : Rep X.K H (.ref b) (dSv st)) (q : ∀ s', Inv X pins σ H s' → Q (.bool (lkR raw st).isSome) s') :
    wpAny (model X.prog X.w) A (compareOp .In (.ref b) (.ref a)) Q E s := by
  obtain ⟨z, hd, xs, r, dd⟩ := ds_of I h hk
  refine wpAny_in_heap (room8 (X := X) hu) (key_sv I rb) hd dd ?_
  have e : (atKey xs (skey st)).isSome = (lkR raw st).isSome := by
    rcases r.look st with ⟨a1, a2⟩ | ⟨b', v', u', a1, a2, rv⟩ <;> rw [a1, a2] <;> rfl
  rw [e]
  exact q _ (I.tok _)
theorem ds_notIn {Q : Value → Shared → Prop} (hu : A.units + 64 < cLine) (I : Inv X pins σ H s) (h : H a = some (dSt X.prog X.w a raw)) (hk : KeysAt X.K H raw) (rb : Rep X.K H (.ref b) (dSv st)) (q : ∀ s', Inv X pins σ H s' → Q (.bool (!(lkR raw st).isSome)) s') :
    wpAny (model X.prog X.w) A (compareOp .NotIn (.ref b) (.ref a)) Q E s := by
  obtain ⟨z, hd, xs, r, dd⟩ := ds_of I h hk
  refine notIn_keyed (kvs := pairsH xs) (room8 (X := X) hu) (key_sv I rb) hd ⟨xs, dd, rfl⟩ ?_
  have e : (valueAt (pairsH xs) (skey st)).isSome = (lkR raw st).isSome := by
    rw [valueAt_pairsH, Option.isSome_map]
    rcases r.look st with ⟨a1, a2⟩ | ⟨b', v', u', a1, a2, rv⟩ <;> rw [a1, a2] <;> rfl
  rw [e]
  exact q _ (I.tok _)
theorem ds_put {Q : Unit → Shared → Prop} {v : V} {u : Value} (hu : A.units + 64 < cLine) (I : Inv X pins σ H s) (h : H a = some (dSt X.prog X.w a raw)) (hk : KeysAt X.K H raw) (rb : Rep X.K H (.ref b) (dSv st)) (rv : RelV v u) (hz : raw.length < sizeLine)
    (q : ∀ s', Inv X pins σ (upd H a (dSt X.prog X.w a (putR raw st b v))) s' → Q () s') : wpAny (model X.prog X.w) A (setItem (.ref a) (.ref b) u) Q E s := by
  obtain ⟨z, hd, xs, r, dd⟩ := ds_of I h hk
  refine wpAny_setItem_heap (hsz := by rw [← Paired.length r]; exact z) (room8 (X := X) hu) (key_sv I rb) dd fun h' dd' hs => q _ ?_
  have he : ∃ o, h'.get? a = some o := let ⟨o, _, _, g, _⟩ := dd'; ⟨o, g⟩
  exact d_write I (by rw [h]; exact True.intro) hs he (ds_ok (by have := putR_len raw st b v; omega) hd (r.put st b rv) dd')
theorem ds_dset {Q : Unit → Shared → Prop} {v : V} {u : Value} (hu : A.units + 64 < cLine) (I : Inv X pins σ H s) (h : H a = some (dSt X.prog X.w a raw)) (hk : KeysAt X.K H raw) (rb : Rep X.K H (.ref b) (dSv st)) (rv : RelV v u) (hz : raw.length < sizeLine)
    (q : ∀ s', Inv X pins σ (upd H a (dSt X.prog X.w a (putR raw st b v))) s' → Q () s') : wpAny (model X.prog X.w) A (dictSet a (.ref b) u) Q E s := by
  obtain ⟨z, hd, xs, r, dd⟩ := ds_of I h hk
  refine wpAny_dictSet_heap (hsz := by rw [← Paired.length r]; exact z) (show A.units + 8 < cLine by omega) (key_sv I rb) dd fun h' dd' hs => q _ ?_
  have he : ∃ o, h'.get? a = some o := let ⟨o, _, _, g, _⟩ := dd'; ⟨o, g⟩
  exact d_write I (by rw [h]; exact True.intro) hs he (ds_ok (by have := putR_len raw st b v; omega) hd (r.put st b rv) dd')
theorem ds_getD {Q : Value → Shared → Prop} {d : V} {u : Value} (hu : A.units + 64 < cLine) (I : Inv X pins σ H s) (h : H a = some (dSt X.prog X.w a raw)) (hk : KeysAt X.K H raw) (rb : Rep X.K H (.ref b) (dSv st)) (rd : RelV d u)
    (q : ∀ w' s', Inv X pins σ H s' → RelV (((lkR raw st).map (·.2)).getD d) w' → Q w' s') : wpAny (model X.prog X.w) A (call (.builtin "dict.get") [.ref a, .ref b, u]) Q E s := by
  obtain ⟨z, hd, xs, r, dd⟩ := ds_of I h hk
  refine call_meetsIn PySem.F.slot_dict_get dd.typeIs PySem.F.entry_dict_get (PySem.F.args_dict_get_3 _ _ _) (meetsH_dict_get_default (nestedKind X.prog X.w) a b hd u) ⟨room8 (X := X) hu, skey st, xs, key_sv I rb, dd, q _ _ (I.tok _) ?_⟩
  rcases r.look st with ⟨a1, a2⟩ | ⟨b', v', u', a1, a2, rv⟩
  · rw [a1, a2]; exact rd
  · rw [a1, a2]; exact rv
theorem ds_len {Q : Value → Shared → Prop} (I : Inv X pins σ H s) (h : H a = some (dSt X.prog X.w a raw)) (hk : KeysAt X.K H raw) (q : ∀ t s', Inv X pins σ H s' → Q (.int raw.length t) s') : wpAny (model X.prog X.w) A (call (.builtin "len") [.ref a]) Q E s := by
  obtain ⟨z, hd, xs, r, dd⟩ := ds_of I h hk
  have e : (pairsH xs).length = raw.length := by rw [pairsH_length, ← Paired.length r]
  have z2 : raw.length ≤ 16777216 := by rw [← sizeLine_eq]; exact z
  refine PyProof.Rows.call_len_slot (n := raw.length) dd.typeIs PySem.F.slot_dict_len (fun Q' hq => len_keyed hd ⟨xs, dd, rfl⟩ (by rw [e]; exact hq)) (by omega) (by omega) (q _ _ (I.tok _))
theorem ds_new {P : Program} {w : World} {H' : Hp} (h : Heap) (hb : sysModules < h.objs.size) : ObjOk P w H' (h.push { cls := .type "dict", data := .dict #[] }) h.objs.size (dSt P w h.objs.size []) :=
  ds_ok (xs := []) (Nat.zero_le _) (beq_eq_false_iff_ne.mpr (Ne.symm (Nat.ne_of_lt hb))) .nil ⟨_, #[], 0, Heap.get?_push_size _ rfl, ⟨rfl, rfl, rfl⟩, rfl, rfl, fun x hx => (by cases hx), List.nodup_nil⟩
end
end DL

namespace DL
open PySem L2

/-- {k: v for tg in iter if ..}, the keys states -/
def tDs (P : Program) (w : World) (K : PySem.W.Frag) (wi : TI) (g : TG) (tt : TT) (tk tv : TE) (vs : List Nat) : TE := fun σ H Q => wi σ H fun J H1 => ∀ Da, H1 Da = none →
  ∃ W : Nat → Nat → Hp → Prop, (∃ m, W 0 m (upd H1 Da (dSt P w Da []))) ∧ ∀ i m H, W i m H →
    (J.stop i H ∧ Q (.ref Da) H) ∨ (J.go i H ∧ ∃ Nx : Hp → Prop, (∀ H', Nx H' → ∃ m', m' < m ∧ W (i + 1) m' H') ∧ ∀ x H', J.yld i H x H' → g x (wipe σ vs) H' fun σ2 H2 => wipe σ2 vs = wipe σ vs ∧ tt σ2 H2 fun b H3 =>
      if b = true then tk σ2 H3 fun y H4 => tv σ2 H4 fun z H5 => ∃ raw st bb, y = .ref bb ∧ H5 Da = some (dSt P w Da raw) ∧ KeysAt K H5 raw ∧ Rep K H5 (.ref bb) (dSv st) ∧ raw.length < sizeLine ∧ Nx (upd H5 Da (dSt P w Da (putR raw st bb z)))
      else Nx H3)
section
variable {X : Cx}
theorem ds_core {pins : List (Addr × Obj)} {s : Shared} {σ : St} {H : Hp} {Q : VK} {kx vx tg iter : Expr} {ifs : List Expr} {scope : Scope} {own : List (Str × Nat)} {pos pos' : Pos} {wi : TI} {g : TG} {tt : TT} {tk tv : TE} {use : Option (Value → Sem Unit)} {Qf : Value → Shared → Prop}
    (hu : X.A.units + 64 < cLine) (hc : X.calm = true) (hN : X.N.Nodup) (I : Inv X pins σ H s) (hi : PI X tg iter wi) (ok : BlkOk X.N X.env.scope scope own)
    (hg : ∀ s H C cl fp, PG (X.blk s H scope (compEnvC scope cl C X.env) fp) tg g) (ht : ∀ s H C cl fp, PTs (X.blk s H scope (compEnvC scope cl C X.env) fp) ifs tt)
    (hk : ∀ s H C cl fp, PE (X.blk s H scope (compEnvC scope cl C X.env) fp) kx tk) (he : ∀ s H C cl fp, PE (X.blk s H scope (compEnvC scope cl C X.env) fp) vx tv) (hs : ∀ x, foldedSetIterable iter X.env x = pure x)
    (h : tDs X.prog X.w X.K wi g tt tk tv (own.map (·.2)) σ H Q)
    (fin : ∀ Da C s' m H', Inv X pins σ H' s' → Q (.ref Da) H' → s'.heap.Ns C m → FpOk X pins H' C → compPost (model X.prog X.w) X.A X.xe use Qf (.ref Da) C (.ok .next) s') :
    wpAny (model X.prog X.w) X.A (comprehension (.DictComp kx vx [⟨tg, iter, ifs, 0⟩] scope pos) scope X.env pos' newDict false (eval iter X.env) use) Qf X.xe s := by
  have clo : ∀ y ∈ scope.names, y.2 = .free → ∃ c, X.env.cells.lookup y.1 = some c := fun y hy e => (ok.free y hy e).elim (fun z => I.ok.has _ (.inl z)) (fun z => I.ok.has _ (.inr z))
  refine wpAny_comprehension_free (use := use) rfl hs (closure_ok clo) ok.kind (fun y hy e => by rw [ok.uniq y hy, e]) (thn (hi.run pins s σ H _ I h) fun xv s1 hx => thn hx fun itv s2 h2 => ?_)
  obtain ⟨it, fp, tn, J, H2, rfl, I2, T, st2, f2, q⟩ := h2
  refine wpAny_newObj_type (newEnv_comp ?_)
  -- the new dict
  obtain ⟨Da, eD⟩ : ∃ Da, Da = s2.heap.objs.size := ⟨_, rfl⟩
  rw [← eD]
  have nD : H2 Da = none := I2.hok.fresh (Nat.le_of_eq eD.symm)
  obtain ⟨W, ⟨m0, w0⟩, turn⟩ := q Da nD
  obtain ⟨s3, es3⟩ : ∃ s3 : Shared, s3 = { s2 with heap := s2.heap.push { cls := .type "dict", data := .dict #[] } } := ⟨_, rfl⟩
  obtain ⟨H3, eH3⟩ : ∃ H3, H3 = upd H2 Da (dSt X.prog X.w Da []) := ⟨_, rfl⟩
  have hp3 : s3.heap = s2.heap.push { cls := .type "dict", data := .dict #[] } := by rw [es3]
  have I3 : Inv X pins σ H3 s3 := by
    rw [es3, eH3]
    refine I2.laid (t' := s2.toks) (fun b o e => Heap.get?_push_of_some _ e) (Nat.le_of_eq eD.symm) ?_
    rw [eD]
    exact ds_new s2.heap I2.big
  have old : ∀ b ∈ fp, b < s2.heap.objs.size := fun b hb => let ⟨o, e, _⟩ := T.obj _ _ st2 b hb; Heap.lt_size e
  have f3 : ∀ b ∈ fp, FpOk X pins H3 b ∧ b < s3.heap.objs.size := fun b hb => by
    have lt := old b hb
    refine ⟨⟨?_, (f2 b hb).2⟩, ?_⟩
    · rw [eH3, upd_ne (by rw [eD]; exact Nat.ne_of_lt lt)]; exact (f2 b hb).1
    · rw [hp3, Heap.size_push]; exact Nat.lt_succ_of_lt lt
  have st3 : tn 0 s3.heap := T.keep _ _ _ st2 fun b _ o e => by rw [hp3]; exact Heap.get?_push_of_some _ e
  rw [← eH3] at w0
  rw [← es3]
  -- the block
  have I4 := block_start I3 ok hN f3
  obtain ⟨ce, ece⟩ : ∃ ce, ce = compEnvC scope (cellsFrom (s3.heap.objs.size + 1) scope.names (cloFrom X.env.cells scope.names [])) s3.heap.objs.size X.env := ⟨_, rfl⟩
  have cL : ce.locals = s3.heap.objs.size := by rw [ece]; rfl
  have pg : PG (X.blk s3 H3 scope ce fp) tg g := by rw [ece]; exact hg ..
  have pt : PTs (X.blk s3 H3 scope ce fp) ifs tt := by rw [ece]; exact ht ..
  have pk : PE (X.blk s3 H3 scope ce fp) kx tk := by rw [ece]; exact hk ..
  have pv : PE (X.blk s3 H3 scope ce fp) vx tv := by rw [ece]; exact he ..
  rw [← ece] at I4
  obtain ⟨s4, es4⟩ : ∃ s4 : Shared, s4 = { s3 with heap := pushCells (s3.heap.push { cls := .type "dict", data := .dict #[] }) scope.names } := ⟨_, rfl⟩
  rw [← es4] at I4
  have st4 : tn 0 s4.heap := T.keep _ _ _ st3 fun b _ o e => by rw [es4]; exact pushCells_keeps _ _ _ _ (Heap.get?_push_of_some _ e)
  have fpB : ∀ {τ : St} {H' : Hp} {s' : Shared}, Inv (X.blk s3 H3 scope ce fp) [] τ H' s' → (∀ b ∈ fp, H' b = none) → ∀ b ∈ fp, FpOk (X.blk s3 H3 scope ce fp) [] H' b := fun {τ H' s'} J' hn b hb =>
    ⟨hn b hb, (J'.ok.exf b hb).1, J'.ok.exfs b hb, .inl hb, fun x c e => (J'.ok.exf b hb).2 x c e, fun p hp => absurd (show p ∈ ([] : List (Addr × Obj)) ++ [] from hp) (by simp)⟩
  have loop : codeAny (model X.prog X.w) X.A (.compLoop (.DictComp kx vx [⟨tg, iter, ifs, 0⟩] scope pos) 0 (.ref it) (.ref Da) ce) (compPost (model X.prog X.w) X.A X.xe use Qf (.ref Da) s3.heap.objs.size) s4 := by
    refine compLoop_anyD (fun n s' => ∃ i H', Inv (X.blk s3 H3 scope ce fp) [] (wipe σ (own.map (·.2))) H' s' ∧ tn i s'.heap ∧ (∀ b ∈ fp, H' b = none) ∧ W i n H') (fun n s5 ⟨i, H5, I5, st5, n5, w5⟩ => ?_) m0 ⟨0, H3, I4, st4, fun b hb => (f3 b hb).1.1, w0⟩
    rcases turn i n H5 w5 with ⟨stop, qq⟩ | ⟨go, Nx, hNx, step⟩
    · -- through
      refine thnF (T.done (X.blk s3 H3 scope ce fp) rfl rfl rfl hc i [] s5 _ H5 (fun _ _ => False) I5 (fpB I5 n5) st5 stop) fun r s6 ⟨hr, I6⟩ => ?_
      subst hr
      have I7 : Inv X pins σ H5 s6 := I3.call' (ch := fp) I6.os I6.base I6.hok I6.bare fun b hb => let z := (f3 b hb).1; ⟨z.2.2.2.1, z.2.1, z.2.2.2.2.1, z.2.2.2.2.2⟩
      have nC : H5 s3.heap.objs.size = none := by rw [← cL]; exact I6.free
      obtain ⟨m, hn, _⟩ := I6.loc
      have hn2 : s6.heap.Ns s3.heap.objs.size m := by rw [← cL]; exact hn
      exact fin Da s3.heap.objs.size s6 m H5 I7 qq hn2 (I3.fpOk (Nat.le_refl _) nC)
    · -- a turn
      refine thnF (T.item (X.blk s3 H3 scope ce fp) rfl rfl rfl hc i [] s5 _ H5 (fun _ _ => False) I5 (fpB I5 n5) st5 go) fun r s6 ⟨u, hr, h6⟩ => ?_
      subst hr
      refine thnF h6 fun _ s7 ⟨x, H7, I7, r7, y7, st7, n7⟩ => ?_
      have I7p := I7.pinned (fpB I7 n7) (T.obj _ _ st7)
      refine thnF (pg.run _ s7 _ H7 x u _ I7p r7 (step x H7 y7)) fun _ s8 ⟨σ8, H8, I8, hw8, q8⟩ => ?_
      refine thnF (pt.run _ s8 σ8 H8 _ I8 q8) fun b s9 ⟨H9, I9, q9⟩ => ?_
      have back : ∀ {s' : Shared} {H' : Hp}, Inv (X.blk s3 H3 scope ce fp) ([] ++ pinsAt fp s7.heap) σ8 H' s' → Nx H' → ∃ m, m < n ∧ ∃ i H', Inv (X.blk s3 H3 scope ce fp) [] (wipe σ (own.map (·.2))) H' s' ∧ tn i s'.heap ∧ (∀ b ∈ fp, H' b = none) ∧ W i m H' := fun {s' H'} Ie nx => by
        obtain ⟨m', hm, w'⟩ := hNx H' nx
        have pn : ∀ b ∈ fp, ∀ o, s7.heap.get? b = some o → s'.heap.get? b = some o ∧ H' b = none := fun b hb o e => let z := Ie.pin (b, o) (List.mem_append_right _ (List.mem_append_right _ (mem_pinsAt hb e))); ⟨z.1, z.2.1⟩
        have el : (wipe σ (own.map (·.2))).length = σ8.length := by rw [← hw8, wipe_length]
        have ek : ∀ (j : Nat) v, (wipe σ (own.map (·.2)))[j]? = some (some v) → σ8[j]? = some (some v) := fun j v e => by rw [← hw8] at e; exact (wipe_some e).1
        refine ⟨m', hm, i + 1, H', (Ie.unpinned (pins := [])).weak el ek, T.keep _ _ _ st7 fun b hb o e => (pn b hb o e).1, fun b hb => ?_, w'⟩
        obtain ⟨o, e, _⟩ := T.obj _ _ st7 b hb
        exact (pn b hb o e).2
      cases b with
      | false => exact back I9 (by simpa only [Bool.false_eq_true, if_false] using q9)
      | true =>
        have q9' := by simpa only [if_true] using q9
        refine thnF (pk.run _ s9 σ8 H9 _ I9 q9') fun kv s10 ⟨yk, H10, I10, r10, q10⟩ => ?_
        refine thnF (pv.run _ s10 σ8 H10 _ I10 q10) fun vv s11 ⟨yv, H11, I11, r11, raw, st, bb, ek, hD, hkeys, hb, hz, nx⟩ => ?_
        subst ek
        cases r10
        exact ds_dset (X := X.blk s3 H3 scope ce fp) hu I11 hD hkeys hb r11 hz fun s12 I12 => back I12 nx
  show codeAny _ _ (.compStart (.DictComp kx vx [⟨tg, iter, ifs, 0⟩] scope pos) 0 (.ref it) (.ref Da) (compEnvC scope (cellsFrom (s3.heap.objs.size + 1) scope.names (cloFrom X.env.cells scope.names [])) s3.heap.objs.size X.env)) (compPost (model X.prog X.w) X.A X.xe use Qf (.ref Da) s3.heap.objs.size) { s3 with heap := pushCells (s3.heap.push { cls := .type "dict", data := .dict #[] }) scope.names }
  rw [← ece, ← es4]
  exact codeAny_compStart_dict loop (T.self X.A 0 _ _ _ st4 loop)
end
end DL

namespace DL
open PySem L2

section
variable {α β : Type}
def lkD (kvs : List (Sv × α)) (s : Sv) : Option α := (kvs.find? fun p => decide (p.1 = s)).map (·.2)
def putS (kvs : List (Sv × α)) (s : Sv) (v : α) : List (Sv × α) := if (lkD kvs s).isSome then kvs.map (fun p => if p.1 = s then (p.1, v) else p) else kvs ++ [(s, v)]
theorem lkD_nil {s : Sv} : lkD ([] : List (Sv × α)) s = none := rfl
theorem lkD_pos {p : Sv × α} {r : List (Sv × α)} {s : Sv} (e : p.1 = s) : lkD (p :: r) s = some p.2 := by simp [lkD, List.find?_cons, e]
theorem lkD_neg {p : Sv × α} {r : List (Sv × α)} {s : Sv} (e : ¬ p.1 = s) : lkD (p :: r) s = lkD r s := by simp [lkD, List.find?_cons, e]
theorem lkD_map (s t : Sv) (v : α) : ∀ kvs : List (Sv × α), lkD (kvs.map fun p => if p.1 = s then (p.1, v) else p) t = (lkD kvs t).map fun x => if t = s then v else x
  | [] => rfl
  | p :: r => by
    have ih := lkD_map s t v r
    rw [List.map_cons]
    by_cases h : p.1 = s
    · rw [if_pos h]
      by_cases e : p.1 = t
      · rw [lkD_pos (p := (p.1, v)) e, lkD_pos e, Option.map_some, if_pos (e.symm.trans h)]
      · rw [lkD_neg (p := (p.1, v)) e, lkD_neg e, ih]
    · rw [if_neg h]
      by_cases e : p.1 = t
      · rw [lkD_pos e, lkD_pos e, Option.map_some, if_neg (fun z => h (e.trans z))]
      · rw [lkD_neg e, lkD_neg e, ih]
theorem lkD_snoc (s t : Sv) (v : α) : ∀ kvs : List (Sv × α), lkD kvs s = none → lkD (kvs ++ [(s, v)]) t = if t = s then some v else lkD kvs t
  | [], _ => by
    by_cases e : s = t
    · rw [if_pos e.symm]; exact lkD_pos (p := (s, v)) e
    · rw [if_neg (fun z => e z.symm)]; exact lkD_neg (p := (s, v)) e
  | p :: r, hn => by
    rw [List.cons_append]
    have hk : ¬ p.1 = s := fun z => by rw [lkD_pos z] at hn; cases hn
    rw [lkD_neg hk] at hn
    have ih := lkD_snoc s t v r hn
    by_cases e : p.1 = t
    · rw [lkD_pos e, lkD_pos e, if_neg (fun z => hk (e.trans z))]
    · rw [lkD_neg e, lkD_neg e, ih]
theorem lkD_put (kvs : List (Sv × α)) (s t : Sv) (v : α) : lkD (putS kvs s v) t = if t = s then some v else lkD kvs t := by
  unfold putS
  cases q : lkD kvs s with
  | none =>
    simp only [Option.isSome_none, Bool.false_eq_true, if_false]
    exact lkD_snoc s t v kvs q
  | some x =>
    simp only [Option.isSome_some, if_true]
    rw [lkD_map]
    by_cases e : t = s
    · rw [if_pos e, e, q, Option.map_some, if_pos rfl]
    · rw [if_neg e]
      cases lkD kvs t with
      | none => rfl
      | some y => rw [Option.map_some, if_neg e]
theorem putS_len (kvs : List (Sv × α)) (s : Sv) (v : α) : (putS kvs s v).length ≤ kvs.length + 1 := by
  unfold putS
  split
  · rw [List.length_map]; omega
  · rw [List.length_append, List.length_singleton]; exact Nat.le_refl _
theorem putS_new {kvs : List (Sv × α)} {s : Sv} (v : α) (h : lkD kvs s = none) : putS kvs s v = kvs ++ [(s, v)] := by
  unfold putS
  rw [h]
  exact if_neg (by simp)
theorem putS_keys {kvs : List (Sv × α)} {s : Sv} (v : α) {x : α} (h : lkD kvs s = some x) : (putS kvs s v).map (·.1) = kvs.map (·.1) := by
  unfold putS
  rw [h, if_pos (show (some x).isSome = true from rfl), List.map_map]
  refine List.map_congr_left fun p _ => ?_
  show (if p.1 = s then (p.1, v) else p).1 = p.1
  split <;> rfl
theorem lkD_mem {kvs : List (Sv × α)} {s : Sv} {v : α} (h : lkD kvs s = some v) : (s, v) ∈ kvs := by
  induction kvs with
  | nil => cases h
  | cons p r ih =>
    by_cases e : p.1 = s
    · rw [lkD_pos e] at h
      cases h
      rw [← e]
      exact List.mem_cons_self
    · rw [lkD_neg e] at h
      exact List.mem_cons_of_mem _ (ih h)
theorem lkD_none {kvs : List (Sv × α)} {s : Sv} : lkD kvs s = none ↔ s ∉ kvs.map (·.1) := by
  induction kvs with
  | nil => simp [lkD]
  | cons p r ih =>
    by_cases e : p.1 = s
    · rw [lkD_pos e]
      simp [e]
    · rw [lkD_neg e, ih, List.map_cons, List.mem_cons]
      exact ⟨fun h z => z.elim (fun z => e z.symm) h, fun h z => h (.inr z)⟩
end
/-- the values of a table are the data -/
abbrev DvRel (K : PySem.W.Frag) (Hb : Hp) : List (Sv × Addr × V) → List (Sv × D) → Prop := Paired fun p q => p.1 = q.1 ∧ Rep K Hb p.2.2 q.2
section
variable {K : PySem.W.Frag} {Hb Hb' : Hp} {raw : List (Sv × Addr × V)} {kvs : List (Sv × D)}
theorem DvRel.mono (r : DvRel K Hb raw kvs) (e : Ex Hb Hb') : DvRel K Hb' raw kvs := Paired.mapP r fun _ _ z => ⟨z.1, Rep.mono e z.2⟩
theorem DvRel.look (r : DvRel K Hb raw kvs) (s : Sv) : (lkR raw s = none ∧ lkD kvs s = none) ∨ ∃ b v d, lkR raw s = some (b, v) ∧ lkD kvs s = some d ∧ Rep K Hb v d := by
  induction r with
  | nil => exact .inl ⟨rfl, rfl⟩
  | @cons p q ps qs h t ih =>
    obtain ⟨h1, h2⟩ := h
    by_cases e : p.1 = s
    · exact .inr ⟨p.2.1, p.2.2, q.2, by simp [lkR, List.find?_cons, e], lkD_pos (h1.symm.trans e), h2⟩
    · have a1 : lkR (p :: ps) s = lkR ps s := by simp [lkR, List.find?_cons, e]
      rw [a1, lkD_neg (fun z => e (h1.trans z))]
      exact ih
theorem DvRel.some (r : DvRel K Hb raw kvs) (s : Sv) : (lkR raw s).isSome = (lkD kvs s).isSome := by
  rcases r.look s with ⟨a, b⟩ | ⟨_, _, _, a, b, _⟩ <;> rw [a, b] <;> rfl
theorem DvRel.repl (r : DvRel K Hb raw kvs) (s : Sv) {v : V} {d : D} (q : Rep K Hb v d) : DvRel K Hb (raw.map fun p => if p.1 = s then (p.1, p.2.1, v) else p) (kvs.map fun p => if p.1 = s then (p.1, d) else p) := by
  induction r with
  | nil => exact .nil
  | @cons p z ps qs h t ih =>
    rw [List.map_cons, List.map_cons]
    refine .cons ?_ ih
    obtain ⟨h1, h2⟩ := h
    by_cases e : p.1 = s
    · rw [if_pos e, if_pos (h1.symm.trans e)]; exact ⟨h1, q⟩
    · rw [if_neg e, if_neg (fun y => e (h1.trans y))]; exact ⟨h1, h2⟩
theorem DvRel.put (r : DvRel K Hb raw kvs) (s : Sv) (b : Addr) {v : V} {d : D} (q : Rep K Hb v d) : DvRel K Hb (putR raw s b v) (putS kvs s d) := by
  unfold putR putS
  rw [r.some s]
  split
  · exact r.repl s q
  · exact Paired.snoc r ⟨rfl, q⟩
end
/-- a dict of states that may change, its values data -/
def mDict (P : Program) (w : World) (K : PySem.W.Frag) (kvs : List (Sv × D)) : Mu where
  ok := fun Hb H x fp => ∃ a raw, x = .ref a ∧ fp = [a] ∧ H a = some (dSt P w a raw) ∧ KeysAt K Hb raw ∧ DvRel K Hb raw kvs
  frame := fun ⟨a, raw, e, f, h, r, v⟩ e1 k => ⟨a, raw, e, f, (k a (by rw [f]; exact List.mem_cons_self)).trans h, r.mono e1, v.mono e1⟩
  has := fun ⟨a, raw, e, f, h, _⟩ b hb => by
    rw [f] at hb
    rw [List.mem_singleton.mp hb]
    exact ⟨_, h⟩
/-- a dict of states, its values lists that may change, each for itself -/
inductive DlRel (K : PySem.W.Frag) (Hb H : Hp) : List (Sv × Addr × V) → List Addr → List (Sv × List D) → Prop
  | nil : DlRel K Hb H [] [] []
  | cons {s : Sv} {b l : Addr} {xs : List V} {ds : List D} {raw : List (Sv × Addr × V)} {ls : List Addr} {kvs : List (Sv × List D)} : H l = some (.lst xs) → Reps K Hb xs ds → DlRel K Hb H raw ls kvs → DlRel K Hb H ((s, b, .ref l) :: raw) (l :: ls) ((s, ds) :: kvs)
section
variable {K : PySem.W.Frag} {Hb H Hb' H' : Hp}
theorem DlRel.frame : ∀ {raw : List (Sv × Addr × V)} {ls : List Addr} {kvs : List (Sv × List D)}, DlRel K Hb H raw ls kvs → Ex Hb Hb' → (∀ a ∈ ls, H' a = H a) → DlRel K Hb' H' raw ls kvs
  | _, _, _, .nil, _, _ => .nil
  | _, _, _, .cons h r t, e, k => .cons ((k _ List.mem_cons_self).trans h) (r.mono e) (DlRel.frame t e fun a ha => k a (List.mem_cons_of_mem _ ha))
theorem DlRel.has : ∀ {raw : List (Sv × Addr × V)} {ls : List Addr} {kvs : List (Sv × List D)}, DlRel K Hb H raw ls kvs → ∀ a ∈ ls, ∃ o, H a = some o
  | _, _, _, .nil, a, h => by cases h
  | _, _, _, .cons h _ t, a, ha => by
    rcases List.mem_cons.mp ha with e | ha
    · rw [e]; exact ⟨_, h⟩
    · exact DlRel.has t a ha
theorem DlRel.look : ∀ {raw : List (Sv × Addr × V)} {ls : List Addr} {kvs : List (Sv × List D)}, DlRel K Hb H raw ls kvs → ∀ s, (lkR raw s = none ∧ lkD kvs s = none) ∨ ∃ b l xs ds, lkR raw s = some (b, .ref l) ∧ lkD kvs s = some ds ∧ l ∈ ls ∧ H l = some (.lst xs) ∧ Reps K Hb xs ds
  | _, _, _, .nil, s => .inl ⟨rfl, rfl⟩
  | _, _, _, .cons (s := s0) (b := b) (l := l) (xs := xs) (ds := ds) (raw := ps) h r t, s => by
    by_cases e : s0 = s
    · exact .inr ⟨b, l, xs, ds, by simp [lkR, List.find?_cons, e], lkD_pos e, List.mem_cons_self, h, r⟩
    · have a1 : lkR ((s0, b, V.ref l) :: ps) s = lkR ps s := by simp [lkR, List.find?_cons, e]
      rw [a1, lkD_neg (p := (s0, ds)) e]
      rcases DlRel.look t s with z | ⟨b', l', xs', ds', z1, z2, z3, z4, z5⟩
      · exact .inl z
      · exact .inr ⟨b', l', xs', ds', z1, z2, List.mem_cons_of_mem _ z3, z4, z5⟩
end
def mDl (P : Program) (w : World) (K : PySem.W.Frag) (kvs : List (Sv × List D)) : Mu where
  ok := fun Hb H x fp => ∃ a raw ls, x = .ref a ∧ fp = a :: ls ∧ H a = some (dSt P w a raw) ∧ KeysAt K Hb raw ∧ DlRel K Hb H raw ls kvs
  frame := fun ⟨a, raw, ls, e, f, h, r, v⟩ e1 k => ⟨a, raw, ls, e, f, (k a (by rw [f]; exact List.mem_cons_self)).trans h, r.mono e1, v.frame e1 fun b hb => k b (by rw [f]; exact List.mem_cons_of_mem _ hb)⟩
  has := fun ⟨a, raw, ls, e, f, h, _, v⟩ b hb => by
    rw [f] at hb
    rcases List.mem_cons.mp hb with z | z
    · rw [z]; exact ⟨_, h⟩
    · exact v.has b z

def rSIn (P : Program) (w : World) (K : PySem.W.Frag) (neg : Bool) : R2 := fun x y H Q => ∃ a raw st b, y = .ref a ∧ x = .ref b ∧ H a = some (dSt P w a raw) ∧ KeysAt K H raw ∧ Rep K H (.ref b) (dSv st) ∧ Q (.bl (if neg then !(lkR raw st).isSome else (lkR raw st).isSome)) H
def tSGet (P : Program) (w : World) (K : PySem.W.Frag) (td ty : TE) : TE := fun σ H Q => td σ H fun x H1 => ty σ H1 fun y H2 => ∃ a raw st b bb v, x = .ref a ∧ y = .ref b ∧ H2 a = some (dSt P w a raw) ∧ KeysAt K H2 raw ∧ Rep K H2 (.ref b) (dSv st) ∧ lkR raw st = some (bb, v) ∧ Q v H2
def rSGet (P : Program) (w : World) (K : PySem.W.Frag) : V → V → Hp → VK → Prop := fun x y H Q => ∃ a raw st b bb v, x = .ref a ∧ y = .ref b ∧ H a = some (dSt P w a raw) ∧ KeysAt K H raw ∧ Rep K H (.ref b) (dSv st) ∧ lkR raw st = some (bb, v) ∧ Q v H
def rSPut (P : Program) (w : World) (K : PySem.W.Frag) : TSet := fun o i v H Q => ∃ a raw st b, o = .ref a ∧ i = .ref b ∧ H a = some (dSt P w a raw) ∧ KeysAt K H raw ∧ Rep K H (.ref b) (dSv st) ∧ raw.length < sizeLine ∧ Q (upd H a (dSt P w a (putR raw st b v)))
def rSLen (P : Program) (w : World) (K : PySem.W.Frag) : List V → Hp → VK → Prop := fun vs H Q => ∃ a raw, vs = [.ref a] ∧ H a = some (dSt P w a raw) ∧ KeysAt K H raw ∧ Q (.int raw.length) H
def tSGetD (P : Program) (w : World) (K : PySem.W.Frag) (td ty tx : TE) : TE := fun σ H Q => td σ H fun x H1 => ∃ a raw0, x = .ref a ∧ H1 a = some (dSt P w a raw0) ∧ KeysAt K H1 raw0 ∧ ty σ H1 fun y H2 => tx σ H2 fun z H3 => ∃ raw st b, y = .ref b ∧ H3 a = some (dSt P w a raw) ∧ KeysAt K H3 raw ∧ Rep K H3 (.ref b) (dSv st) ∧ Q (((lkR raw st).map (·.2)).getD z) H3
def tSNew (P : Program) (w : World) : TE := fun _ H Q => ∀ p, H p = none → Q (.ref p) (upd H p (dSt P w p []))
section
variable {X : Cx} {a b e o i f : Expr} {pos apos cpos : Pos} {td ty tx : TE}
theorem op_sin (hu : X.A.units + 64 < cLine) : OpR X (compareOp .In) (rSIn X.prog X.w X.K false) := by
  intro pins s σ H x y v u Q I rx ry ⟨a, raw, st, b, e1, e2, h, hk, hb, q⟩
  subst e1 e2
  cases rx
  cases ry
  exact ds_in hu I h hk hb fun s' I' => ⟨.bl (lkR raw st).isSome, H, I', rfl, q⟩
theorem op_sni (hu : X.A.units + 64 < cLine) : OpR X (compareOp .NotIn) (rSIn X.prog X.w X.K true) := by
  intro pins s σ H x y v u Q I rx ry ⟨a, raw, st, b, e1, e2, h, hk, hb, q⟩
  subst e1 e2
  cases rx
  cases ry
  exact ds_notIn hu I h hk hb fun s' I' => ⟨.bl (!(lkR raw st).isSome), H, I', rfl, q⟩
theorem pe_sget (hu : X.A.units + 64 < cLine) (ho : PE X o td) (hi : PE X i ty) (hs : NoSl i) : PE X (.Subscript o i pos) (tSGet X.prog X.w X.K td ty) := by
  refine ⟨fun pins s σ H Q I h => subD_of PySem.F.slot_dict_getitem.lookup hs (thn (ho.run pins s σ H _ I h) fun u s1 ⟨x, H1, I1, rx, q1⟩ => thn (hi.run pins s1 σ H1 _ I1 q1) fun iv s2 ⟨y, H2, I2, ry, a, raw, st, b, bb, v, e1, e2, hd, hk, hb, l, q2⟩ => ?_)⟩
  subst e1 e2
  cases rx
  cases ry
  obtain ⟨_, _, xs, _, dd⟩ := ds_of I2 hd hk
  exact ⟨dd.typeIs, ds_get hu I2 hd hk hb l fun w' s3 I3 rw' => ⟨v, H2, I3, rw', q2⟩⟩
theorem pget_s (hu : X.A.units + 64 < cLine) : PGet X (rSGet X.prog X.w X.K) := by
  intro pins s σ H o i ov iv Q I r1 r2 ⟨a, raw, st, b, bb, v, e1, e2, hd, hk, hb, l, q⟩
  subst e1 e2
  cases r1
  cases r2
  exact ds_get hu I hd hk hb l fun w' s3 I3 rw' => ⟨v, H, I3, rw', q⟩
theorem pset_s (hu : X.A.units + 64 < cLine) : PSet X (rSPut X.prog X.w X.K) := by
  intro pins s σ H o i v ov iv u Q I r1 r2 rv ⟨a, raw, st, b, e1, e2, hd, hk, hb, hz, q⟩
  subst e1 e2
  cases r1
  cases r2
  exact ds_put hu I hd hk hb rv hz fun s' I' => ⟨_, I', q⟩
theorem call_slen : CallR X (.builtin "len") (rSLen X.prog X.w X.K) := by
  intro pins s σ H vs us Q I r ⟨a, raw, e1, hd, hk, q⟩
  subst e1
  cases r with
  | cons r rr =>
    cases rr
    cases r
    exact ds_len I hd hk fun t s' I' => ⟨.int raw.length, H, I', ⟨t, rfl⟩, q⟩
theorem pe_sgetD (hu : X.A.units + 64 < cLine) (ho : PE X o td) (he : PE X e ty) (hf : PE X f tx) (m : M2 X o "get" apos e f cpos) : PE X (.Call (.Attribute o "get" apos) [e, f] [] cpos) (tSGetD X.prog X.w X.K td ty tx) := by
  refine ⟨fun pins s σ H Q I h => wpAny_Call_method m.base m.few m.line PySem.F.plainAttrs_dict PySem.F.slot_dict_get PySem.F.type_dict_get (thn (ho.run pins s σ H _ I h) fun u s1 ⟨x, H1, I1, rx, a, raw0, e1, hd0, hk0, q1⟩ => ?_)⟩
  subst e1
  cases rx
  obtain ⟨_, _, xs, _, dd⟩ := ds_of I1 hd0 hk0
  refine ⟨dd.typeIs, fun b z => ?_, ?_⟩
  · cases z
    obtain ⟨ob, _, _, g, ex, _⟩ := dd
    exact ⟨ob, g, ex.2.1⟩
  · rw [m.trees]
    refine Calls.callWith_builtin rfl (Calls.evalArgs_plain (Calls.spliced_cons (thn (he.run pins s1 σ H1 _ I1 q1) fun iv s2 ⟨y, H2, I2, ry, q2⟩ => Calls.spliced_cons (thn (hf.run pins s2 σ H2 _ I2 q2) fun fv s3 ⟨z, H3, I3, rz, raw, st, b, e2, hd, hk, hb, q3⟩ => Calls.spliced_nil ?_))))
    subst e2
    cases ry
    exact ds_getD hu I3 hd hk hb rz fun w' s4 I4 rw' => ⟨_, H3, I4, rw', q3⟩
theorem pe_snew : PE X (.Dict [] [] pos) (tSNew X.prog X.w) := ⟨fun pins s σ H Q I h =>
  wpAny_Dict_empty ⟨.ref s.heap.objs.size, _, I.laid (a := s.heap.objs.size) (o := dSt X.prog X.w s.heap.objs.size []) (t' := s.toks) (fun _ _ q => Heap.get?_push_of_some _ q) (Nat.le_refl _) (ds_new s.heap I.big), rfl, h _ (I.hok.fresh (Nat.le_refl _))⟩⟩
end

section
variable {P : Program} {w : World} {K : PySem.W.Frag} {mg : Str → Option Value} {base : Heap} {N : List Str} {sc : List (Str × NameKind)} {k : Nat} {X : Cx} {G : List Sl} {Pw : Po}
variable {a b c e ie : Expr} {pos p p2 apos cpos tpos : Pos} {x : Str} {kvs : List (Sv × D)} {st : Sv} {d : D}
theorem rep_sv {H : Hp} {y : V} (r : Rep K H y (dSv st)) : ∃ b, y = .ref b := by
  cases r with
  | tup h r => exact ⟨_, rfl⟩
theorem Cxt.hu64 (C : Cxt P w K mg base N sc k X) : X.A.units + 64 < cLine := C.room.units
theorem xm_dnew (C : Cxt P w K mg base N sc k X) : XM X (.Dict [] [] pos) G (mDict P w K []) := by
  obtain ⟨rfl, rfl, rfl⟩ : X.prog = P ∧ X.w = w ∧ X.K = K := ⟨C.eP, C.ew, C.eK⟩
  exact upM pe_snew fun H0 Hb0 Hb H σ k Q q q0 hq => q _ _ _ (Grow.newm k.ex hq) ⟨[q0], ⟨q0, [], rfl, rfl, upd_same, fun p hp => (by cases hp), .nil⟩, by simp, fun b z => by rw [List.mem_singleton.mp z]; exact ⟨hq, free_b k.ex hq⟩⟩
/-- d[e], d a name -/
theorem xe_dget (C : Cxt P w K mg base N sc k X) (i : Nat) (hG : G[i]? = some (.mu (mDict P w K kvs))) (h : XE X e G (dSv st)) (l : lkD kvs st = some d) (hN : N[i]? = some x := by rfl) (hv : VisL sc x := by first | exact Or.inl rfl | exact Or.inr (Or.inl rfl) | exact Or.inr (Or.inr rfl))
    (hd : (x == ("__debug__" : Str)) = false := by decide) (hcd : (x == ("__classdict__" : Str)) = false := by decide) (hs : NoSl e := by intro _ _; rfl) : XE X (.Subscript (.Name x p) e pos) G d := by
  obtain ⟨rfl, rfl, rfl⟩ : X.prog = P ∧ X.w = w ∧ X.K = K := ⟨C.eP, C.ew, C.eK⟩
  refine upD (pe_sget C.hu64 (pe_var (by rw [C.eN]; exact hN) (C.vis hv) hd hcd) (pe_wp X e) hs) fun H0 Hb0 Hb H σ k Q q => ?_
  obtain ⟨y, fp, hy, ⟨q0, raw, e1, e2, h1, hk, hr⟩, _⟩ := k.mut hG
  subst e1
  refine ⟨_, hy, h H0 Hb0 Hb H σ k _ fun z Hb1 H1 g rz => ?_⟩
  obtain ⟨b, rfl⟩ := rep_sv rz
  rcases hr.look st with ⟨_, z2⟩ | ⟨bb, v, d', z1, z2, z3⟩
  · rw [z2] at l; cases l
  · rw [z2] at l
    cases l
    exact ⟨q0, raw, st, b, bb, v, rfl, rfl, g.h _ _ h1, (hk.mono g.b).mono g.s, rz.mono g.s, z1, q v Hb1 H1 g (z3.mono g.b)⟩
theorem evd_sin {neg : Bool} (i : Nat) (hG : G[i]? = some (.mu (mDict P w K kvs))) {ta : TE} (h : EvD K ta G (dSv st)) : EvD K (tOp (rSIn P w K neg) ta (tVar i)) G (dB (if neg then !(lkD kvs st).isSome else (lkD kvs st).isSome)) := fun H0 Hb0 Hb H σ k Q q => h H0 Hb0 Hb H σ k _ fun z Hb1 H1 g rz => by
  obtain ⟨b, rfl⟩ := rep_sv rz
  have k1 := k.up g
  obtain ⟨y, fp, hy, ⟨q0, raw, e1, e2, h1, hk, hr⟩, _⟩ := k1.mut hG
  subst e1
  refine ⟨_, hy, q0, raw, st, b, rfl, rfl, h1, hk.mono g.s, rz.mono g.s, ?_⟩
  rw [hr.some st]
  exact q _ Hb1 H1 g (.v _)
theorem xc_din (C : Cxt P w K mg base N sc k X) (i : Nat) (hG : G[i]? = some (.mu (mDict P w K kvs))) (h : XE X e G (dSv st)) (hN : N[i]? = some x := by rfl) (hv : VisL sc x := by first | exact Or.inl rfl | exact Or.inr (Or.inl rfl) | exact Or.inr (Or.inr rfl))
    (hd : (x == ("__debug__" : Str)) = false := by decide) (hcd : (x == ("__classdict__" : Str)) = false := by decide) : XC X .In e (.Name x p) G (lkD kvs st).isSome := by
  obtain ⟨rfl, rfl, rfl⟩ : X.prog = P ∧ X.w = w ∧ X.K = K := ⟨C.eP, C.ew, C.eK⟩
  exact upC ⟨fun pins s σ H Q I hw => bin (pe_wp X e) (pe_var (by rw [C.eN]; exact hN) (C.vis hv) hd hcd) I hw fun v u s2 x y H2 I2 rx ry q => op_sin C.hu64 pins s2 σ H2 x y v u Q I2 rx ry q⟩ (evd_sin (neg := false) i hG h)
theorem xc_dni (C : Cxt P w K mg base N sc k X) (i : Nat) (hG : G[i]? = some (.mu (mDict P w K kvs))) (h : XE X e G (dSv st)) (hN : N[i]? = some x := by rfl) (hv : VisL sc x := by first | exact Or.inl rfl | exact Or.inr (Or.inl rfl) | exact Or.inr (Or.inr rfl))
    (hd : (x == ("__debug__" : Str)) = false := by decide) (hcd : (x == ("__classdict__" : Str)) = false := by decide) : XC X .NotIn e (.Name x p) G (!(lkD kvs st).isSome) := by
  obtain ⟨rfl, rfl, rfl⟩ : X.prog = P ∧ X.w = w ∧ X.K = K := ⟨C.eP, C.ew, C.eK⟩
  exact upC ⟨fun pins s σ H Q I hw => bin (pe_wp X e) (pe_var (by rw [C.eN]; exact hN) (C.vis hv) hd hcd) I hw fun v u s2 x y H2 I2 rx ry q => op_sni C.hu64 pins s2 σ H2 x y v u Q I2 rx ry q⟩ (evd_sin (neg := true) i hG h)
/-- d.get(e, f) -/
theorem xe_dgetD {d0 : D} {f : Expr} (C : Cxt P w K mg base N sc k X) (i : Nat) (hG : G[i]? = some (.mu (mDict P w K kvs))) (h : XE X e G (dSv st)) (h2 : XE X f G d0) (hN : N[i]? = some x := by rfl) (hv : VisL sc x := by first | exact Or.inl rfl | exact Or.inr (Or.inl rfl) | exact Or.inr (Or.inr rfl))
    (hd : (x == ("__debug__" : Str)) = false := by decide) (hcd : (x == ("__classdict__" : Str)) = false := by decide) (m : M2 X (.Name x p) "get" apos e f cpos := by exact ⟨rfl, rfl, rfl, rfl⟩) : XE X (.Call (.Attribute (.Name x p) "get" apos) [e, f] [] cpos) G ((lkD kvs st).getD d0) := by
  obtain ⟨rfl, rfl, rfl⟩ : X.prog = P ∧ X.w = w ∧ X.K = K := ⟨C.eP, C.ew, C.eK⟩
  refine upD (pe_sgetD C.hu64 (pe_var (by rw [C.eN]; exact hN) (C.vis hv) hd hcd) (pe_wp X e) (pe_wp X f) m) fun H0 Hb0 Hb H σ k Q q => ?_
  obtain ⟨y, fp, hy, ⟨q0, raw, e1, e2, h1, hk, hr⟩, _⟩ := k.mut hG
  subst e1
  refine ⟨_, hy, q0, raw, rfl, h1, hk.mono k.ex, h H0 Hb0 Hb H σ k _ fun z Hb1 H1 g rz => h2 H0 Hb0 Hb1 H1 σ (k.up g) _ fun z2 Hb2 H2 g2 rz2 => ?_⟩
  obtain ⟨b, rfl⟩ := rep_sv rz
  have g3 := g.trans g2
  refine ⟨raw, st, b, rfl, g3.h _ _ h1, (hk.mono g3.b).mono g3.s, (rz.mono g2.b).mono g2.s, ?_⟩
  rcases hr.look st with ⟨z1, z2⟩ | ⟨bb, v, d', z1, z2, z3⟩
  · rw [z2] at q
    rw [z1]
    exact q _ Hb2 H2 g3 rz2
  · rw [z2] at q
    rw [z1]
    exact q _ Hb2 H2 g3 (z3.mono g3.b)
/-- len(d) -/
theorem xe_dlen (C : Cxt P w K mg base N sc k X) (i : Nat) (hG : G[i]? = some (.mu (mDict P w K kvs))) (hm : mg "len" = none) (hN : N[i]? = some x := by rfl) (hv : VisL sc x := by first | exact Or.inl rfl | exact Or.inr (Or.inl rfl) | exact Or.inr (Or.inr rfl))
    (hd : (x == ("__debug__" : Str)) = false := by decide) (hcd : (x == ("__classdict__" : Str)) = false := by decide) (hg : GlL sc "len" := by rfl) (hs : starEach [.Name x p] X.env = (false, eval (.Name x p) X.env) :: starEach [] X.env := by rfl) (hpl : (backTo pos (starEach [] X.env)).any (·.1) = false := by rfl) :
    XE X (.Call (.Name "len" p2) [.Name x p] [] pos) G (dI kvs.length) := by
  obtain ⟨rfl, rfl, rfl, rfl⟩ : X.prog = P ∧ X.w = w ∧ X.K = K ∧ X.mg = mg := ⟨C.eP, C.ew, C.eK, C.emg⟩
  refine upD (pe_callB call_slen (C.gl hg) hm PySem.boot_len (pa_cons (pe_var (by rw [C.eN]; exact hN) (C.vis hv) hd hcd) pa_nil hs) (he := hs) (hpl := hpl)) fun H0 Hb0 Hb H σ k Q q => ?_
  obtain ⟨y, fp, hy, ⟨q0, raw, e1, e2, h1, hk, hr⟩, _⟩ := k.mut hG
  subst e1
  refine ⟨_, hy, q0, raw, rfl, h1, hk.mono k.ex, ?_⟩
  rw [Paired.length hr]
  exact q _ Hb H (Grow.refl k.ex) (.v _)
/-- the change of such a slot -/
theorem ok_dput {H0 Hb0 Hb H : Hp} {σ : St} {i : Nat} (k : Ok K H0 Hb0 G Hb H σ) (hG : G[i]? = some (.mu (mDict P w K kvs))) {bq : Addr} {v : V} (rb : Rep K Hb (.ref bq) (dSv st)) (rv : Rep K Hb v d) (hz : kvs.length < 100000) :
    ∃ q0 raw, σ[i]? = some (some (.ref q0)) ∧ H q0 = some (dSt P w q0 raw) ∧ KeysAt K H raw ∧ DvRel K Hb raw kvs ∧ raw.length < sizeLine ∧ Ok K H0 Hb0 (G.set i (.mu (mDict P w K (putS kvs st d)))) Hb (upd H q0 (dSt P w q0 (putR raw st bq v))) σ := by
  obtain ⟨y, fp, hy, ⟨q0, raw, e1, e2, h1, hk, hr⟩, _, _, up, _⟩ := k.mut hG
  subst e1 e2
  refine ⟨q0, raw, hy, h1, hk.mono k.ex, hr, Evl.sz_lt (by rw [Paired.length hr]; exact hz), up _ _ [q0] (fun b o hb ho => ?_) (fun b hb => .inl hb) (by simp) ⟨q0, _, rfl, rfl, upd_same, hk.put rb v, hr.put st bq rv⟩⟩
  rw [upd_ne (fun z => hb (by rw [z]; simp))]
  exact ho
/-- d[ie] = e -/
theorem xs_dput (C : Dfx P w K mg base N sc k X) (i : Nat) (hG : G[i]? = some (.mu (mDict P w K kvs))) (he : XE X e G d) (hi : XE X ie G (dSv st)) (hz : kvs.length < 100000) (hP : Pw.nx (G.set i (.mu (mDict P w K (putS kvs st d))))) (hN : N[i]? = some x := by rfl)
    (hv : VisL sc x := by first | exact Or.inl rfl | exact Or.inr (Or.inl rfl) | exact Or.inr (Or.inr rfl)) (hd : (x == ("__debug__" : Str)) = false := by decide) (hcd : (x == ("__classdict__" : Str)) = false := by decide)
    (ha : ∀ v, assign (.Subscript (.Name x p) ie p2) X.env v = (do
      let ov ← holding [v] (eval (.Name x p) X.env)
      let iv ← holding [v, ov] (eval ie X.env)
      standAt p2
      holding [v, ov, iv] (setItem ov iv v)
      release [v, ov, iv] []) := by intro _; rfl)
    (hs : swapsWithSole [.Subscript (.Name x p) ie p2] e pos.line X.env = pure false := by rfl) (hw : swappedStores [.Subscript (.Name x p) ie p2] e X.env = pure none := by rfl)
    (h1 : (assignEach [.Subscript (.Name x p) ie p2] X.env).map (·.2) = [assign (.Subscript (.Name x p) ie p2) X.env] := by rfl) :
    XS X (.Assign [.Subscript (.Name x p) ie p2] e pos) G Pw := by
  obtain ⟨rfl, rfl, rfl⟩ : X.prog = P ∧ X.w = w ∧ X.K = K := ⟨C.eP, C.ew, C.eK⟩
  refine upS (ps_asg (pe_wp X e) (pg_sub (pe_var (by rw [C.eN]; exact hN) (C.vis hv) hd hcd) (pe_wp X ie) (pset_s C.toCxt.hu64) ha) hs hw h1) fun H0 Hb0 Hb H σ k Dn f _ _ _ => he H0 Hb0 Hb H σ k _ fun z Hb1 H1 g rz => ?_
  have k1 := k.up g
  obtain ⟨y, fp, hy, ⟨q0, raw, e1, _⟩, _⟩ := k1.mut hG
  subst e1
  refine ⟨_, hy, hi H0 Hb0 Hb1 H1 σ k1 _ fun iv Hb2 H2 g2 ri => ?_⟩
  obtain ⟨bq, rfl⟩ := rep_sv ri
  obtain ⟨q1, raw1, hy1, hq, hk, hr, hz1, k2⟩ := ok_dput (d := d) (k1.up g2) hG ri (rz.mono g2.b) hz
  rw [hy] at hy1
  cases hy1
  exact ⟨q0, raw1, st, bq, rfl, rfl, hq, hk, ri.mono g2.s, hz1, f _ Hb2 _ σ hP (ex_tr g.b g2.b) k2⟩
/-- d[ie] -= e -/
theorem xs_daug (C : Dfx P w K mg base N sc k X) (i : Nat) {m n : Int} (hG : G[i]? = some (.mu (mDict P w K kvs))) (he : XE X e G (dI n)) (hi : XE X ie G (dSv st)) (l : lkD kvs st = some (dI m)) (hz : kvs.length < 100000) (hP : Pw.nx (G.set i (.mu (mDict P w K (putS kvs st (dI (m - n))))))) (hN : N[i]? = some x := by rfl)
    (hv : VisL sc x := by first | exact Or.inl rfl | exact Or.inr (Or.inl rfl) | exact Or.inr (Or.inr rfl)) (hd : (x == ("__debug__" : Str)) = false := by decide) (hcd : (x == ("__classdict__" : Str)) = false := by decide)
    (ha : ∀ ov iv new, augStore ie ov iv new = (do holding [new, ov, iv] (setItem ov iv new); release [new, ov, iv] []; pure .next) := by intros; rfl) : XS X (.AugAssign (.Subscript (.Name x p) ie tpos) .Sub e pos) G Pw := by
  obtain ⟨rfl, rfl, rfl⟩ : X.prog = P ∧ X.w = w ∧ X.K = K := ⟨C.eP, C.ew, C.eK⟩
  refine upS (ps_augS (pe_var (by rw [C.eN]; exact hN) (C.vis hv) hd hcd) (pe_wp X ie) (pget_s C.toCxt.hu64) (pe_wp X e) ip_sub (pset_s C.toCxt.hu64) ha) fun H0 Hb0 Hb H σ k Dn f _ _ _ => ?_
  obtain ⟨y, fp, hy, ⟨q0, raw, e1, _⟩, _⟩ := k.mut hG
  subst e1
  refine ⟨_, hy, hi H0 Hb0 Hb H σ k _ fun iv Hb1 H1 g1 ri => ?_⟩
  have k1 := k.up g1
  obtain ⟨bq, rfl⟩ := rep_sv ri
  obtain ⟨y', fp', hy', ⟨q1, raw1, e1', e2', h1', hk', hr'⟩, _⟩ := k1.mut hG
  rw [hy] at hy'
  cases hy'
  cases e1'
  rcases hr'.look st with ⟨_, z2⟩ | ⟨bb, v, d', z1, z2, z3⟩
  · rw [z2] at l; cases l
  · rw [z2] at l
    cases l
    cases z3
    refine ⟨q0, raw1, st, bq, bb, _, rfl, rfl, h1', hk'.mono g1.s, ri.mono g1.s, z1, he H0 Hb0 Hb1 H1 σ k1 _ fun z Hb2 H2 g2 rz => ?_⟩
    cases rz
    obtain ⟨q2, raw2, hy2, hq, hk2, hr2, hz2, k3⟩ := ok_dput (d := dI (m - n)) (k1.up g2) hG (ri.mono g2.b) (.v (.int (m - n))) hz
    rw [hy] at hy2
    cases hy2
    exact ⟨m, n, rfl, rfl, q0, raw2, st, bq, rfl, rfl, hq, hk2, (ri.mono g2.b).mono g2.s, hz2, f _ Hb2 _ σ hP (ex_tr g1.b g2.b) k3⟩
end
end DL

namespace DL
open PySem L2

section
variable {P : Program} {w : World} {K : PySem.W.Frag} {mg : Str → Option Value} {base : Heap} {N : List Str} {sc : List (Str × NameKind)} {k : Nat} {X : Cx} {G : List Sl} {Pw : Po}
variable {a b c e ie kx vx tg iter : Expr} {ifs : List Expr} {scope : Scope} {own : List (Str × Nat)} {pos p p2 apos cpos tpos : Pos} {x : Str} {kvs : List (Sv × D)} {st : Sv} {d : D}
/-- the statement y = {..}: the machine stores ahead of the block's end -/
theorem swd_true {l : Nat} {env : Env} {y : Str} {py : Pos} {gs : List Comprehension} (hk : env.scope.kind = .function) (hy : env.scope.names.lookup y = some .local) (hl : (py.line == pos.line) = true)
    (ha : (scope.names.any fun (n, k) => n == y && (k == .local || k == .cell)) = false) : swapsWith (.DictComp kx vx gs scope pos) (some (.Name y py)) l env = pure true := by
  have ky : env.kindOf y = some .local := hy
  have kb : env.blockKind = .function := by unfold Env.blockKind; rw [hk]; rfl
  unfold swapsWith
  simp only [kb, ky, ha, Expr.pos, hl]
  rfl
/-- the end of such a statement -/
theorem dcs_end {pins : List (Addr × Obj)} {σ : St} {D : Ends} {i : Nat} {y : Str} {py : Pos} (hN : X.N.Nodup) (hy : X.N[i]? = some y) (hyl : X.env.scope.names.lookup y = some .local) {Da C : Addr} {s' : Shared} {m : Str → Option Value} {H' : Hp}
    (I : Inv X pins σ H' s') (q : gName i (.ref Da) σ H' D.nx) (hn : s'.heap.Ns C m) (f : FpOk X pins H' C) :
    compPost (model X.prog X.w) X.A X.xe (some (assign (.Name y py) X.env)) (fun _ s' => SP X pins D .next s') (.ref Da) C (.ok .next) s' := by
  show wpAny _ _ (assign (.Name y py) X.env (.ref Da)) _ _ _
  refine wpAny_assign_Name (store_ok2 (v := V.ref Da) I hN hy (.inl hyl) rfl (fun s2 I2 ⟨c, sb, hc⟩ => ?_) (.inr hyl))
  obtain ⟨f0, f1, f2, f3, f4, f5⟩ := f
  have nc : C ≠ c := hc.elim (fun z => by rw [z]; exact f1) (fun z e => f4 y c z e.symm)
  exact ⟨m, hn.sameBut sb nc, fun h3 sb3 => ⟨_, H', I2.turned (t' := s2.toks) (fun b o hb e => (sb3.2 b hb).trans e) f0 f1 f3 f4 f5, q⟩⟩
theorem ps_setDs {i : Nat} {y : Str} {py spos : Pos} {wi : TI} {g : TG} {tt : TT} {tk tv : TE} (hu : X.A.units + 64 < cLine) (hc : X.calm = true) (hN : X.N.Nodup) (hy : X.N[i]? = some y) (hyl : X.env.scope.names.lookup y = some .local)
    (hsw : swapsWith (.DictComp kx vx [⟨tg, iter, ifs, 0⟩] scope pos) (some (.Name y py)) spos.line X.env = pure true) (hi : PI X tg iter wi) (ok : BlkOk X.N X.env.scope scope own)
    (hg : ∀ s H C cl fp, PG (X.blk s H scope (compEnvC scope cl C X.env) fp) tg g) (ht : ∀ s H C cl fp, PTs (X.blk s H scope (compEnvC scope cl C X.env) fp) ifs tt)
    (hk : ∀ s H C cl fp, PE (X.blk s H scope (compEnvC scope cl C X.env) fp) kx tk) (he : ∀ s H C cl fp, PE (X.blk s H scope (compEnvC scope cl C X.env) fp) vx tv) (hs : ∀ x, foldedSetIterable iter X.env x = pure x) :
    PS X (.Assign [.Name y py] (.DictComp kx vx [⟨tg, iter, ifs, 0⟩] scope pos) spos) (tAsg (tDs X.prog X.w X.K wi g tt tk tv (own.map (·.2))) (gName i)) := by
  refine ⟨fun pins s σ H D I h => ?_⟩
  rw [exec_Assign_Name_used _ _ _ _ hsw]
  refine wpAny_bind (wpAny_standAt (wpAny_bind ?_))
  show wpAny _ X.A (do let _ ← comprehension (.DictComp kx vx [⟨tg, iter, ifs, 0⟩] scope pos) scope X.env (firstIterPos [⟨tg, iter, ifs, 0⟩] pos) newDict false (eval iter X.env) (some (assign (.Name y py) X.env))) _ _ s
  have h2 : tDs X.prog X.w X.K wi g tt tk tv (own.map (·.2)) σ H (fun x H1 => gName i x σ H1 D.nx) := h
  refine wpAny_bind (thn (ds_core (Qf := fun _ s' => SP X pins D .next s') hu hc hN I hi ok hg ht hk he hs h2 fun Da C s' m H' I' q hn f => dcs_end hN hy hyl I' q hn f) fun _ s' hq => wpAny_pure (wpAny_pure hq))
/-- keys that are texts or ints -/
theorem ps_setDc {i : Nat} {y : Str} {py spos : Pos} {wi : TI} {g : TG} {tt : TT} {tk tv : TE} (hc : X.calm = true) (hN : X.N.Nodup) (hy : X.N[i]? = some y) (hyl : X.env.scope.names.lookup y = some .local)
    (hsw : swapsWith (.DictComp kx vx [⟨tg, iter, ifs, 0⟩] scope pos) (some (.Name y py)) spos.line X.env = pure true) (hi : PI X tg iter wi) (ok : BlkOk X.N X.env.scope scope own)
    (hg : ∀ s H C cl fp, PG (X.blk s H scope (compEnvC scope cl C X.env) fp) tg g) (ht : ∀ s H C cl fp, PTs (X.blk s H scope (compEnvC scope cl C X.env) fp) ifs tt)
    (hk : ∀ s H C cl fp, PE (X.blk s H scope (compEnvC scope cl C X.env) fp) kx tk) (he : ∀ s H C cl fp, PE (X.blk s H scope (compEnvC scope cl C X.env) fp) vx tv) (hs : ∀ x, foldedSetIterable iter X.env x = pure x) :
    PS X (.Assign [.Name y py] (.DictComp kx vx [⟨tg, iter, ifs, 0⟩] scope pos) spos) (tAsg (tDc wi g tt tk tv (own.map (·.2))) (gName i)) := by
  refine ⟨fun pins s σ H D I h => ?_⟩
  rw [exec_Assign_Name_used _ _ _ _ hsw]
  refine wpAny_bind (wpAny_standAt (wpAny_bind ?_))
  show wpAny _ X.A (do let _ ← comprehension (.DictComp kx vx [⟨tg, iter, ifs, 0⟩] scope pos) scope X.env (firstIterPos [⟨tg, iter, ifs, 0⟩] pos) newDict false (eval iter X.env) (some (assign (.Name y py) X.env))) _ _ s
  have h2 : tDc wi g tt tk tv (own.map (·.2)) σ H (fun x H1 => gName i x σ H1 D.nx) := h
  refine wpAny_bind (thn (dc_core (Qf := fun _ s' => SP X pins D .next s') hc hN I hi ok hg ht hk he hs h2 fun Da C s' m H' I' q hn f => dcs_end hN hy hyl I' q hn f) fun _ s' hq => wpAny_pure (wpAny_pure hq))

theorem lkR_keys {raw : List (Sv × Addr × V)} {s : Sv} (h : s ∉ raw.map (·.1)) : lkR raw s = none := by
  unfold lkR
  rw [List.find?_eq_none.mpr fun p hp => ?_]
  · rfl
  · intro z
    exact h (List.mem_map.mpr ⟨p, hp, of_decide_eq_true z⟩)
theorem putR_new {raw : List (Sv × Addr × V)} {s : Sv} (bq : Addr) (v : V) (h : lkR raw s = none) : putR raw s bq v = raw ++ [(s, bq, v)] := by
  unfold putR
  rw [h]
  exact if_neg (by simp)
theorem DvRel.keys {Hb : Hp} {raw : List (Sv × Addr × V)} {kvs : List (Sv × D)} (r : DvRel K Hb raw kvs) : raw.map (·.1) = kvs.map (·.1) := by
  induction r with
  | nil => rfl
  | cons h t ih => rw [List.map_cons, List.map_cons, ih, h.1]
/-- an iterator that gives the data ds while all only grows -/
def IterOkG (K : PySem.W.Frag) (J : It) (Hb H : Hp) (ds : List D) : Prop := ∀ Hb2 H2, Grow Hb H Hb2 H2 → ∀ i : Nat,
  (∀ d, ds[i]? = some d → J.go i H2 ∧ ∀ x H3, J.yld i H2 x H3 → ∃ Hb3, Grow Hb2 H2 Hb3 H3 ∧ Rep K Hb3 x d) ∧ (ds[i]? = none → J.stop i H2)
def EvIG (K : PySem.W.Frag) (wi : TI) (G : List Sl) (ds : List D) : Prop := ∀ H0 Hb0 Hb H σ, Ok K H0 Hb0 G Hb H σ → ∀ R : It → Hp → Prop, (∀ J Hb' H', Grow Hb H Hb' H' → IterOkG K J Hb' H' ds → R J H') → wi σ H R
theorem EvI.g {K : PySem.W.Frag} {wi : TI} {ds : List D} (h : EvI K wi G ds) : EvIG K wi G ds := fun H0 Hb0 Hb H σ k R f => h H0 Hb0 Hb H σ k R fun J Hb' H' g it => f J Hb' H' g fun Hb2 H2 g2 => it Hb2 H2 g2.b g2.s
abbrev XIG (X : Cx) (tg iter : Expr) (G : List Sl) (ds : List D) : Prop := EvIG X.K (wpI X tg iter) G ds
theorem xig_ml (C : Cxt P w K mg base N sc k X) (i : Nat) {ds : List D} (hG : G[i]? = some (.ml K ds)) (hN : N[i]? = some x := by rfl) (hv : VisL sc x := by first | exact Or.inl rfl | exact Or.inr (Or.inl rfl) | exact Or.inr (Or.inr rfl))
    (hd : (x == ("__debug__" : Str)) = false := by decide) (hcd : (x == ("__classdict__" : Str)) = false := by decide) : XIG X tg (.Name x p) G ds := by
  obtain rfl : X.K = K := C.eK
  intro H0 Hb0 Hb H σ k R f pins s I
  refine (pi_list (tg := tg) (pe_var (pos := p) (by rw [C.eN]; exact hN) (C.vis hv) hd hcd)).run pins s σ H R I ?_
  obtain ⟨v, fp, hy, ⟨l, xs, e1, e2, h1, r⟩, _⟩ := k.mut hG
  subst e1
  refine ⟨_, hy, l, rfl, ⟨xs, SqL.of h1⟩, f _ Hb H (Grow.refl k.ex) fun Hb2 H2 g2 i => ⟨fun d hd => ?_, fun hn => ⟨xs, SqL.of (g2.h _ _ h1), ?_⟩⟩⟩
  · obtain ⟨v, hv, rv⟩ := r.get hd
    refine ⟨⟨xs, v, SqL.of (g2.h _ _ h1), hv⟩, fun y H3 hy => ?_⟩
    obtain ⟨rfl, hy⟩ := hy
    have e3 := hy xs (SqL.of (g2.h _ _ h1))
    rw [hv] at e3
    cases e3
    exact ⟨Hb2, Grow.refl g2.s, rv.mono g2.b⟩
  · rw [r.length]
    exact List.getElem?_eq_none_iff.mp hn
/-- {k: v for ..}: the values data -/
theorem em_ds {α : Type} {wi : TI} {g : TG} {tk tv : TE} {vs : List Nat} (l : List α) (enc : α → D) (Gx : α → List Sl) (ks : α → Sv) (f : α → D) (hI : EvIG K wi G (l.map enc)) (hnd : (l.map ks).Nodup)
    (hg : ∀ x ∈ l, EvTg K g vs (wipeG G vs) (enc x) (Gx x)) (hk : ∀ x ∈ l, EvD K tk (Gx x) (dSv (ks x))) (he : ∀ x ∈ l, EvD K tv (Gx x) (f x)) (hz : l.length ≤ 50000) :
    EvM K (tDs P w K wi g tYes tk tv vs) G (mDict P w K (l.map fun x => (ks x, f x))) := fun H0 Hb0 Hb H σ k Q q => hI H0 Hb0 Hb H σ k _ fun J Hb1 H1 g1 it Da hD => by
  have k1 := k.up g1
  refine ⟨fun i m H' => i + m = l.length ∧ ∃ Hb' raw, Grow Hb1 H1 Hb' H' ∧ Hb' Da = none ∧ H' Da = some (dSt P w Da raw) ∧ KeysAt K Hb' raw ∧ DvRel K Hb' raw ((l.take i).map fun x => (ks x, f x)), ⟨l.length, by omega, Hb1, [], Grow.newm g1.s hD, free_b g1.s hD, upd_same, fun p hp => (by cases hp), .nil⟩, ?_⟩
  rintro i m H' ⟨hm, Hb', raw, gi, hb, hx, hkk, hr⟩
  obtain ⟨it1, it2⟩ := it Hb' H' gi i
  by_cases hi : i < l.length
  · have hd : (l.map enc)[i]? = some (enc l[i]) := by rw [List.getElem?_map, List.getElem?_eq_getElem hi]; rfl
    have hmem : l[i] ∈ l := List.getElem_mem hi
    obtain ⟨go, yl⟩ := it1 _ hd
    refine .inr ⟨go, fun H2 => ∃ Hb2 raw, Grow Hb1 H1 Hb2 H2 ∧ Hb2 Da = none ∧ H2 Da = some (dSt P w Da raw) ∧ KeysAt K Hb2 raw ∧ DvRel K Hb2 raw ((l.take (i + 1)).map fun x => (ks x, f x)), fun H2 ⟨Hb2, ys, a1, a2, a3, a4, a5⟩ => ⟨m - 1, by omega, by omega, Hb2, ys, a1, a2, a3, a4, a5⟩, fun y H2 hy => ?_⟩
    obtain ⟨Hb2, g2, r2⟩ := yl y H2 hy
    have k2 := (k1.up (gi.trans g2)).wipe vs
    have tk' : l.take (i + 1) = l.take i ++ [l[i]] := by rw [List.take_add_one, List.getElem?_eq_getElem hi]; rfl
    refine hg l[i] hmem H0 Hb0 Hb2 H2 (L2.wipe σ vs) y k2 r2 _ fun σ2 k3 w3 => ⟨by rw [w3 vs (fun i hi => hi), wipe_wipe], ?_⟩
    refine hk l[i] hmem H0 Hb0 Hb2 H2 σ2 k3 _ fun z Hb3 H3 g3 r3 => he l[i] hmem H0 Hb0 Hb3 H3 σ2 (k3.up g3) _ fun u Hb4 H4 g4 r4 => ?_
    obtain ⟨bq, rfl⟩ := rep_sv r3
    have g24 := g2.trans (g3.trans g4)
    have h4 := g24.h _ _ hx
    have n4 := g24.out _ _ hx hb
    have gl := gi.trans g24
    have rb := r3.mono g4.b
    have kk := hkk.mono g24.b
    have hnew : lkR raw (ks l[i]) = none := by
      refine lkR_keys ?_
      rw [hr.keys, List.map_map]
      intro z
      obtain ⟨y', hy', ey⟩ := List.mem_map.mp z
      have nd2 := hnd
      have e1 : l.map ks = (l.take i).map ks ++ (l.drop i).map ks := by rw [← List.map_append, List.take_append_drop]
      rw [e1, List.nodup_append] at nd2
      refine nd2.2.2 (ks y') (List.mem_map.mpr ⟨y', hy', rfl⟩) (ks l[i]) (List.mem_map.mpr ⟨l[i], ?_, rfl⟩) ey
      rw [List.drop_eq_getElem_cons hi]
      exact List.mem_cons_self
    refine ⟨raw, ks l[i], bq, rfl, h4, kk.mono g4.s, rb.mono g4.s, Evl.sz_lt ?_, Hb4, putR raw (ks l[i]) bq u, ⟨gl.b, fun b o q => ?_, fun b o q => ?_, gl.out⟩, n4, upd_same, kk.put rb u, ?_⟩
    · have e1 := Paired.length hr
      rw [List.length_map, List.length_take] at e1
      omega
    · rw [upd_ne (ne_of_none q hD)]
      exact gl.h b o q
    · rw [upd_ne (ne_of_none q n4)]
      exact gl.s b o q
    · rw [tk', List.map_append, putR_new bq u hnew]
      exact Paired.snoc (hr.mono g24.b) ⟨rfl, r4⟩
  · have e : i = l.length := by omega
    have hn : (l.map enc)[i]? = none := by rw [List.getElem?_eq_none_iff, List.length_map]; omega
    rw [e, List.take_length] at hr
    exact .inl ⟨it2 hn, q _ Hb' H' (g1.trans gi) ⟨[Da], ⟨Da, raw, rfl, rfl, hx, hkk, hr⟩, by simp, fun b z => by rw [List.mem_singleton.mp z]; exact ⟨free_b g1.h hD, hb⟩⟩⟩
theorem DlRel.keys {Hb H : Hp} : ∀ {raw : List (Sv × Addr × V)} {ls : List Addr} {kvs : List (Sv × List D)}, DlRel K Hb H raw ls kvs → raw.map (·.1) = kvs.map (·.1) ∧ raw.length = kvs.length
  | _, _, _, .nil => ⟨rfl, rfl⟩
  | _, _, _, .cons h r t => by
    obtain ⟨a, b⟩ := DlRel.keys t
    simp only [List.map_cons, List.length_cons, a, b, and_self]
theorem DlRel.snoc {Hb H : Hp} {s : Sv} {bq l0 : Addr} {ys : List V} {es : List D} (h1 : H l0 = some (.lst ys)) (h2 : Reps K Hb ys es) : ∀ {raw : List (Sv × Addr × V)} {ls : List Addr} {kvs : List (Sv × List D)}, DlRel K Hb H raw ls kvs → DlRel K Hb H (raw ++ [(s, bq, .ref l0)]) (ls ++ [l0]) (kvs ++ [(s, es)])
  | _, _, _, .nil => .cons h1 h2 .nil
  | _, _, _, .cons h r t => .cons h r (DlRel.snoc h1 h2 t)
/-- {k: [..] for ..}: the values new lists -/
theorem em_dl {α : Type} {wi : TI} {g : TG} {tk tv : TE} {vs : List Nat} (l : List α) (enc : α → D) (Gx : α → List Sl) (ks : α → Sv) (f : α → List D) (hI : EvI K wi G (l.map enc)) (hnd : (l.map ks).Nodup)
    (hg : ∀ x ∈ l, EvTg K g vs (wipeG G vs) (enc x) (Gx x)) (hk : ∀ x ∈ l, EvD K tk (Gx x) (dSv (ks x))) (he : ∀ x ∈ l, EvN K tv (Gx x) (f x)) (hz : l.length ≤ 50000) :
    EvM K (tDs P w K wi g tYes tk tv vs) G (mDl P w K (l.map fun x => (ks x, f x))) := fun H0 Hb0 Hb H σ k Q q => hI H0 Hb0 Hb H σ k _ fun J Hb1 H1 g1 it Da hD => by
  have k1 := k.up g1
  refine ⟨fun i m H' => i + m = l.length ∧ ∃ Hb' raw ls, Grow Hb1 H1 Hb' H' ∧ Hb' Da = none ∧ H' Da = some (dSt P w Da raw) ∧ KeysAt K Hb' raw ∧ DlRel K Hb' H' raw ls ((l.take i).map fun x => (ks x, f x)) ∧ (Da :: ls).Nodup ∧ ∀ b ∈ ls, H1 b = none ∧ Hb' b = none,
    ⟨l.length, by omega, Hb1, [], [], Grow.newm g1.s hD, free_b g1.s hD, upd_same, fun p hp => (by cases hp), .nil, by simp, fun b hb => (by cases hb)⟩, ?_⟩
  rintro i m H' ⟨hm, Hb', raw, ls, gi, hb, hx, hkk, hr, nd, fr⟩
  obtain ⟨it1, it2⟩ := it Hb' H' gi.b gi.s i
  by_cases hi : i < l.length
  · have hd : (l.map enc)[i]? = some (enc l[i]) := by rw [List.getElem?_map, List.getElem?_eq_getElem hi]; rfl
    have hmem : l[i] ∈ l := List.getElem_mem hi
    obtain ⟨go, yl⟩ := it1 _ hd
    refine .inr ⟨go, fun H2 => ∃ Hb2 raw ls, Grow Hb1 H1 Hb2 H2 ∧ Hb2 Da = none ∧ H2 Da = some (dSt P w Da raw) ∧ KeysAt K Hb2 raw ∧ DlRel K Hb2 H2 raw ls ((l.take (i + 1)).map fun x => (ks x, f x)) ∧ (Da :: ls).Nodup ∧ ∀ b ∈ ls, H1 b = none ∧ Hb2 b = none, fun H2 ⟨Hb2, ys, zs, a1, a2, a3, a4, a5, a6, a7⟩ => ⟨m - 1, by omega, by omega, Hb2, ys, zs, a1, a2, a3, a4, a5, a6, a7⟩, fun y H2 hy => ?_⟩
    obtain ⟨Hb2, g2, r2⟩ := yl y H2 hy
    have k2 := (k1.up (gi.trans g2)).wipe vs
    have tk' : l.take (i + 1) = l.take i ++ [l[i]] := by rw [List.take_add_one, List.getElem?_eq_getElem hi]; rfl
    refine hg l[i] hmem H0 Hb0 Hb2 H2 (L2.wipe σ vs) y k2 r2 _ fun σ2 k3 w3 => ⟨by rw [w3 vs (fun i hi => hi), wipe_wipe], ?_⟩
    refine hk l[i] hmem H0 Hb0 Hb2 H2 σ2 k3 _ fun z Hb3 H3 g3 r3 => he l[i] hmem H0 Hb0 Hb3 H3 σ2 (k3.up g3) _ fun u Hb4 H4 g4 ⟨l0, ys, eu, n3, nb4, h04, r4⟩ => ?_
    subst eu
    obtain ⟨bq, rfl⟩ := rep_sv r3
    have g23 := g2.trans g3
    have g24 := g2.trans (g3.trans g4)
    have h4 := g24.h _ _ hx
    have n4 := g24.out _ _ hx hb
    have gl := gi.trans g24
    have rb := r3.mono g4.b
    have kk := hkk.mono g24.b
    have hnew : lkR raw (ks l[i]) = none := by
      refine lkR_keys ?_
      rw [hr.keys.1, List.map_map]
      intro z
      obtain ⟨y', hy', ey⟩ := List.mem_map.mp z
      have nd2 := hnd
      have e1 : l.map ks = (l.take i).map ks ++ (l.drop i).map ks := by rw [← List.map_append, List.take_append_drop]
      rw [e1, List.nodup_append] at nd2
      refine nd2.2.2 (ks y') (List.mem_map.mpr ⟨y', hy', rfl⟩) (ks l[i]) (List.mem_map.mpr ⟨l[i], ?_, rfl⟩) ey
      rw [List.drop_eq_getElem_cons hi]
      exact List.mem_cons_self
    have nl0 : l0 ∉ ls := fun z => by
      obtain ⟨o, ho⟩ := hr.has l0 z
      have ho2 := g23.h _ _ ho
      rw [n3] at ho2
      cases ho2
    have nlD : l0 ≠ Da := fun z => by
      rw [z] at n3
      have ho2 := g23.h _ _ hx
      rw [n3] at ho2
      cases ho2
    obtain ⟨nd1, nd2⟩ := List.nodup_cons.mp nd
    have other : ∀ b ∈ ls, (upd H4 Da (dSt P w Da (putR raw (ks l[i]) bq (.ref l0)))) b = H' b := fun b hbl => by
      obtain ⟨o, ho⟩ := hr.has b hbl
      rw [upd_ne (fun z => nd1 (by rw [← z]; exact hbl)), ho]
      exact g24.h _ _ ho
    refine ⟨raw, ks l[i], bq, rfl, h4, kk.mono g4.s, rb.mono g4.s, Evl.sz_lt ?_, Hb4, putR raw (ks l[i]) bq (.ref l0), ls ++ [l0], ⟨gl.b, fun b o q => ?_, fun b o q => ?_, gl.out⟩, n4, upd_same, kk.put rb _, ?_, ?_, fun b hbl => ?_⟩
    · have e1 := hr.keys.2
      rw [List.length_map, List.length_take] at e1
      omega
    · rw [upd_ne (ne_of_none q hD)]
      exact gl.h b o q
    · rw [upd_ne (ne_of_none q n4)]
      exact gl.s b o q
    · have oth := other
      rw [putR_new bq _ hnew] at oth ⊢
      rw [tk', List.map_append]
      exact DlRel.snoc (by rw [upd_ne nlD]; exact h04) r4 (hr.frame g24.b oth)
    · rw [← List.cons_append, List.nodup_append]
      refine ⟨nd, by simp, fun b hb1 c hc e => ?_⟩
      rw [List.mem_singleton.mp hc] at e
      subst e
      rcases List.mem_cons.mp hb1 with z | z
      · exact nlD z
      · exact nl0 z
    · rcases List.mem_append.mp hbl with z | z
      · obtain ⟨o, ho⟩ := hr.has b z
        exact ⟨(fr b z).1, g24.out _ _ ho (fr b z).2⟩
      · rw [List.mem_singleton.mp z]
        exact ⟨free_b (ex_tr gi.h g23.h) n3, nb4⟩
  · have e : i = l.length := by omega
    have hn : (l.map enc)[i]? = none := by rw [List.getElem?_eq_none_iff, List.length_map]; omega
    rw [e, List.take_length] at hr
    refine .inl ⟨it2 hn, q _ Hb' H' (g1.trans gi) ⟨Da :: ls, ⟨Da, raw, ls, rfl, rfl, hx, hkk, hr⟩, nd, fun b z => ?_⟩⟩
    rcases List.mem_cons.mp z with z | z
    · rw [z]; exact ⟨free_b g1.h hD, hb⟩
    · exact ⟨free_b g1.h (fr b z).1, (fr b z).2⟩

theorem ev_yes : EvT K tYes G true := fun H0 Hb0 Hb H σ k Q q => q Hb H (Grow.refl k.ex)
structure Dc (X : Cx) (K : PySem.W.Frag) (P : Program) (w : World) (mg : Str → Option Value) (base : Heap) (N : List Str) (sc : List (Str × NameKind)) (k : Nat) (own : List (Str × Nat)) (scope : Scope) (kx vx tg iter : Expr) (G : List Sl) (kvs : List (Sv × D)) : Prop where
  blk : blkC N (scOf sc) scope own = true
  ex : ∃ (α : Type) (l : List α) (enc : α → D) (Gx : α → List Sl) (ks : α → Sv) (f : α → D), kvs = l.map (fun x => (ks x, f x)) ∧ XIG X tg iter G (l.map enc) ∧ l.length ≤ 50000 ∧ (l.map ks).Nodup ∧
    ∀ X', Cxt P w K mg base N (relN sc scope.names) k X' → ∀ x ∈ l, XTg X' tg (own.map (·.2)) (wipeG G (own.map (·.2))) (enc x) (Gx x) ∧ XE X' kx (Gx x) (dSv (ks x)) ∧ XE X' vx (Gx x) (f x)
theorem pts_nilb (s : Shared) (H1 : Hp) (Ca : Addr) (cl : List (Str × Addr)) (fp : List Addr) : PTs (X.blk s H1 scope (compEnvC scope cl Ca X.env) fp) [] tYes := pts_nil
/-- y = {k: v for tg in iter} -/
theorem xs_dc (C : Dfx P w K mg base N sc k X) (i : Nat) {py spos : Pos} (h : Dc X K P w mg base N sc k own scope kx vx tg iter G kvs) (hP : Pw.nx (G.set i (.mu (mDict P w K kvs)))) (hN : N[i]? = some x := by rfl) (hl : sc.lookup x = some .local := by rfl)
    (ho : (scope.names.any fun (n, k) => n == x && (k == .local || k == .cell)) = false := by decide +kernel) (hln : (py.line == pos.line) = true := by rfl) (hf : ∀ x, foldedSetIterable iter X.env x = pure x := by intro _; rfl) :
    XS X (.Assign [.Name x py] (.DictComp kx vx [⟨tg, iter, [], 0⟩] scope pos) spos) G Pw := by
  obtain ⟨rfl, rfl, rfl⟩ : X.prog = P ∧ X.w = w ∧ X.K = K := ⟨C.eP, C.ew, C.eK⟩
  obtain ⟨α, l, enc, Gx, ks, f, rfl, hI, hz, hnd, hb⟩ := h.ex
  have kk := scope_fn h.blk
  refine upS (ps_setDs C.toCxt.hu64 C.calm (by rw [C.eN]; exact C.nd) (by rw [C.eN]; exact hN) (by rw [C.esc]; exact hl) (swd_true C.kd (by rw [C.esc]; exact hl) hln ho) (pi_wp X tg iter) (C.blkOk h.blk) pg_blk pts_nilb pe_blk pe_blk hf)
    fun H0 Hb0 Hb H σ k Dn a _ _ _ => em_ds l enc Gx ks f hI hnd (fun y hy H0 Hb0 Hb H σ z k r Q f s H1 Ca cl fp => (hb _ (C.blk kk s H1 cl Ca fp) y hy).1 H0 Hb0 Hb H σ z k r Q f)
      (fun y hy H0 Hb0 Hb H σ k Q q s H1 Ca cl fp => (hb _ (C.blk kk s H1 cl Ca fp) y hy).2.1 H0 Hb0 Hb H σ k Q q) (fun y hy H0 Hb0 Hb H σ k Q q s H1 Ca cl fp => (hb _ (C.blk kk s H1 cl Ca fp) y hy).2.2 H0 Hb0 Hb H σ k Q q) hz
      H0 Hb0 Hb H σ k _ fun y Hb1 H1 g ⟨fp, ok, nd, fr⟩ => a _ Hb1 H1 _ hP g.b (k.putm g i ok nd fr)
structure Dcl (X : Cx) (K : PySem.W.Frag) (P : Program) (w : World) (mg : Str → Option Value) (base : Heap) (N : List Str) (sc : List (Str × NameKind)) (k : Nat) (own : List (Str × Nat)) (scope : Scope) (kx vx tg iter : Expr) (G : List Sl) (kvs : List (Sv × List D)) : Prop where
  blk : blkC N (scOf sc) scope own = true
  ex : ∃ (α : Type) (l : List α) (enc : α → D) (Gx : α → List Sl) (ks : α → Sv) (f : α → List D), kvs = l.map (fun x => (ks x, f x)) ∧ XI X tg iter G (l.map enc) ∧ l.length ≤ 50000 ∧ (l.map ks).Nodup ∧
    ∀ X', Cxt P w K mg base N (relN sc scope.names) k X' → ∀ x ∈ l, XTg X' tg (own.map (·.2)) (wipeG G (own.map (·.2))) (enc x) (Gx x) ∧ XE X' kx (Gx x) (dSv (ks x)) ∧ XN X' vx (Gx x) (f x)
/-- y = {k: [..] for tg in iter} -/
theorem xs_dcl {kvl : List (Sv × List D)} (C : Dfx P w K mg base N sc k X) (i : Nat) {py spos : Pos} (h : Dcl X K P w mg base N sc k own scope kx vx tg iter G kvl) (hP : Pw.nx (G.set i (.mu (mDl P w K kvl)))) (hN : N[i]? = some x := by rfl) (hl : sc.lookup x = some .local := by rfl)
    (ho : (scope.names.any fun (n, k) => n == x && (k == .local || k == .cell)) = false := by decide +kernel) (hln : (py.line == pos.line) = true := by rfl) (hf : ∀ x, foldedSetIterable iter X.env x = pure x := by intro _; rfl) :
    XS X (.Assign [.Name x py] (.DictComp kx vx [⟨tg, iter, [], 0⟩] scope pos) spos) G Pw := by
  obtain ⟨rfl, rfl, rfl⟩ : X.prog = P ∧ X.w = w ∧ X.K = K := ⟨C.eP, C.ew, C.eK⟩
  obtain ⟨α, l, enc, Gx, ks, f, rfl, hI, hz, hnd, hb⟩ := h.ex
  have kk := scope_fn h.blk
  refine upS (ps_setDs C.toCxt.hu64 C.calm (by rw [C.eN]; exact C.nd) (by rw [C.eN]; exact hN) (by rw [C.esc]; exact hl) (swd_true C.kd (by rw [C.esc]; exact hl) hln ho) (pi_wp X tg iter) (C.blkOk h.blk) pg_blk pts_nilb pe_blk pe_blk hf)
    fun H0 Hb0 Hb H σ k Dn a _ _ _ => em_dl l enc Gx ks f hI hnd (fun y hy H0 Hb0 Hb H σ z k r Q f s H1 Ca cl fp => (hb _ (C.blk kk s H1 cl Ca fp) y hy).1 H0 Hb0 Hb H σ z k r Q f)
      (fun y hy H0 Hb0 Hb H σ k Q q s H1 Ca cl fp => (hb _ (C.blk kk s H1 cl Ca fp) y hy).2.1 H0 Hb0 Hb H σ k Q q) (fun y hy H0 Hb0 Hb H σ k Q q s H1 Ca cl fp => (hb _ (C.blk kk s H1 cl Ca fp) y hy).2.2 H0 Hb0 Hb H σ k Q q) hz
      H0 Hb0 Hb H σ k _ fun y Hb1 H1 g ⟨fp, ok, nd, fr⟩ => a _ Hb1 H1 _ hP g.b (k.putm g i ok nd fr)
end
end DL

namespace DL
open PySem PySem.Spec PyProof.Rows L2
open AutoSeq1 (wpAny_loadPart')

theorem enum_newT {v : Value} {o : Obj} {H : Heap → Prop} (B : Begins v o H) :
    Meets (Builtin.«enumerate.__new__» ⟨[.type "enumerate", v], []⟩) (fun _ R s => H s.heap ∧
      R (.ok (.ret (.ref (s.heap.push o).objs.size))) { s with heap := (s.heap.push o).push { cls := .type "enumerate", data := .fields #[.none, .bool false, .ref s.heap.objs.size, rawInt 0, .none, .none] } }) :=
  .of_wp fun prog w A R s h => by
    obtain ⟨hp, g, d, tk, os⟩ := s
    obtain ⟨hB, h⟩ := h
    have sub1 := sub_enumerate
    have begins : ∀ {A' : Around} {E : Value → Shared → Prop} {Q : Value → Shared → Prop}, Q (.ref hp.objs.size) ⟨hp.push o, g, d, tk, os⟩ → wpAny (model prog w) A' (pyIter v) Q E ⟨hp, g, d, tk, os⟩ :=
      fun z => B.iter prog w _ _ ⟨hp, g, d, tk, os⟩ _ hB z
    wp_walk using begins
    refine wpAny_stack_any fun _ => wpAny_pure ?_
    split
    · rename_i cc _ _ _ _ _
      by_cases hcc : (cc == Value.type "enumerate") = true
      · rw [hcc]
        wp_walk using begins
        exact ⟨_, rfl, h⟩
      · rw [Bool.eq_false_iff.mpr hcc]
        wp_walk using begins
        exact ⟨_, rfl, h⟩
    · wp_walk using begins
      exact ⟨_, rfl, h⟩
theorem call_enumT {prog : Program} {w : World} {A : Around} {E : Value → Shared → Prop} {s : Shared} {t : Addr} {items : Array Value} {Q : Value → Shared → Prop} (ht : s.heap.IsTuple t items)
    (h : ∀ h', IsEnum h' (s.heap.objs.size + 1) s.heap.objs.size 0 .none → h'.IsTupleIter s.heap.objs.size t 0 → (∀ b u, s.heap.get? b = some u → h'.get? b = some u) → Q (.ref (s.heap.objs.size + 1)) { s with heap := h' }) :
    wpAny (model prog w) A (call (.type "enumerate") [.ref t]) Q E s := by
  refine callType_new F.called_enumerate (by decide) (F.typeCall_enumerate_1 _) (F.newCall_enumerate_1 _) (fun obj => F.args_object_init_2 obj _) F.entry_enumerate_new
    (enum_newT (begins_tuple t items)) ⟨ht, ?_⟩
  obtain ⟨it, eit⟩ : ∃ it : Obj, it = { cls := .type "tuple_iterator", data := .fields #[.ref t, .int 0 0] } := ⟨_, rfl⟩
  rw [← eit]
  have fr : it.isFreed = false := by rw [eit]; rfl
  have z1 : (s.heap.push it).objs.size = s.heap.objs.size + 1 := Heap.size_push ..
  show _ ∧ _
  rw [z1]
  have he := Heap.get?_push_size (s.heap.push it) (o := { cls := .type "enumerate", data := .fields #[.none, .bool false, .ref s.heap.objs.size, rawInt 0, .none, .none] }) rfl
  rw [z1] at he
  refine ⟨⟨_, he, rfl⟩, h _ he ⟨it, Heap.get?_push_of_some _ (Heap.get?_push_size _ fr), by rw [eit], by rw [eit]; rfl⟩ fun b u q => Heap.get?_push_of_some _ (Heap.get?_push_of_some _ q)⟩

theorem enum_endT {prog : Program} {w : World} {A : Around} {E : Value → Shared → Prop} {s : Shared} {e it t : Addr} {i : Nat} {items : Array Value} {old : Value} {Q : Option Value → Shared → Prop} (hh : A.handled = none) (he : IsEnum s.heap e it i old)
    (hit : s.heap.IsTupleIter it t i) (ht : s.heap.IsTuple t items) (hx : items[i]? = none) (hQ : ∀ h', Heap.ExtBut it s.heap h' → Q none { s with heap := h' }) : wpAny (model prog w) A (pyNext (.ref e)) Q E s := by
  have ty : s.TypeIs (.ref e) "enumerate" := ⟨_, he, rfl⟩
  unfold pyNext
  refine wpAny_bind (wpAny_attempt (wpAny_callSpecial?_slot (name := Str.ofString "__next__") ty F.slot_enumerate_next (wpAny_call_entry F.slot_enumerate_next ty F.entry_enumerate_next ?_ (F.args_enumerate_next_1 _))))
  show wpAny _ _ (field (.ref e) 2 >>= _) _ _ _
  refine wpAny_bind (wpAny_field he rfl (x := .ref it) rfl (wpAny_bind (wpAny_nextOf_tuple_end hh hit ht hx fun h' x ext stop => ?_)))
  obtain ⟨o, ho, hc⟩ := stop
  exact wpAny_bind (wpAny_isInstance (T := "StopIteration") (b := true) ⟨o, ho, hc⟩ isSubtype_stop (wpAny_pure (hQ _ ext)))
/-- the tuple at a, each item in a new pair -/
def ItT (K : PySem.W.Frag) (a : Addr) : It :=
  ⟨fun i H => ∃ (xs : List V) (x : V), SqT K H a xs ∧ xs[i]? = some x, fun i H v H' => ∃ T x, v = .ref T ∧ H T = none ∧ H' = upd H T (.tup [.int (i : Nat), x]) ∧ ∀ xs, SqT K H a xs → xs[i]? = some x, fun i H => ∃ xs : List V, SqT K H a xs ∧ xs.length ≤ i⟩
theorem turn_enumT {P : Program} {w : World} {K : PySem.W.Frag} {elts : List Expr} {kk : Nat} {tpos : Pos} (a e it : Addr) (hai : a ≠ it) :
    Turn P w K (.Tuple elts kk tpos) (ItT K a) [e, it] e (fun i h => (∃ old, IsEnum h e it ((i : Nat) : Int) old) ∧ h.IsTupleIter it a i ∧ e ≠ it ∧ a ≠ e) where
  mem := by simp
  obj := fun i h st b hb => by
    obtain ⟨⟨old, he⟩, ⟨o, ho, _, hd⟩, _⟩ := st
    rcases (by simpa using hb : b = e ∨ b = it) with rfl | rfl
    · exact ⟨_, he, fun _ q => nomatch q⟩
    · exact ⟨o, ho, fun _ q => by rw [hd] at q; cases q⟩
  keep := fun i h h' st k => let ⟨⟨old, he⟩, hi, n1, n2⟩ := st; ⟨⟨old, k e (by simp) _ he⟩, hi.at fun o q => k it (by simp) o q, n1, n2⟩
  item := by
    intro X hP hw hK hc i pins s σ H E I hf st hg
    subst hP hw hK
    obtain ⟨⟨old, he⟩, hit, hne, hae⟩ := st
    obtain ⟨xs, x, hq, hx⟩ := hg
    obtain ⟨its, rv, p, hz⟩ := I.tuple hq
    obtain ⟨u, hu, ru⟩ := rv.get hx
    have hT0 : s.heap.IsTuple a its.toArray := p
    have lt_e := Heap.lt_size he
    have lt_it : it < s.heap.objs.size := by obtain ⟨_, q, _⟩ := hit; exact Heap.lt_size q
    have li : i < its.toArray.size := by
      have := (List.getElem?_eq_some_iff.mp hu).1
      simpa using this
    have dr := Draws.tuple (prog := X.prog) (w := X.w) (A := X.A.in1) (I.ok.hd hc) it a hai its.toArray
    refine wpAny_pyNext_enum_itemD dr he ⟨hit, hT0⟩ li hne (by simp [hne, Ne.symm hae]) fun y h' tk hy ho hst hT hsz hk => ?_
    have ey : y = u := by
      have h2 : its.toArray[i]? = some u := by simpa using hu
      rw [h2] at hy
      exact (Option.some.inj hy).symm
    subst ey
    refine ⟨_, rfl, wpAny_letOwnedTupleGo_enum (s := { s with heap := h', toks := tk + 1 }) ho fun h'' he' sb => ?_⟩
    have newer : h''.get? s.heap.objs.size = some { cls := .type "tuple", data := .seq #[.int i tk, y] } := (sb.2 _ (Nat.ne_of_gt lt_e)).trans hT
    have nob : ObjOk X.prog X.w (upd H s.heap.objs.size (.tup [.int (i : Nat), x])) h'' s.heap.objs.size (.tup [.int (i : Nat), x]) :=
      ⟨by show 2 ≤ sizeLine; decide, [.int i tk, y], .cons ⟨_, rfl⟩ (.cons ru .nil), ⟨_, newer, rfl, _, rfl⟩⟩
    have I1 : Inv X pins σ (upd H s.heap.objs.size (.tup [.int (i : Nat), x])) { s with heap := h'', toks := tk + 1 } :=
      I.turnedNew (ch := [e, it]) (fun b ob hb q => (sb.2 b (fun z => hb (by simp [z]))).trans (hk b ob (fun z => hb (by simp [z])) (fun z => hb (by simp [z])) q)) hf (Nat.le_refl _) nob
    refine ⟨.ref s.heap.objs.size, _, I1, rfl, ⟨_, x, rfl, I.hok.fresh (Nat.le_refl _), rfl, fun ys hy' => by rw [I.tuple_inj hy' hq]; exact hx⟩, ⟨⟨y, ?_⟩, hst.1.at fun o q => (sb.2 it (Ne.symm hne)).trans q, hne, hae⟩, fun b hb => ?_⟩
    · have e1 : ((i + 1 : Nat) : Int) = (i : Int) + 1 := by omega
      rw [e1]; exact he'
    · have hb' : b < s.heap.objs.size := by
        rcases (by simpa using hb : b = e ∨ b = it) with rfl | rfl
        · exact lt_e
        · exact lt_it
      rw [upd_ne (Nat.ne_of_lt hb')]
      exact (hf b hb).1
  done := by
    intro X hP hw hK hc i pins s σ H E I hf st hg
    subst hP hw hK
    obtain ⟨⟨old, he⟩, hit, hne, hae⟩ := st
    obtain ⟨xs, hq, hx⟩ := hg
    obtain ⟨its, rv, p, hz⟩ := I.tuple hq
    obtain ⟨f0, f1, f2, f3, f4, f5⟩ := hf it (by simp)
    have hl := rv.length
    have hT0 : s.heap.IsTuple a its.toArray := p
    exact enum_endT (I.ok.hd hc) he hit hT0 (by simp; omega) fun h' eb => ⟨rfl, I.turned (t' := s.toks) (fun b o hb q => eb b o hb q) f0 f1 f3 f4 f5⟩
  self := fun A i s Q E st h => let ⟨⟨_, he⟩, _⟩ := st; wpAny_pyIter_enum he h
def iEnumT (K : PySem.W.Frag) (ta : TA) : TI := fun σ H R => ta σ H fun vs H1 => ∃ a xs, vs = [.ref a] ∧ SqT K H1 a xs ∧ R (ItT K a) H1
theorem pi_enumT {X : Cx} {e : Expr} {ta : TA} {p pos tpos : Pos} {elts : List Expr} {kk : Nat} (hg : Gl X "enumerate") (hm : X.mg "enumerate" = none) (ha : PA X [e] ta) (hs : starEach [e] X.env = [(false, eval e X.env)] := by rfl) :
    PI X (.Tuple elts kk tpos) (.Call (.Name "enumerate" p) [e] [] pos) (iEnumT X.K ta) := by
  refine ⟨fun pins s σ H R I h => Call_ (ld_blt I hg hm boot_enumerate (PyProof.Rows.callWith_type1 (thn (ha.run pos pins s σ H _ I h) fun us s1 ⟨vs, H1, I1, r1, a, xs, ex, hq, q⟩ => ?_) hs rfl))⟩
  subst ex
  cases r1 with
  | cons r rr =>
    cases rr
    cases r
    obtain ⟨its, rv, p', hz⟩ := I1.tuple hq
    have hT : s1.heap.IsTuple a its.toArray := p'
    have la : a < s1.heap.objs.size := by obtain ⟨_, q, _⟩ := hT; exact Heap.lt_size q
    refine call_enumT hT fun h' he hit hk => wpAny_pyIter_enum he ⟨s1.heap.objs.size + 1, [s1.heap.objs.size + 1, s1.heap.objs.size], _, _, H1, rfl, I1.kept (t' := s1.toks) hk, turn_enumT a (s1.heap.objs.size + 1) s1.heap.objs.size (Nat.ne_of_lt la), ⟨⟨.none, he⟩, hit, Nat.succ_ne_self _, Nat.ne_of_lt (Nat.lt_succ_of_lt la)⟩, fun b hb => ?_, q⟩
    have hle : s1.heap.objs.size ≤ b := by
      rcases (by simpa using hb : b = s1.heap.objs.size + 1 ∨ b = s1.heap.objs.size) with z | z
      · rw [z]; exact Nat.le_add_right _ _
      · rw [z]; exact Nat.le_refl _
    exact I1.fpOk hle (I1.hok.fresh hle)
section
variable {P : Program} {w : World} {K : PySem.W.Frag} {mg : Str → Option Value} {base : Heap} {N : List Str} {sc : List (Str × NameKind)} {k : Nat} {X : Cx} {G : List Sl} {Pw : Po}
variable {a b e : Expr} {pos p tpos : Pos}
theorem xi_enumT (C : Cxt P w K mg base N sc k X) {elts : List Expr} {kk : Nat} {ds : List D} (hm : mg "enumerate" = none) (h : XE X e G (.tup ds)) (hg : GlL sc "enumerate" := by rfl) (hs : starEach [e] X.env = (false, eval e X.env) :: starEach [] X.env := by rfl)
    (hs2 : starEach [e] X.env = [(false, eval e X.env)] := by rfl) : XI X (.Tuple elts kk tpos) (.Call (.Name "enumerate" p) [e] [] pos) G (enumD ds) :=
  upI (pi_enumT (C.gl hg) (by rw [C.emg]; exact hm) (pa_one hs) hs2) fun H0 Hb0 Hb H σ k R f => h H0 Hb0 Hb H σ k _ fun x Hb1 H1 g r => by
    cases r with
    | @tup q xs _ hq rq =>
      refine ⟨q, xs, rfl, SqT.of (g.s _ _ hq), f _ Hb1 H1 g fun Hb2 H2 e1 e2 i => ⟨fun d hd => ?_, fun hn => ⟨xs, SqT.of (e2 _ _ (e1 _ _ hq)), ?_⟩⟩⟩
      · rw [enumD_at] at hd
        cases q0 : ds[i]? with
        | none => rw [q0] at hd; cases hd
        | some d0 =>
          rw [q0] at hd
          cases hd
          obtain ⟨v, hv, rv⟩ := rq.get q0
          refine ⟨⟨xs, v, SqT.of (e2 _ _ (e1 _ _ hq)), hv⟩, fun y H3 hy => ?_⟩
          obtain ⟨T, z, rfl, hT, rfl, hz⟩ := hy
          have e3 := hz xs (SqT.of (e2 _ _ (e1 _ _ hq)))
          rw [hv] at e3
          cases e3
          exact ⟨_, Grow.new e2 hT, .tup upd_same (.cons (.v _) (.cons ((rv.mono e1).mono (ex_new (free_b e2 hT))) .nil))⟩
      · rw [rq.length]
        rw [enumD_at] at hn
        cases q0 : ds[i]? with
        | none => exact List.getElem?_eq_none_iff.mp q0
        | some d0 => rw [q0] at hn; cases hn
end

theorem tuple_mul1 (l : Addr) (items : Array Value) (n : Nat) (dd : Option Addr) (sl : Array (Option Value)) (u : Tok) :
    Meets (Builtin.«tuple.__mul__» ⟨[.ref l, .int 1 u], []⟩) (fun _ R s => s.heap.get? l = some { cls := .type "tuple", dict := dd, data := .seq items n, slots := sl } ∧ R (.ok (.ret (Value.ref l))) s) :=
  .of_wp fun prog w A R s h => by
    obtain ⟨hp, g, d, tk, os⟩ := s
    obtain ⟨hl, h⟩ := h
    have f1 := AutoSeq1.idx_int
    wp_walk using wpAny_loadPart' hl
    exact ⟨_, rfl, h⟩
theorem tuple_mul0 (l : Addr) (items : Array Value) (n : Nat) (dd : Option Addr) (sl : Array (Option Value)) (u : Tok) (hi : items.isEmpty = false) :
    Meets (Builtin.«tuple.__mul__» ⟨[.ref l, .int 0 u], []⟩) (fun _ R s => s.heap.get? l = some { cls := .type "tuple", dict := dd, data := .seq items n, slots := sl } ∧
      R (.ok (.ret (Value.ref s.heap.objs.size))) { s with heap := s.heap.push { cls := Value.type "tuple", data := Data.seq #[] }, toks := s.toks }) :=
  .of_wp fun prog w A R s h => by
    obtain ⟨hp, g, d, tk, os⟩ := s
    obtain ⟨hl, h⟩ := h
    have f1 := AutoSeq1.idx_int
    have c1 : (items.isEmpty || (0 : Int) == 1) = false := by rw [hi]; rfl
    wp_walk using wpAny_loadPart' hl
    repeat (first
      | (refine wpAny_ite_false (decide_eq_false (by rw [c1]; exact Bool.false_ne_true)) ?_; wp_walk using wpAny_loadPart' hl))
    exact ⟨_, rfl, h⟩
/-- a tuple of one, 0 or more times -/
def rRep1 : R2 := fun x y H Q => ∃ l k v, x = .ref l ∧ y = .int k ∧ H l = some (.tup [v]) ∧ 0 ≤ k ∧ k ≤ 1000 ∧ (k = 1 → Q (.ref l) H) ∧ ∀ p, H p = none → Q (.ref p) (upd H p (.tup (List.replicate k.toNat v)))
theorem rep_one {α : Type} (v : α) : ∀ n : Nat, (List.replicate n [v]).flatten = List.replicate n v
  | 0 => rfl
  | n + 1 => by rw [List.replicate_succ, List.flatten_cons, rep_one v n, List.replicate_succ]; rfl
section
variable {X : Cx}
theorem op_rep1 : OpR X (binaryOp .Mult) rRep1 := by
  intro pins s σ H x y v u Q I rx ry h
  obtain ⟨l, k, w0, rfl, rfl, hT, h0, h1, q1, q⟩ := h
  have hS : SqT X.K H l [w0] := SqT.of hT
  by_cases hk : 2 ≤ k
  · refine op_repT pins s σ H _ _ v u Q I rx ry ⟨l, k, [w0], rfl, rfl, hS, by simp, hk, h1, by simp, fun p hp => ?_⟩
    rw [rep_one]
    exact q p hp
  · cases rx
    obtain ⟨t, rfl⟩ := ry
    obtain ⟨its, r, ⟨⟨cls, dd, data, sl⟩, ho, hc, n, hd⟩, hs⟩ := I.tuple hS
    simp only at hc hd
    subst hc hd
    by_cases hk1 : k = 1
    · subst hk1
      exact wpAny_binaryOp_repeat_ref (T := "tuple") (U := "int") (by decide) ⟨_, ho, rfl⟩ (fun s' => typeIs_int s' 1 t) noFill_tuple_mul F.fills_int_mul F.slot_int_rmul repeat_tuple F.slot_int_index.lookup
        (call_meets F.slot_int_rmul (typeIs_int s 1 t) F.entry_int_rmul (F.args_int_rmul_2 _ _) (int_rmul_tuple 1 t l its.toArray n dd sl)
          ⟨ho, rfl, ⟨_, ho, rfl⟩, call_meets F.slot_tuple_mul ⟨_, ho, rfl⟩ F.entry_tuple_mul (F.args_tuple_mul_2 _ _) (tuple_mul1 l its.toArray n dd sl t) ⟨ho, ⟨.ref l, H, I, rfl, q1 rfl⟩⟩⟩)
    · have hk0 : k = 0 := by omega
      subst hk0
      have hi : its.toArray.isEmpty = false := by
        cases r with
        | cons a b => rfl
      refine wpAny_binaryOp_repeat_ref (T := "tuple") (U := "int") (by decide) ⟨_, ho, rfl⟩ (fun s' => typeIs_int s' 0 t) noFill_tuple_mul F.fills_int_mul F.slot_int_rmul repeat_tuple F.slot_int_index.lookup
        (call_meets F.slot_int_rmul (typeIs_int s 0 t) F.entry_int_rmul (F.args_int_rmul_2 _ _) (int_rmul_tuple 0 t l its.toArray n dd sl)
          ⟨ho, rfl, ⟨_, ho, rfl⟩, call_meets F.slot_tuple_mul ⟨_, ho, rfl⟩ F.entry_tuple_mul (F.args_tuple_mul_2 _ _) (tuple_mul0 l its.toArray n dd sl t hi) ⟨ho, ?_⟩⟩)
      refine ⟨.ref s.heap.objs.size, _, I.laid (t' := s.toks) (o := .tup (List.replicate (0 : Int).toNat w0)) (fun b ob q => Heap.get?_push_of_some _ q) (Nat.le_refl _) ?_, rfl, q _ (I.hok.fresh (Nat.le_refl _))⟩
      exact ⟨Nat.zero_le _, [], .nil, IsTup.new _ _⟩
end
section
variable {P : Program} {w : World} {K : PySem.W.Frag} {mg : Str → Option Value} {base : Heap} {N : List Str} {sc : List (Str × NameKind)} {k : Nat} {X : Cx} {G : List Sl} {Pw : Po}
variable {a b e : Expr} {pos p tpos : Pos}
/-- (v,) * n -/
theorem xe_rep {d : D} {n : Int} (h1 : XE X a G (.tup [d])) (h2 : XE X b G (dI n)) (h0 : 0 ≤ n) (hn : n ≤ 1000) : XE X (.BinOp a .Mult b pos) G (.tup (List.replicate n.toNat d)) :=
  upD (pe_op op_rep1 (pe_wp X a) (pe_wp X b)) (evg_op mon_D h1 h2 fun Hs Hb H x y e1 e2 q1 q2 Q q => by
    cases q2
    cases q1 with
    | @tup l xs _ hl rl =>
      cases rl with
      | @cons v _ ys _ rv rr =>
        cases rr
        refine ⟨l, n, v, rfl, rfl, e2 _ _ hl, h0, hn, fun z => ?_, fun p hp => q _ _ _ (Grow.new e2 hp) (.tup upd_same ?_)⟩
        · subst z
          exact q _ Hb H (Grow.refl e2) (.tup hl (.cons rv .nil))
        · have all : ∀ m : Nat, Reps X.K Hb (List.replicate m v) (List.replicate m d) := fun m => by
            induction m with
            | zero => exact .nil
            | succ m ih => rw [List.replicate_succ, List.replicate_succ]; exact .cons rv ih
          exact (all _).mono (ex_new (free_b e2 hp)))
end
end DL

namespace DL
open PySem L2

section
variable {P : Program} {w : World} {K : PySem.W.Frag} {mg : Str → Option Value} {base : Heap} {N : List Str} {sc : List (Str × NameKind)} {k : Nat} {X : Cx} {G : List Sl} {Pw : Po}
variable {a b c e ie kx vx tg iter : Expr} {scope : Scope} {own : List (Str × Nat)} {pos p p2 apos cpos tpos : Pos} {x : Str}

theorem valV_notin {kvs : List (Key × V)} {q : Key} (h : q ∉ kvs.map (·.1)) : valV kvs q = none := by
  induction kvs with
  | nil => rfl
  | cons z r ih =>
    rw [List.map_cons] at h
    rw [valV_neg (fun e => h (by rw [← e]; exact List.mem_cons_self))]
    exact ih fun y => h (List.mem_cons_of_mem _ y)
theorem ed_dk {α : Type} {wi : TI} {g : TG} {tk tv : TE} {vs : List Nat} (l : List α) (enc : α → D) (Gx : α → List Sl) (ks : α → Str) (f : α → V) (hI : EvI K wi G (l.map enc)) (hnd : (l.map ks).Nodup)
    (hg : ∀ x ∈ l, EvTg K g vs (wipeG G vs) (enc x) (Gx x)) (hk : ∀ x ∈ l, EvD K tk (Gx x) (dS (ks x))) (he : ∀ x ∈ l, EvD K tv (Gx x) (.v (f x))) (hz : l.length ≤ 50000) :
    EvD K (tDc wi g tYes tk tv vs) G (.dk (l.map fun x => ((.inr (ks x) : Key), f x))) := fun H0 Hb0 Hb H σ k Q q => hI H0 Hb0 Hb H σ k _ fun J Hb1 H1 g1 it Da hD => by
  have k1 := k.up g1
  refine ⟨fun i m H' => i + m = l.length ∧ ∃ Hb', Grow Hb1 H1 Hb' H' ∧ Hb' Da = none ∧ H' Da = some (.dK ((l.take i).map fun x => ((.inr (ks x) : Key), f x))), ⟨l.length, by omega, Hb1, Grow.newm g1.s hD, free_b g1.s hD, upd_same⟩, ?_⟩
  rintro i m H' ⟨hm, Hb', gi, hb, hx⟩
  obtain ⟨it1, it2⟩ := it Hb' H' gi.b gi.s i
  by_cases hi : i < l.length
  · have hd : (l.map enc)[i]? = some (enc l[i]) := by rw [List.getElem?_map, List.getElem?_eq_getElem hi]; rfl
    have hmem : l[i] ∈ l := List.getElem_mem hi
    obtain ⟨go, yl⟩ := it1 _ hd
    refine .inr ⟨go, fun H2 => ∃ Hb2, Grow Hb1 H1 Hb2 H2 ∧ Hb2 Da = none ∧ H2 Da = some (.dK ((l.take (i + 1)).map fun x => ((.inr (ks x) : Key), f x))), fun H2 ⟨Hb2, a1, a2, a3⟩ => ⟨m - 1, by omega, by omega, Hb2, a1, a2, a3⟩, fun y H2 hy => ?_⟩
    obtain ⟨Hb2, g2, r2⟩ := yl y H2 hy
    have k2 := (k1.up (gi.trans g2)).wipe vs
    have tk' : l.take (i + 1) = l.take i ++ [l[i]] := by rw [List.take_add_one, List.getElem?_eq_getElem hi]; rfl
    refine hg l[i] hmem H0 Hb0 Hb2 H2 (L2.wipe σ vs) y k2 r2 _ fun σ2 k3 w3 => ⟨by rw [w3 vs (fun i hi => hi), wipe_wipe], ?_⟩
    refine hk l[i] hmem H0 Hb0 Hb2 H2 σ2 k3 _ fun z Hb3 H3 g3 r3 => he l[i] hmem H0 Hb0 Hb3 H3 σ2 (k3.up g3) _ fun u Hb4 H4 g4 r4 => ?_
    cases r3
    cases r4
    have g24 := g2.trans (g3.trans g4)
    have h4 := g24.h _ _ hx
    have n4 := g24.out _ _ hx hb
    have gl := gi.trans g24
    have hnew : valV ((l.take i).map fun x => ((.inr (ks x) : Key), f x)) (.inr (ks l[i])) = none := by
      refine valV_notin ?_
      rw [List.map_map]
      intro z
      obtain ⟨y', hy', ey⟩ := List.mem_map.mp z
      have ey' : ks y' = ks l[i] := Sum.inr.inj ey
      have nd2 := hnd
      have e1 : l.map ks = (l.take i).map ks ++ (l.drop i).map ks := by rw [← List.map_append, List.take_append_drop]
      rw [e1, List.nodup_append] at nd2
      refine nd2.2.2 (ks y') (List.mem_map.mpr ⟨y', hy', rfl⟩) (ks l[i]) (List.mem_map.mpr ⟨l[i], ?_, rfl⟩) ey'
      rw [List.drop_eq_getElem_cons hi]
      exact List.mem_cons_self
    refine ⟨_, .inr (ks l[i]), rfl, h4, Evl.sz_lt ?_, Hb4, ⟨gl.b, fun b o q => ?_, fun b o q => ?_, gl.out⟩, n4, ?_⟩
    · rw [List.length_map, List.length_take]; omega
    · rw [upd_ne (ne_of_none q hD)]
      exact gl.h b o q
    · rw [upd_ne (ne_of_none q n4)]
      exact gl.s b o q
    · rw [upd_same, putK_new _ hnew, tk', List.map_append]
      rfl
  · have e : i = l.length := by omega
    have hn : (l.map enc)[i]? = none := by rw [List.getElem?_eq_none_iff, List.length_map]; omega
    rw [e, List.take_length] at hx
    exact .inl ⟨it2 hn, q _ _ H' ((g1.trans gi).freeze (free_b g1.h hD) hb hx) (.dk upd_same)⟩
structure Dck (X : Cx) (K : PySem.W.Frag) (P : Program) (w : World) (mg : Str → Option Value) (base : Heap) (N : List Str) (sc : List (Str × NameKind)) (k : Nat) (own : List (Str × Nat)) (scope : Scope) (kx vx tg iter : Expr) (G : List Sl) (kvs : List (Key × V)) : Prop where
  blk : blkC N (scOf sc) scope own = true
  ex : ∃ (α : Type) (l : List α) (enc : α → D) (Gx : α → List Sl) (ks : α → Str) (f : α → V), kvs = l.map (fun x => ((.inr (ks x) : Key), f x)) ∧ XI X tg iter G (l.map enc) ∧ l.length ≤ 50000 ∧ (l.map ks).Nodup ∧
    ∀ X', Cxt P w K mg base N (relN sc scope.names) k X' → ∀ x ∈ l, XTg X' tg (own.map (·.2)) (wipeG G (own.map (·.2))) (enc x) (Gx x) ∧ XE X' kx (Gx x) (dS (ks x)) ∧ XE X' vx (Gx x) (.v (f x))
/-- y = {k: v for tg in iter}, the keys texts -/
theorem xs_dck {kvs : List (Key × V)} (C : Dfx P w K mg base N sc k X) (i : Nat) {py spos : Pos} (h : Dck X K P w mg base N sc k own scope kx vx tg iter G kvs) (hP : Pw.nx (G.set i (.im (.dk kvs)))) (hN : N[i]? = some x := by rfl) (hl : sc.lookup x = some .local := by rfl)
    (ho : (scope.names.any fun (n, k) => n == x && (k == .local || k == .cell)) = false := by decide +kernel) (hln : (py.line == pos.line) = true := by rfl) (hf : ∀ x, foldedSetIterable iter X.env x = pure x := by intro _; rfl) :
    XS X (.Assign [.Name x py] (.DictComp kx vx [⟨tg, iter, [], 0⟩] scope pos) spos) G Pw := by
  obtain ⟨rfl, rfl, rfl⟩ : X.prog = P ∧ X.w = w ∧ X.K = K := ⟨C.eP, C.ew, C.eK⟩
  obtain ⟨α, l, enc, Gx, ks, f, rfl, hI, hz, hnd, hb⟩ := h.ex
  have kk := scope_fn h.blk
  refine upS (ps_setDc C.calm (by rw [C.eN]; exact C.nd) (by rw [C.eN]; exact hN) (by rw [C.esc]; exact hl) (swd_true C.kd (by rw [C.esc]; exact hl) hln ho) (pi_wp X tg iter) (C.blkOk h.blk) pg_blk pts_nilb pe_blk pe_blk hf)
    fun H0 Hb0 Hb H σ k Dn a _ _ _ => ed_dk l enc Gx ks f hI hnd (fun y hy H0 Hb0 Hb H σ z k r Q f s H1 Ca cl fp => (hb _ (C.blk kk s H1 cl Ca fp) y hy).1 H0 Hb0 Hb H σ z k r Q f)
      (fun y hy H0 Hb0 Hb H σ k Q q s H1 Ca cl fp => (hb _ (C.blk kk s H1 cl Ca fp) y hy).2.1 H0 Hb0 Hb H σ k Q q) (fun y hy H0 Hb0 Hb H σ k Q q s H1 Ca cl fp => (hb _ (C.blk kk s H1 cl Ca fp) y hy).2.2 H0 Hb0 Hb H σ k Q q) hz
      H0 Hb0 Hb H σ k _ fun y Hb1 H1 g r => a _ Hb1 H1 _ hP g.b ((k.up g).put i r)
/-- d[e] -/
theorem xe_kget (C : Cxt P w K mg base N sc k X) {kvs : List (Key × V)} {z : Str} {v : V} (h1 : XE X a G (.dk kvs)) (h2 : XE X b G (dS z)) (hv : valV kvs (.inr z) = some v) (hs : NoSl b := by intro _ _; rfl) : XE X (.Subscript a b pos) G (.v v) :=
  upD (pe_dget C.hu (pe_wp X a) (pe_wp X b) hs) fun H0 Hb0 Hb H σ k Q q => h1 H0 Hb0 Hb H σ k _ fun y Hb1 H1 g1 r1 => h2 H0 Hb0 Hb1 H1 σ (k.up g1) _ fun y2 Hb2 H2 g2 r2 => by
    cases r2
    cases r1 with
    | dk hq => exact ⟨_, v, rfl, by rw [← hv]; exact DGet.k (k := .inr z) (g2.h _ _ (g1.s _ _ hq)), q _ Hb2 H2 (g1.trans g2) (.v v)⟩

def pyB (bs : List Bool) : List PyData := bs.map PyData.bool
def pyS (s : Sv) : PyData := .tuple [.tuple (pyB s.1), .bool s.2]
theorem eqv_bs : ∀ xs ys : List Bool, PyData.eqvAll (pyB xs) (pyB ys) = decide (xs = ys)
  | [], [] => rfl
  | [], _ :: _ => rfl
  | _ :: _, [] => rfl
  | x :: xs, y :: ys => by
    show (PyData.eqv (.bool x) (.bool y) && PyData.eqvAll (pyB xs) (pyB ys)) = _
    rw [eqv_bs xs ys]
    show ((x == y) && decide (xs = ys)) = _
    by_cases e : x = y
    · by_cases f : xs = ys
      · simp [e, f]
      · simp [e, f]
    · simp [e]
theorem eqv_S (s t : Sv) : PyData.eqv (pyS s) (pyS t) = decide (s = t) := by
  show (PyData.eqvAll (pyB s.1) (pyB t.1) && ((s.2 == t.2) && true)) = _
  rw [eqv_bs, Bool.and_true]
  obtain ⟨a, b⟩ := s
  obtain ⟨c, d⟩ := t
  by_cases e : a = c
  · by_cases f : b = d
    · simp [e, f]
    · simp [e, f]
  · simp [e]
theorem lay_bs : ∀ xs : List Bool, PyData.canLayAll0 (pyB xs) = true
  | [] => rfl
  | x :: xs => by
    show (PyData.canLay0 (.bool x) && PyData.canLayAll0 (pyB xs)) = true
    rw [lay_bs xs]
    rfl
theorem dep_bs : ∀ xs : List Bool, PyData.depthAll (pyB xs) = 0
  | [] => rfl
  | x :: xs => by
    show max (PyData.depth (.bool x)) (PyData.depthAll (pyB xs)) = 0
    rw [dep_bs xs]
    rfl
theorem shaped_S (s : Sv) : SeqAt.shaped (pyS s) = true := by
  unfold SeqAt.shaped pyS
  simp only [PyData.canLay0, PyData.canLayAll0, PyData.depth, PyData.depthAll, lay_bs, dep_bs]
  decide
theorem dp_bs {H : Hp} : ∀ {xs : List V} {bs : List Bool}, Reps K H xs (bs.map dB) → DpAll K H xs (pyB bs)
  | _, [], r => by cases r; exact .nil
  | _, b :: bs, r => by
    rw [List.map_cons] at r
    cases r with
    | cons r1 r2 =>
      cases r1
      exact .cons (.bl b) (dp_bs r2)
theorem dp_S {H : Hp} {y : V} {s : Sv} (r : Rep K H y (dSv s)) : Dp K H y (pyS s) := by
  cases r with
  | tup hq rq =>
    cases rq with
    | cons r1 r2 =>
      cases r2 with
      | cons r3 r4 =>
        cases r4
        cases r3
        cases r1 with
        | tup hm rm => exact .tup (SqT.of hq) (.cons (.tup (SqT.of hm) (dp_bs rm)) (.cons (.bl _) .nil))
theorem xc_eqS (C : Cxt P w K mg base N sc k X) {s t : Sv} (h1 : XE X a G (dSv s)) (h2 : XE X b G (dSv t)) : XC X .Eq a b G (decide (s = t)) :=
  upC (pc_op (op_eqD C.hu64) a b) (evg_op mon_D h1 h2 fun Hs Hb H x y e1 e2 q1 q2 Q q =>
    ⟨pyS s, pyS t, dp_S (Rep.mono e2 q1), dp_S (Rep.mono e2 q2), shaped_S s, shaped_S t, by rw [eqv_S]; exact q _ Hb H (Grow.refl e2) (.v _)⟩)

theorem Ok.thin {H0 Hb0 Hb H : Hp} {σ : St} (k : Ok K H0 Hb0 G Hb H σ) {i : Nat} {m : Mu} (e : G[i]? = some (.mu m)) : ∃ x fp, σ[i]? = some (some x) ∧ m.ok Hb H x fp ∧ fp.Nodup ∧ (∀ a ∈ fp, H0 a = none ∧ Hb a = none) ∧
    ∀ (m' : Mu) (Hb' : Hp) (fp' : List Addr), Ex Hb Hb' → Ex Hb' H → (∀ a, a ∉ fp → Hb a = none → Hb' a = none) → (∀ a ∈ fp', a ∈ fp ∧ Hb' a = none) → fp'.Nodup → m'.ok Hb' H x fp' → Ok K H0 Hb0 (G.set i (.mu m')) Hb' H σ := by
  obtain ⟨g, fps, hs, nd, fr⟩ := k
  obtain ⟨ov, fp, a, b, c⟩ := hs.get e
  obtain ⟨x, rfl, r⟩ := c
  have hfp : ∀ a ∈ fp, H0 a = none ∧ Hb a = none := fun a ha => fr a (mem_fl b ha)
  refine ⟨x, fp, a, r, nodup_part nd b, hfp, fun m' Hb' fp' e1 e2 e3 hn nd' r' => ?_⟩
  have hset : σ.set i (some x) = σ := by
    refine List.ext_getElem? fun j => ?_
    rw [List.getElem?_set]
    by_cases hj : i = j
    · subst hj
      rw [if_pos rfl, a, if_pos (List.getElem?_eq_some_iff.mp a).1]
    · rw [if_neg hj]
  have hs2 := (hs.frame (Hb' := Hb') (H' := H) e1 fun _ _ => rfl).set (s := .mu m') (ov := some x) (fp := fp') ⟨x, rfl, r'⟩ i
  rw [hset] at hs2
  refine ⟨⟨ex_tr g.b e1, g.h, e2, fun b' o q n => e3 b' (fun z => by rw [(hfp b' z).1] at q; cases q) (g.out b' o q n)⟩, fps.set i fp', hs2, nodup_set_fl nd nd' fun a' ha j y hj ey hy => fl_apart nd b ey (Ne.symm hj) (hn a' ha).1 hy, fun a' ha => ?_⟩
  obtain ⟨y, hy, hay⟩ := List.mem_flatten.mp ha
  obtain ⟨j, hj⟩ := List.getElem?_of_mem hy
  rw [List.getElem?_set] at hj
  by_cases hij : i = j
  · subst hij
    rw [if_pos rfl] at hj
    split at hj
    · cases hj
      exact ⟨(hfp a' (hn a' hay).1).1, (hn a' hay).2⟩
    · cases hj
  · rw [if_neg hij] at hj
    have fa := fr a' (mem_fl hj hay)
    exact ⟨fa.1, e3 a' (fun z => fl_apart nd b hj hij z hay) fa.2⟩
/-- the base with some objects more -/
def updL (Hb H : Hp) (ls : List Addr) : Hp := fun a => if a ∈ ls then H a else Hb a
theorem dl_thin {Hb H : Hp} : ∀ {raw : List (Sv × Addr × V)} {ls : List Addr} {kvs : List (Sv × List D)}, DlRel K Hb H raw ls kvs → ∀ Hb', Ex Hb Hb' → (∀ a ∈ ls, Hb' a = H a) → DvRel K Hb' raw (kvs.map fun p => (p.1, D.lst p.2))
  | _, _, _, .nil, _, _, _ => .nil
  | _, _, _, .cons h r t, Hb', e, k => by
    rw [List.map_cons]
    exact .cons ⟨rfl, .lst ((k _ List.mem_cons_self).trans h) (r.mono e)⟩ (dl_thin t Hb' e fun a ha => k a (List.mem_cons_of_mem _ ha))
theorem xss_freezeDl {sts : List Stmt} (C : Cxt P w K mg base N sc k X) (i : Nat) {kvs : List (Sv × List D)} (hG : G[i]? = some (.mu (mDl P w K kvs))) (h : XSs X sts (G.set i (.mu (mDict P w K (kvs.map fun p => (p.1, D.lst p.2))))) Pw) : XSs X sts G Pw := fun H0 Hb0 Hb H σ kk => by
  obtain ⟨rfl, rfl, rfl⟩ : X.prog = P ∧ X.w = w ∧ X.K = K := ⟨C.eP, C.ew, C.eK⟩
  obtain ⟨x, fp, hx, ⟨q0, raw, ls, e1, e2, h1, hk, hr⟩, nd, hn, fz⟩ := kk.thin hG
  subst e1 e2
  obtain ⟨n1, n2⟩ := List.nodup_cons.mp nd
  intro Dn c1 c2 c3 c4
  have exb : Ex Hb (updL Hb H ls) := fun b u q => by
    unfold updL
    by_cases z : b ∈ ls
    · rw [(hn b (List.mem_cons_of_mem _ z)).2] at q; cases q
    · rw [if_neg z]; exact q
  refine StD.later h (fz (mDict X.prog X.w X.K (kvs.map fun p => (p.1, D.lst p.2))) (updL Hb H ls) [q0] exb (fun b u q => ?_) (fun b nb q => ?_) (fun b hb => ?_) (by simp) ⟨q0, raw, rfl, rfl, h1, hk.mono exb, dl_thin hr _ exb fun b hb => if_pos hb⟩) exb c1 c2 c3 c4
  · unfold updL at q
    by_cases z : b ∈ ls
    · rw [if_pos z] at q; exact q
    · rw [if_neg z] at q; exact kk.ex b u q
  · unfold updL
    rw [if_neg (fun z => nb (List.mem_cons_of_mem _ z))]
    exact q
  · rw [List.mem_singleton.mp hb]
    refine ⟨List.mem_cons_self, ?_⟩
    unfold updL
    rw [if_neg n1]
    exact (hn q0 List.mem_cons_self).2
end
end DL

namespace DL
open PySem L2

section
variable {K : PySem.W.Frag} {H0 Hb0 Hb H : Hp} {G : List Sl} {σ : St}
theorem fps_mut {fps : List (List Addr)} {i : Nat} {fp : List Addr} {x : V} (g : Grow Hb0 H0 Hb H) (hs : Sls K Hb H σ G fps) (nd : fps.flatten.Nodup) (fr : ∀ a ∈ fps.flatten, H0 a = none ∧ Hb a = none) (b : fps[i]? = some fp) (hx : σ[i]? = some (some x))
    (m' : Mu) (H' : Hp) (fp' : List Addr) (hk : ∀ a o, a ∉ fp → H a = some o → H' a = some o) (hn : ∀ a ∈ fp', a ∈ fp ∨ H a = none) (nd' : fp'.Nodup) (r' : m'.ok Hb H' x fp') : Ok K H0 Hb0 (G.set i (.mu m')) Hb H' σ := by
  have hfp : ∀ a ∈ fp, H0 a = none ∧ Hb a = none := fun a ha => fr a (mem_fl b ha)
  have hset : σ.set i (some x) = σ := by
    refine List.ext_getElem? fun j => ?_
    rw [List.getElem?_set]
    by_cases hj : i = j
    · subst hj
      rw [if_pos rfl, hx, if_pos (List.getElem?_eq_some_iff.mp hx).1]
    · rw [if_neg hj]
  have other : ∀ a ∈ (fps.set i []).flatten, H' a = H a := fun a' ha => by
    rcases mem_set_fl ha with z | z
    · cases z
    obtain ⟨o, q⟩ := hs.has a' z
    rw [q]
    refine hk a' o (fun hf => ?_) q
    obtain ⟨y, hy, hay⟩ := List.mem_flatten.mp ha
    obtain ⟨j, hj⟩ := List.getElem?_of_mem hy
    rw [List.getElem?_set] at hj
    by_cases hij : i = j
    · subst hij
      rw [if_pos rfl] at hj
      split at hj
      · cases hj; cases hay
      · cases hj
    · rw [if_neg hij] at hj
      exact fl_apart nd b hj hij hf hay
  have hs2 : Sls K Hb H' (σ.set i none) (G.set i .un) (fps.set i []) := (hs.set (s := .un) (ov := none) (fp := []) rfl i).frame (ex_refl _) other
  have hs3 := hs2.set (s := .mu m') (ov := some x) (fp := fp') ⟨x, rfl, r'⟩ i
  rw [List.set_set, List.set_set, List.set_set, hset] at hs3
  refine ⟨⟨g.b, fun b' o q => ?_, fun b' o q => ?_, g.out⟩, fps.set i fp', hs3, nodup_set_fl nd nd' fun a' ha j y hj ey hy => ?_, fun a' ha => ?_⟩
  · exact hk b' o (fun z => by rw [(hfp b' z).1] at q; cases q) (g.h b' o q)
  · exact hk b' o (fun z => by rw [(hfp b' z).2] at q; cases q) (g.s b' o q)
  · rcases hn a' ha with z | z
    · exact fl_apart nd b ey (Ne.symm hj) z hy
    · obtain ⟨o, q⟩ := hs.has a' (mem_fl ey hy)
      rw [z] at q; cases q
  · rcases mem_set_fl ha with z | z
    · rcases hn a' z with z | z
      · exact hfp a' z
      · exact ⟨free_b g.h z, free_b g.s z⟩
    · exact fr a' z
/-- the thing at a slot, and how it may change behind some growth -/
theorem Ok.mutup (k : Ok K H0 Hb0 G Hb H σ) {i : Nat} {m : Mu} (e : G[i]? = some (.mu m)) : ∃ x fp, σ[i]? = some (some x) ∧ m.ok Hb H x fp ∧ fp.Nodup ∧ (∀ a ∈ fp, H0 a = none ∧ Hb a = none) ∧ ∀ Hb1 H1, Grow Hb H Hb1 H1 →
    m.ok Hb1 H1 x fp ∧ (∀ a ∈ fp, Hb1 a = none) ∧ ∀ (m' : Mu) (H' : Hp) (fp' : List Addr), (∀ a o, a ∉ fp → H1 a = some o → H' a = some o) → (∀ a ∈ fp', a ∈ fp ∨ H1 a = none) → fp'.Nodup → m'.ok Hb1 H' x fp' → Ok K H0 Hb0 (G.set i (.mu m')) Hb1 H' σ := by
  obtain ⟨g, fps, hs, nd, fr⟩ := k
  obtain ⟨ov, fp, a, b, c⟩ := hs.get e
  obtain ⟨x, rfl, r⟩ := c
  refine ⟨x, fp, a, r, nodup_part nd b, fun a ha => fr a (mem_fl b ha), fun Hb1 H1 g1 => ?_⟩
  have same : ∀ a ∈ fps.flatten, H1 a = H a := fun a ha => by
    obtain ⟨o, q⟩ := hs.has a ha
    rw [q]; exact g1.h a o q
  have fr1 : ∀ a ∈ fps.flatten, H0 a = none ∧ Hb1 a = none := fun a ha => by
    obtain ⟨o, q⟩ := hs.has a ha
    exact ⟨(fr a ha).1, g1.out a o q (fr a ha).2⟩
  refine ⟨m.frame r g1.b fun a ha => same a (mem_fl b ha), fun a ha => (fr1 a (mem_fl b ha)).2, fun m' H' fp' h1 h2 h3 h4 => fps_mut (g.trans g1) (hs.frame g1.b same) nd fr1 b a m' H' fp' h1 h2 h3 h4⟩
end
def appS (kvs : List (Sv × List D)) (s : Sv) (d : D) : List (Sv × List D) := kvs.map fun p => if p.1 = s then (p.1, p.2 ++ [d]) else p
theorem appS_keys (kvs : List (Sv × List D)) (s : Sv) (d : D) : (appS kvs s d).map (·.1) = kvs.map (·.1) := by
  unfold appS
  rw [List.map_map]
  refine List.map_congr_left fun p _ => ?_
  show (if p.1 = s then (p.1, p.2 ++ [d]) else p).1 = p.1
  split <;> rfl
section
variable {K : PySem.W.Frag} {Hb H : Hp}
theorem DlRel.app {st : Sv} {l : Addr} {xs : List V} {z : V} {d : D} {bq : Addr} (hl : H l = some (.lst xs)) (rz : Rep K Hb z d) : ∀ {raw : List (Sv × Addr × V)} {ls : List Addr} {kvs : List (Sv × List D)}, DlRel K Hb H raw ls kvs →
    (kvs.map (·.1)).Nodup → ls.Nodup → lkR raw st = some (bq, .ref l) → DlRel K Hb (upd H l (.lst (xs ++ [z]))) raw ls (appS kvs st d)
  | _, _, _, .nil, _, _, e => by cases e
  | _, _, _, .cons (s := s0) (b := b0) (l := l0) (xs := ys) (ds := ds) (raw := raw) (ls := ls) (kvs := kvs) h r t, nd, nl, e => by
    rw [List.map_cons] at nd
    obtain ⟨nd1, nd2⟩ := List.nodup_cons.mp nd
    obtain ⟨nl1, nl2⟩ := List.nodup_cons.mp nl
    unfold appS
    rw [List.map_cons]
    by_cases q : s0 = st
    · have e2 : lkR ((s0, b0, V.ref l0) :: raw) st = some (b0, .ref l0) := by simp [lkR, List.find?_cons, q]
      rw [e2] at e
      cases e
      rw [hl] at h
      cases h
      rw [if_pos q]
      have same : (kvs.map fun p => if p.1 = st then (p.1, p.2 ++ [d]) else p) = kvs := by
        refine (List.map_congr_left fun p hp => ?_).trans (List.map_id _)
        exact if_neg fun z => nd1 (List.mem_map.mpr ⟨p, hp, z.trans q.symm⟩)
      rw [same]
      exact .cons upd_same (r.append (.cons rz .nil)) (t.frame (ex_refl _) fun a ha => upd_ne fun z => nl1 (by rw [← z]; exact ha))
    · have e2 : lkR ((s0, b0, V.ref l0) :: raw) st = lkR raw st := by simp [lkR, List.find?_cons, q]
      rw [e2] at e
      rw [if_neg q]
      refine .cons ?_ r (DlRel.app hl rz t nd2 nl2 e)
      rcases t.look st with ⟨z1, _⟩ | ⟨b', l', xs', ds', z1, z2, z3, z4, z5⟩
      · rw [e] at z1; cases z1
      · rw [e] at z1
        cases z1
        rw [upd_ne fun z => nl1 (by rw [z]; exact z3)]
        exact h
end
section
variable {P : Program} {w : World} {K : PySem.W.Frag} {mg : Str → Option Value} {base : Heap} {N : List Str} {sc : List (Str × NameKind)} {k : Nat} {X : Cx} {G : List Sl} {Pw : Po}
variable {a b c e ie : Expr} {pos p p2 spos apos cpos tpos : Pos} {x : Str}
/-- x[ie].append(e) -/
theorem xs_dlapp (C : Dfx P w K mg base N sc k X) (i : Nat) {kvs : List (Sv × List D)} {st : Sv} {ds : List D} {d : D} (hG : G[i]? = some (.mu (mDl P w K kvs))) (hi : XE X ie G (dSv st)) (he : XE X e G d) (l : lkD kvs st = some ds) (hnd : (kvs.map (·.1)).Nodup) (hz : ds.length < 100000)
    (hP : Pw.nx (G.set i (.mu (mDl P w K (appS kvs st d))))) (hN : N[i]? = some x := by rfl)
    (hv : VisL sc x := by first | exact Or.inl rfl | exact Or.inr (Or.inl rfl) | exact Or.inr (Or.inr rfl)) (hd : (x == ("__debug__" : Str)) = false := by decide) (hcd : (x == ("__classdict__" : Str)) = false := by decide) (hsl : NoSl ie := by intro _ _; rfl)
    (hbase : attributeBase (.Subscript (.Name x p) ie spos) "append" X.env (eval (.Subscript (.Name x p) ie spos) X.env) = eval (.Subscript (.Name x p) ie spos) X.env := by rfl)
    (hfew : ((backTo p2 (starEach [e] X.env)).all (fun x => !x.1) && (backToKw p2 (keywordEach [] X.env)).all (fun x => x.1.isSome) && decide (([e] : List Expr).length + ([] : List Keyword).length + (if ([] : List Keyword).isEmpty then 0 else 1) < 30)) = true := by rfl)
    (hline : (apos.endLine == p2.line) = true := by rfl) (hs : starEach [e] X.env = (false, eval e X.env) :: starEach [] X.env := by rfl) (hplain : (backTo p2 (starEach [] X.env)).any (·.1) = false := by rfl)
    (hsw : swapsWith (.Call (.Attribute (.Subscript (.Name x p) ie spos) "append" apos) [e] [] p2) none pos.line X.env = pure false := by rfl) :
    XS X (.Expr (.Call (.Attribute (.Subscript (.Name x p) ie spos) "append" apos) [e] [] p2) pos) G Pw := by
  obtain ⟨rfl, rfl, rfl⟩ : X.prog = P ∧ X.w = w ∧ X.K = K := ⟨C.eP, C.ew, C.eK⟩
  refine upS (ps_expr (pe_bm PySem.F.plainAttrs_list PySem.F.slot_list_append PySem.F.type_list_append mt_append (pe_sget C.toCxt.hu64 (pe_var (by rw [C.eN]; exact hN) (C.vis hv) hd hcd) (pe_wp X ie) hsl) (pa_one (e := e) hs) hbase hfew hline hs hplain) hsw) fun H0 Hb0 Hb H σ k Dn f _ _ _ => ?_
  obtain ⟨y, fp, hy, ⟨q0, raw, ls, e1, e2, h1, hk, hr⟩, nd, hn, up⟩ := k.mutup hG
  subst e1 e2
  refine ⟨_, hy, hi H0 Hb0 Hb H σ k _ fun iv Hb1 H1 g ri => ?_⟩
  obtain ⟨bq, rfl⟩ := rep_sv ri
  rcases hr.look st with ⟨_, z2⟩ | ⟨bb, l1, xs, ds', z1, z2, z3, z4, z5⟩
  · rw [z2] at l; cases l
  · rw [z2] at l
    cases l
    have z4' := g.h _ _ z4
    refine ⟨q0, raw, st, bq, bb, .ref l1, rfl, rfl, g.h _ _ h1, (hk.mono g.b).mono g.s, ri.mono g.s, z1, .inl ⟨rfl, _, SqL.of z4'⟩, he H0 Hb0 Hb1 H1 σ (k.up g) _ fun zv Hb2 H2 g2 rz => ?_⟩
    have g12 := g.trans g2
    obtain ⟨_, _, up2⟩ := up Hb2 H2 g12
    obtain ⟨ndq, ndl⟩ := List.nodup_cons.mp nd
    have z42 := g12.h _ _ z4
    have hr2 : DlRel X.K Hb2 H2 raw ls kvs := hr.frame g12.b fun a ha => by
      obtain ⟨o, ho⟩ := hr.has a ha
      rw [ho]; exact g12.h _ _ ho
    refine ⟨l1, xs, zv, rfl, rfl, z42, Evl.sz_lt (by rw [z5.length]; exact hz), f _ Hb2 _ σ hP g12.b (up2 (mDl X.prog X.w X.K (appS kvs st d)) _ (q0 :: ls) (fun b o hb ho => ?_) (fun b hb => .inl hb) nd ⟨q0, raw, ls, rfl, rfl, ?_, hk.mono g12.b, DlRel.app z42 rz hr2 hnd ndl z1⟩)⟩
    · rw [upd_ne (fun z => hb (by rw [z]; exact List.mem_cons_of_mem _ z3))]
      exact ho
    · rw [upd_ne (fun z => ndq (by rw [z]; exact z3))]
      exact g12.h _ _ h1
end
end DL

namespace DL
open PySem L2

/-- what is known of the property x of the class at C -/
def KnP (P : Program) (w : World) (K : PySem.W.Frag) (mg : Str → Option Value) (base : Heap) (C : Addr) (f : Str) (j : Nat) (pre : List D → D → Prop) : Prop :=
  ∃ p g fd ps, Cls K C ∧ PropOf K C f p g ∧ Binds K fd ps [] ∧ FnOk P w K mg base CX0 j g fd ps (spD K pre)
/-- .. of the method -/
def KnM (P : Program) (w : World) (K : PySem.W.Frag) (mg : Str → Option Value) (base : Heap) (C : Addr) (m : Str) (j : Nat) (pre : List D → D → Prop) : Prop :=
  ∃ g fd ps, Cls K C ∧ Meth K C m g ∧ Binds K fd ps [] ∧ FnOk P w K mg base CX0 j g fd ps (spD K pre)
/-- .. of the staticmethod: its record at p, its def at g -/
structure SMet (K : PySem.W.Frag) (C : Addr) (mc : Value) (m : Str) (p g : Addr) : Prop where
  rd : PySem.W.readsIn K C mc = true
  ga : PySem.W.specialIn K (.ref C) "__getattribute__" = some (some (.builtin "type.__getattribute__"))
  at_ : PySem.W.findCls K (.ref C) mc m = some (.get (.builtin "staticmethod.__get__") (.ref p) .none (.ref C))
  rc : ∃ rest, PySem.W.recIn K p "staticmethod" = some (.ref g :: rest)
  kp : PySem.W.keepIn K (.ref g) = true
/-- x: the module's name of the class -/
def KnS (P : Program) (w : World) (K : PySem.W.Frag) (mg : Str → Option Value) (base : Heap) (x m : Str) (j : Nat) (pre : List D → D → Prop) : Prop :=
  ∃ C mc p g fd ps, mg x = some (.ref C) ∧ SMet K C mc m p g ∧ Binds K fd ps [] ∧ FnOk P w K mg base CX0 j g fd ps (spD K pre)
/-- a constant of the class that the module's name x holds -/
def KnC (K : PySem.W.Frag) (mg : Str → Option Value) (x f : Str) (v : V) : Prop := ∃ C mc u, mg x = some (.ref C) ∧ ClX.CRead K C mc ∧ ClX.CVal K C mc f v u

/-- o.m(..), o a class, m a staticmethod -/
def tSMeth (C : Addr) (sp : Sp) (ta : TE) (t : TA) : TE := fun σ H Q => ta σ H fun x H1 => x = .ref C ∧ t σ H1 fun vs H2 => sp vs H2 Q E0
theorem pe_smeth {X : Cx} {CX : CXT} {k : Nat} {C p g : Addr} {mc : Value} {fd : FuncData} {ps : List Str} {sp : Sp} {o e : Expr} {es : List Expr} {m : Str} {pos apos : Pos} {ta : TE} {t : TA} {pl : Sem Bool} (he : PE X o ta) (c : SMet X.K C mc m p g) (F : FnOk X.prog X.w X.K X.mg X.base CX k g fd ps sp) (hr : Room k X.A) (hb : Binds X.K fd ps []) (hx : Passes CX X E0) (ha : PA X (e :: es) t)
    (hst : starEach (e :: es) X.env = (false, eval e X.env) :: starEach es X.env := by rfl) (hpl : (backTo pos (starEach es X.env)).any (·.1) = false := by rfl)
    (ht : eval (.Call (.Attribute o m apos) (e :: es) [] pos) X.env = (do
      let ov ← eval o X.env
      standAt apos.atName
      let (f, first) ← holding [ov] (getMethod ov m pl)
      callWith pos f first (backTo pos (starEach (e :: es) X.env)) (backToKw pos (keywordEach [] X.env))) := by rfl) :
    PE X (.Call (.Attribute o m apos) (e :: es) [] pos) (tSMeth C sp ta t) := by
  refine ⟨fun pins s σ H Q I h => ?_⟩
  refine PySem.W.methodCall_KW (pl := pl) (thn (he.run pins s σ H _ I h) fun u s1 ⟨x, H1, I1, rx, ex, q⟩ => ?_) ht
  subst ex
  obtain rfl : u = Value.ref C := rx
  obtain ⟨rest, hp⟩ := c.rc
  refine PySem.W.method_cls I1.kIn c.ga (PySem.W.cls_bind I1.kIn c.rd c.at_ (wpAny_call (PySem.W.sm_get (s := { s1 with toks := s1.toks + 1 }) I1.kIn hp (PySem.W.handed_on rfl ?_))))
  have I2 := I1.tok (s1.toks + 1)
  refine PySem.W.callWith_K (first := []) (h₀ := X.base) I2.ok.mod.kin c.kp (thn (ha.run pos pins _ σ H1 _ I2 q) fun us s3 ⟨vs, H2, I3, r, q2⟩ => ⟨I3.kIn, ?_⟩) hst hpl
  exact run_fn (us := us) (vs := vs) (dvs := []) F hr hb .nil hx I3 r (by rw [List.append_nil]; exact q2)

theorem repf_put {K : PySem.W.Frag} {H : Hp} {f : Str} {x : V} {d : D} (q : Rep K H x d) : ∀ {vs : List (Str × V)} {fs : List (Str × D)}, RepF K H vs fs → RepF K H (putF f x vs) (putD f d fs)
  | _, _, .nil => .cons q .nil
  | _, _, .cons (f := g) (x := y) (d := e) (vs := vs) (fs := fs) h r => by
    show RepF K H (if g = f then (g, x) :: vs else (g, y) :: putF f x vs) (if g = f then (g, d) :: fs else (g, e) :: putD f d fs)
    split
    · exact .cons q r
    · exact .cons h (repf_put q r)
theorem RepF.lookN {K : PySem.W.Frag} {H : Hp} : ∀ {vs : List (Str × V)} {fs : List (Str × D)} {m : Str}, RepF K H vs fs → fs.lookup m = none → vs.lookup m = none
  | _, _, _, .nil, _ => rfl
  | _, _, m, .cons (f := g) h r, e => by
    rw [List.lookup_cons] at e ⊢
    cases q : (m == g) with
    | true => rw [q] at e; cases e
    | false => rw [q] at e; exact RepF.lookN r e
/-- an own instance, its attributes immutable data -/
def mObj (K : PySem.W.Frag) (x C dx : Addr) (fs : List (Str × D)) : Mu where
  ok := fun Hb H y fp => ∃ vs, y = .ref x ∧ fp = [x] ∧ H x = some (.ins C dx vs) ∧ RepF K Hb vs fs
  frame := fun ⟨vs, e, f, h, r⟩ e1 k => ⟨vs, e, f, (k _ (by rw [f]; exact List.mem_cons_self)).trans h, r.mono e1⟩
  has := fun ⟨vs, e, f, h, r⟩ b hb => by
    rw [f] at hb
    rw [List.mem_singleton.mp hb]
    exact ⟨_, h⟩

section
variable {P : Program} {w : World} {K : PySem.W.Frag} {mg : Str → Option Value} {base : Heap} {N : List Str} {sc : List (Str × NameKind)} {k j : Nat} {X : Cx} {G : List Sl} {Pw : Po} {pre : List D → D → Prop}
variable {a b c e o : Expr} {es : List Expr} {pos p p2 apos cpos tpos : Pos} {x f m : Str} {C : Addr} {fs : List (Str × D)} {d : D} {ds : List D}
/-- e.f -/
theorem xe_fld (Cx : Cxt P w K mg base N sc k X) (h : XE X a G (.obj C fs)) (c : Cls K C) (n : NoAttr K C f) (l : fs.lookup f = some d) (hb : attributeBase a f X.env (eval a X.env) = eval a X.env := by rfl) : XE X (.Attribute a f pos) G d := by
  obtain rfl : X.K = K := Cx.eK
  exact upD (pe_fld (pe_wp X a) hb) fun H0 Hb0 Hb H σ k Q q => h H0 Hb0 Hb H σ k _ fun y Hb1 H1 g r => by
    cases r with
    | @obj q0 _ dx vs _ hq rf =>
      obtain ⟨v, hv, rv⟩ := rf.look l
      exact ⟨q0, C, dx, vs, v, rfl, g.s _ _ hq, c, n, hv, q v Hb1 H1 g rv⟩
/-- e.f, a property -/
theorem xe_prop (Cx : Cxt P w K mg base N sc k X) (Fp : KnP P w K mg base C f j pre) (h : XE X a G (.obj C fs)) (hp : pre [.obj C fs] d) (hj : j + 1 ≤ k := by decide) (hb : attributeBase a f X.env (eval a X.env) = eval a X.env := by rfl) : XE X (.Attribute a f pos) G d := by
  obtain ⟨p, g, fd, ps, c, hpo, hbi, ok⟩ := Fp
  obtain ⟨rfl, rfl, rfl, rfl, rfl⟩ : X.prog = P ∧ X.w = w ∧ X.K = K ∧ X.mg = mg ∧ X.base = base := ⟨Cx.eP, Cx.ew, Cx.eK, Cx.emg, Cx.eB⟩
  exact upD (pe_prop (pe_wp X a) c hpo ok (Cx.room.mono hj) hbi .nil pass0 hb) fun H0 Hb0 Hb H σ k Q q => h H0 Hb0 Hb H σ k _ fun y Hb1 H1 g r => by
    cases r with
    | @obj q0 _ dx vs _ hq rf => exact ⟨q0, dx, vs, rfl, g.s _ _ hq, Hb1, [.obj C fs], d, g.s, .cons (.obj hq rf) .nil, hp, fun z Hb2 H2 g2 r2 => q z Hb2 H2 (g.trans g2) r2⟩
theorem ev_meth {ta : TE} {t : TA} (h : EvD K ta G (.obj C fs)) (ha : EvA K t G ds) (hl : fs.lookup m = none) (hp : pre (.obj C fs :: ds) d) : EvD K (tMeth C m (spD K pre) [] E0 ta t) G d := fun H0 Hb0 Hb H σ k Q q => h H0 Hb0 Hb H σ k _ fun y Hb1 H1 g r => by
  cases r with
  | @obj q0 _ dx vs _ hq rf =>
    refine ⟨q0, dx, vs, rfl, g.s _ _ hq, ?_, ha H0 Hb0 Hb1 H1 σ (k.up g) _ fun xs Hb2 H2 g2 r2 => ⟨Hb2, _, d, g2.s, ?_, hp, fun z Hb3 H3 g3 r3 => q z Hb3 H3 ((g.trans g2).trans g3) r3⟩⟩
    · exact RepF.lookN rf hl
    · rw [List.append_nil]
      exact .cons ((Rep.obj hq rf).mono g2.b) r2
/-- o.m(e, ..) -/
theorem xe_meth (Cx : Cxt P w K mg base N sc k X) (Fm : KnM P w K mg base C m j pre) (h : XE X o G (.obj C fs)) (ha : XA X (e :: es) G ds) (hl : fs.lookup m = none) (hp : pre (.obj C fs :: ds) d) {pl : Sem Bool} (hj : j ≤ k := by decide)
    (hst : starEach (e :: es) X.env = (false, eval e X.env) :: starEach es X.env := by rfl) (hpl : (backTo pos (starEach es X.env)).any (·.1) = false := by rfl)
    (ht : eval (.Call (.Attribute o m apos) (e :: es) [] pos) X.env = (do
      let ov ← eval o X.env
      standAt apos.atName
      let (f, first) ← holding [ov] (getMethod ov m pl)
      callWith pos f first (backTo pos (starEach (e :: es) X.env)) (backToKw pos (keywordEach [] X.env))) := by rfl) : XE X (.Call (.Attribute o m apos) (e :: es) [] pos) G d := by
  obtain ⟨g, fd, ps, c, hm, hbi, ok⟩ := Fm
  obtain ⟨rfl, rfl, rfl, rfl, rfl⟩ : X.prog = P ∧ X.w = w ∧ X.K = K ∧ X.mg = mg ∧ X.base = base := ⟨Cx.eP, Cx.ew, Cx.eK, Cx.emg, Cx.eB⟩
  exact upD (pe_meth (pl := pl) (pe_wp X o) c hm ok (Cx.room.mono hj) hbi .nil pass0 (pa_wp X (e :: es)) hst hpl ht) (ev_meth h ha hl hp)
/-- Cname.m(e, ..), a staticmethod -/
theorem xe_smeth {y : Str} (Cx : Cxt P w K mg base N sc k X) (Fs : KnS P w K mg base y m j pre) (ha : XA X (e :: es) G ds) (hp : pre ds d) {pl : Sem Bool} (hj : j ≤ k := by decide) (hg : GlL sc y := by rfl) (hd : (y == ("__debug__" : Str)) = false := by decide)
    (hst : starEach (e :: es) X.env = (false, eval e X.env) :: starEach es X.env := by rfl) (hpl : (backTo pos (starEach es X.env)).any (·.1) = false := by rfl)
    (ht : eval (.Call (.Attribute (.Name y p) m apos) (e :: es) [] pos) X.env = (do
      let ov ← eval (.Name y p) X.env
      standAt apos.atName
      let (f, first) ← holding [ov] (getMethod ov m pl)
      callWith pos f first (backTo pos (starEach (e :: es) X.env)) (backToKw pos (keywordEach [] X.env))) := by rfl) : XE X (.Call (.Attribute (.Name y p) m apos) (e :: es) [] pos) G d := by
  obtain ⟨C, mc, q, g, fd, ps, hm, c, hbi, ok⟩ := Fs
  obtain ⟨rfl, rfl, rfl, rfl, rfl⟩ : X.prog = P ∧ X.w = w ∧ X.K = K ∧ X.mg = mg ∧ X.base = base := ⟨Cx.eP, Cx.ew, Cx.eK, Cx.emg, Cx.eB⟩
  refine upD (pe_smeth (pl := pl) (pe_glob (v := .ref C) (Cx.gl hg) hm rfl hd) c ok (Cx.room.mono hj) hbi pass0 (pa_wp X (e :: es)) hst hpl ht) fun H0 Hb0 Hb H σ k Q q => ⟨rfl, ha H0 Hb0 Hb H σ k _ fun xs Hb1 H1 g r => ⟨Hb1, ds, d, g.s, r, hp, fun z Hb2 H2 g2 r2 => q z Hb2 H2 (g.trans g2) r2⟩⟩
/-- Cname.f, a constant of the class -/
theorem xe_cval {y : Str} {v : V} (Cx : Cxt P w K mg base N sc k X) (Fc : KnC K mg y f v) (hg : GlL sc y := by rfl) (hd : (y == ("__debug__" : Str)) = false := by decide) (hb : attributeBase (.Name y p) f X.env (eval (.Name y p) X.env) = eval (.Name y p) X.env := by rfl) : XE X (.Attribute (.Name y p) f pos) G (.v v) := by
  obtain ⟨C, mc, u, hm, c1, c2⟩ := Fc
  obtain ⟨rfl, rfl⟩ : X.K = K ∧ X.mg = mg := ⟨Cx.eK, Cx.emg⟩
  exact upD (ClX.pe_cval (pe_glob (v := .ref C) (Cx.gl hg) hm rfl hd) hb) fun H0 Hb0 Hb H σ k Q q => ⟨C, mc, v, u, rfl, c1, c2, q _ Hb H (Grow.refl k.ex) (.v v)⟩

/-- the promise of an __init__ whose attributes are immutable data -/
def spI (K : PySem.W.Frag) (C : Addr) (pre : List D → List (Str × D) → Prop) : Sp := fun vs H Q _ => ∃ H00 Hb ds fs x dx zs, H = upd (upd H00 dx (.own x)) x (.ins C dx []) ∧ H00 x = none ∧ H00 dx = none ∧ dx ≠ x ∧ Ex Hb H00 ∧ vs = .ref x :: zs ∧ Reps K Hb zs ds ∧ pre ds fs ∧
  ∀ Hb' H', Grow Hb H00 Hb' H' → Rep K Hb' (.ref x) (.obj C fs) → Q .non H'
def entryO (K : PySem.W.Frag) (N : List Str) (x C dx : Addr) (ds : List D) : List Sl := .mu (mObj K x C dx []) :: (ds.map Sl.im ++ List.replicate (N.length - (ds.length + 1)) .un)
/-- self.f = e -/
theorem xs_fldO (Cx : Dfx P w K mg base N sc k X) (i : Nat) {y dx : Addr} (hG : G[i]? = some (.mu (mObj K y C dx fs))) (he : XE X e G d) (c : Cls K C) (n : NoAttr K C f) (hz : fs.length < 1000) (hP : Pw.nx (G.set i (.mu (mObj K y C dx (putD f d fs))))) (hN : N[i]? = some x := by rfl)
    (hv : VisL sc x := by first | exact Or.inl rfl | exact Or.inr (Or.inl rfl) | exact Or.inr (Or.inr rfl)) (hd : (x == ("__debug__" : Str)) = false := by decide) (hcd : (x == ("__classdict__" : Str)) = false := by decide)
    (hs : swapsWith e (some (.Attribute (.Name x p) f p2)) pos.line X.env = pure false := by rfl) : XS X (.Assign [.Attribute (.Name x p) f p2] e pos) G Pw := by
  obtain rfl : X.K = K := Cx.eK
  refine upS (ps_fld (pe_var (by rw [Cx.eN]; exact hN) (Cx.vis hv) hd hcd) (pe_wp X e) hs) fun H0 Hb0 Hb H σ k Dn a _ _ _ => he H0 Hb0 Hb H σ k _ fun z Hb1 H1 g rz => ?_
  have k1 := k.up g
  obtain ⟨v, fp, hy, ⟨vs, e1, e2, h1, rf⟩, _, _, up, _⟩ := k1.mut hG
  subst e1 e2
  refine ⟨_, hy, y, C, dx, vs, rfl, h1, c, n, by rw [rf.length]; exact hz, a _ Hb1 _ σ hP g.b (up _ _ [y] (fun b o hb ho => ?_) (fun b hb => .inl hb) (by simp) ⟨putF f z vs, rfl, rfl, upd_same, repf_put rz rf⟩)⟩
  rw [upd_ne (fun z => hb (by rw [z]; simp))]
  exact ho
end
section
variable {P : Program} {w : World} {K : PySem.W.Frag} {mg : Str → Option Value} {base : Heap} {N ps : List Str} {k : Nat} {x qual : Str} {params : Arguments} {body : List Stmt} {scope : Scope} {dvs : List V} {kws : List (Str × V)} {f C : Addr} {fd : FuncData} {pre : List D → List (Str × D) → Prop}
theorem ok_entryO {Hb H00 : Hp} {zs : List V} {ds : List D} {y dx : Addr} (e : Ex Hb H00) (hy : H00 y = none) (hdx : H00 dx = none) (hne : dx ≠ y) (r : Reps K Hb zs ds) :
    Ok K H00 Hb (entryO K N y C dx ds) Hb (upd (upd H00 dx (.own y)) y (.ins C dx [])) (L2.start N (.ref y :: zs)) := by
  have hy2 : upd H00 dx (.own y) y = none := by rw [upd_ne (Ne.symm hne)]; exact hy
  refine ⟨(Grow.newm e hdx).trans (Grow.newm (ex_tr e (ex_new hdx)) hy2), [y] :: (ds.map (fun _ => []) ++ List.replicate (N.length - (ds.length + 1)) []), ?_, ?_, ?_⟩
  · unfold entryO L2.start
    rw [List.length_cons, r.length]
    exact .cons ⟨_, rfl, [], rfl, rfl, upd_same, .nil⟩ (sls_args _ r)
  · rw [List.flatten_cons, fl_nil]; simp
  · rw [List.flatten_cons, fl_nil]
    intro b hb
    rw [List.append_nil] at hb
    rw [List.mem_singleton.mp hb]
    exact ⟨hy, free_b e hy⟩
theorem fn_i (F : FunD K x qual params body scope dvs kws f fd) (S : FnScope N ps scope) (hlen : ∀ ds fs, pre ds fs → ds.length + 1 = ps.length)
    (hb : ∀ X, Dfx P w K mg base N scope.names k X → ∀ ds fs y dx, pre ds fs → XSs X body (entryO K N y C dx ds) { nx := fun G => G[0]? = some (.mu (mObj K y C dx fs)) }) : FnOk P w K mg base CX0 (k + 1) f fd ps (spI K C pre) := by
  refine F.ok S (fun vs H Q E h => ?_) (fun cdv A outer s H vs Q E hr h => ?_)
  · obtain ⟨H00, Hb, ds, fs, y, dx, zs, _, _, _, _, _, e, r, hp, _⟩ := h
    rw [e, List.length_cons, r.length, hlen ds fs hp]
  · obtain ⟨H00, Hb, ds, fs, y, dx, zs, eH, hy, hdx, hne, e, ev, r, hp, q⟩ := h
    subst eH ev
    refine ⟨_, (pss_wp (cxOf CX0 P w K mg base N qual scope f cdv A outer s _ E).nox body).nox, ?_⟩
    refine hb _ (dfx_of S hr) ds fs y dx hp H00 Hb Hb _ _ (ok_entryO e hy hdx hne r) _ ?_ (fun _ _ _ _ z => z.elim) (fun _ _ _ _ z => z.elim) (fun _ _ _ _ z => z.elim)
    intro G' Hb' H' σ' z _ k'
    obtain ⟨v, fp, hv, ⟨vs, e1, e2, h1, rf⟩, _, hn, _, fz⟩ := k'.mut z
    subst e1 e2
    have hbn := (hn y (by simp)).2
    have k2 := fz (upd Hb' y (.ins C dx vs)) (.obj C fs) (ex_new hbn) (fun b u q => by
      by_cases z : b = y
      · subst z; rw [upd_same] at q; rw [← q]; exact h1
      · rw [upd_ne z] at q; exact k'.ex b u q) (fun b nb q => by rw [upd_ne (fun z => nb (by rw [z]; simp))]; exact q) (.obj upd_same (rf.mono (ex_new hbn)))
    exact q _ H' k2.grow (.obj upd_same (rf.mono (ex_new hbn)))
end
/-- five keywords, as the parameters stand -/
def pm5 {α : Type} : List α → List α
  | [a, b, c, d, e] => [a, d, b, c, e]
  | l => l
theorem pm5_reps {K : PySem.W.Frag} {H : Hp} {xs : List V} {ds : List D} (r : Reps K H xs ds) (h : ds.length = 5) : Reps K H (pm5 xs) (pm5 ds) := by
  cases r with
  | nil => cases h
  | cons r1 r =>
    cases r with
    | nil => cases h
    | cons r2 r =>
      cases r with
      | nil => cases h
      | cons r3 r =>
        cases r with
        | nil => cases h
        | cons r4 r =>
          cases r with
          | nil => cases h
          | cons r5 r =>
            cases r with
            | nil => exact .cons r1 (.cons r4 (.cons r2 (.cons r3 (.cons r5 .nil))))
            | cons r6 r => simp at h
/-- what is known of the class that the module's name x holds: made with the five keywords ks -/
def KnI (P : Program) (w : World) (K : PySem.W.Frag) (mg : Str → Option Value) (base : Heap) (x : Str) (C : Addr) (j : Nat) (ks : List Str) (pre : List D → List (Str × D) → Prop) : Prop :=
  ∃ f fd ps g, mg x = some (.ref C) ∧ Mk K C f ∧ KBn K fd ps 1 ks g (fun vs zs => vs ++ pm5 zs) ∧ FnOk P w K mg base CX0 j f fd ps (spI K C pre)
section
variable {P : Program} {w : World} {K : PySem.W.Frag} {mg : Str → Option Value} {base : Heap} {N : List Str} {sc : List (Str × NameKind)} {k j : Nat} {X : Cx} {G : List Sl} {pre : List D → List (Str × D) → Prop} {pos p : Pos} {x : Str} {C : Addr} {fs : List (Str × D)} {zs : List D} {kws : List Keyword} {ks : List Str}
/-- Cname(k = v, ..) -/
theorem xe_makeK (Cx : Cxt P w K mg base N sc k X) (Fi : KnI P w K mg base x C j ks pre) (hk : XK' X kws G zs) (h5 : zs.length = 5) (hl : zs.length = ks.length) (hp : pre (pm5 zs) fs) (hj : j + 1 ≤ k := by decide) (hg : GlL sc x := by rfl)
    (hall : (backToKw pos (keywordEach kws X.env)).all (·.1.isSome) = true := by rfl) (hks : (backToKw pos (keywordEach kws X.env)).filterMap (·.1) = ks := by rfl) (hdb : (x == ("__debug__" : Str)) = false := by decide)
    (hpl : ((backTo pos (starEach [] X.env)).any (·.1) || (backToKw pos (keywordEach kws X.env)).any (·.1.isNone)) = false := by rfl) : XE X (.Call (.Name x p) [] kws pos) G (.obj C fs) := by
  obtain ⟨f, fd, ps, g, hm, M, hb, ok⟩ := Fi
  obtain ⟨rfl, rfl, rfl, rfl, rfl⟩ : X.prog = P ∧ X.w = w ∧ X.K = K ∧ X.mg = mg ∧ X.base = base := ⟨Cx.eP, Cx.ew, Cx.eK, Cx.emg, Cx.eB⟩
  refine upD (pe_makeK0 M ok (Cx.room.mono hj) (Cx.gl hg) hm hb pass0 (pk_wp X kws) hall hks hdb hpl) fun H0 Hb0 Hb H σ k Q q => hk H0 Hb0 Hb H σ k _ fun xs Hb1 H1 g1 r1 => ⟨rfl, r1.length.trans hl, fun y dx hy hdx hne => ?_⟩
  refine ⟨H1, Hb1, pm5 zs, fs, y, dx, pm5 xs, rfl, hy, hdx, hne, g1.s, rfl, pm5_reps r1 h5, hp, fun Hb2 H2 g2 r2 => ⟨rfl, q _ Hb2 H2 (g1.trans g2) r2⟩⟩
end
end DL

namespace DL
open PySem L2

def cutH (H : Hp) (fp : List Addr) : Hp := fun a => if a ∈ fp then none else H a
theorem cut_some {H : Hp} {fp : List Addr} {a : Addr} {o : HO} (h : cutH H fp a = some o) : a ∉ fp ∧ H a = some o := by
  unfold cutH at h
  by_cases z : a ∈ fp
  · rw [if_pos z] at h; cases h
  · rw [if_neg z] at h; exact ⟨z, h⟩
theorem cut_of {H : Hp} {fp : List Addr} {a : Addr} {o : HO} (n : a ∉ fp) (h : H a = some o) : cutH H fp a = some o := by
  unfold cutH
  rw [if_neg n]; exact h
section
variable {K : PySem.W.Frag} {H0 Hb0 Hb H : Hp} {G : List Sl} {σ : St}
/-- the thing at a slot, changed behind some growth, while all else grows -/
theorem Ok.chg (k : Ok K H0 Hb0 G Hb H σ) {i : Nat} {m : Mu} (e : G[i]? = some (.mu m)) : ∃ x fp, σ[i]? = some (some x) ∧ m.ok Hb H x fp ∧ fp.Nodup ∧ (∀ a ∈ fp, Hb a = none) ∧ ∀ Hb1 H1, Grow Hb H Hb1 H1 →
    m.ok Hb1 H1 x fp ∧ (∀ a ∈ fp, Hb1 a = none) ∧ ∀ (m' : Mu) (Hb' H' : Hp) (fp' : List Addr), Grow Hb1 (cutH H1 fp) Hb' H' → (∀ a ∈ fp', a ∈ fp ∨ H1 a = none) → (∀ a ∈ fp', Hb' a = none) → fp'.Nodup → m'.ok Hb' H' x fp' → Ok K H0 Hb0 (G.set i (.mu m')) Hb' H' σ := by
  obtain ⟨g, fps, hs, nd, fr⟩ := k
  obtain ⟨ov, fp, a, b, c⟩ := hs.get e
  obtain ⟨x, rfl, r⟩ := c
  refine ⟨x, fp, a, r, nodup_part nd b, fun a ha => (fr a (mem_fl b ha)).2, fun Hb1 H1 g1 => ?_⟩
  have same : ∀ a ∈ fps.flatten, H1 a = H a := fun a ha => by
    obtain ⟨o, q⟩ := hs.has a ha
    rw [q]; exact g1.h a o q
  have fr1 : ∀ a ∈ fps.flatten, H0 a = none ∧ Hb1 a = none := fun a ha => by
    obtain ⟨o, q⟩ := hs.has a ha
    exact ⟨(fr a ha).1, g1.out a o q (fr a ha).2⟩
  refine ⟨m.frame r g1.b fun a ha => same a (mem_fl b ha), fun a ha => (fr1 a (mem_fl b ha)).2, fun m' Hb' H' fp' g2 hn hb nd' r' => ?_⟩
  have gg := g.trans g1
  have hs1 := hs.frame g1.b same
  have hset : σ.set i (some x) = σ := by
    refine List.ext_getElem? fun j => ?_
    rw [List.getElem?_set]
    by_cases hj : i = j
    · subst hj
      rw [if_pos rfl, a, if_pos (List.getElem?_eq_some_iff.mp a).1]
    · rw [if_neg hj]
  have apart : ∀ a' ∈ (fps.set i []).flatten, a' ∉ fp := fun a' ha hf => by
    obtain ⟨y, hy, hay⟩ := List.mem_flatten.mp ha
    obtain ⟨j, hj⟩ := List.getElem?_of_mem hy
    rw [List.getElem?_set] at hj
    by_cases hij : i = j
    · subst hij
      rw [if_pos rfl] at hj
      split at hj
      · cases hj; cases hay
      · cases hj
    · rw [if_neg hij] at hj
      exact fl_apart nd b hj hij hf hay
  have inl : ∀ a' ∈ (fps.set i []).flatten, a' ∈ fps.flatten := fun a' ha => (mem_set_fl ha).elim (fun z => by cases z) id
  have other : ∀ a' ∈ (fps.set i []).flatten, H' a' = H1 a' := fun a' ha => by
    obtain ⟨o, q⟩ := hs1.has a' (inl a' ha)
    rw [q]
    exact g2.h a' o (cut_of (apart a' ha) q)
  have hs2 : Sls K Hb' H' (σ.set i none) (G.set i .un) (fps.set i []) := (hs1.set (s := .un) (ov := none) (fp := []) rfl i).frame g2.b other
  have hs3 := hs2.set (s := .mu m') (ov := some x) (fp := fp') ⟨x, rfl, r'⟩ i
  rw [List.set_set, List.set_set, List.set_set, hset] at hs3
  have nofp : ∀ b' o, H0 b' = some o → b' ∉ fp := fun b' o q z => by rw [(fr1 b' (mem_fl b z)).1] at q; cases q
  refine ⟨⟨ex_tr gg.b g2.b, fun b' o q => g2.h b' o (cut_of (nofp b' o q) (gg.h b' o q)), g2.s, fun b' o q n => g2.out b' o (cut_of (nofp b' o q) (gg.h b' o q)) (gg.out b' o q n)⟩, fps.set i fp', hs3, nodup_set_fl nd nd' fun a' ha j y hj ey hy => ?_, fun a' ha => ?_⟩
  · rcases hn a' ha with z | z
    · exact fl_apart nd b ey (Ne.symm hj) z hy
    · obtain ⟨o, q⟩ := hs1.has a' (mem_fl ey hy)
      rw [z] at q; cases q
  · obtain ⟨y, hy, hay⟩ := List.mem_flatten.mp ha
    obtain ⟨j, hj⟩ := List.getElem?_of_mem hy
    rw [List.getElem?_set] at hj
    by_cases hij : i = j
    · subst hij
      rw [if_pos rfl] at hj
      split at hj
      · cases hj
        refine ⟨?_, hb a' hay⟩
        rcases hn a' hay with z | z
        · exact (fr1 a' (mem_fl b z)).1
        · exact free_b gg.h z
      · cases hj
    · rw [if_neg hij] at hj
      have ma := mem_fl hj hay
      obtain ⟨o, q⟩ := hs1.has a' ma
      exact ⟨(fr1 a' ma).1, g2.out a' o (cut_of (fun z => fl_apart nd b hj hij z hay) q) (fr1 a' ma).2⟩
end

/-- the search object at x -/
structure SeOk (P : Program) (w : World) (K : PySem.W.Frag) (Cs x dx la da : Addr) (lim : Int) (ss ks : List Sv) (Hb H : Hp) : Prop where
  ob : H x = some (.ins Cs dx [("limit", .int lim), ("states", .ref la), ("sources", .ref da)])
  ls : ∃ xs, H la = some (.lst xs) ∧ Reps K Hb xs (ss.map dSv)
  dc : ∃ raw, H da = some (dSt P w da raw) ∧ KeysAt K Hb raw ∧ raw.map (·.1) = ks
section
variable {P : Program} {w : World} {K : PySem.W.Frag} {Cs x dx la da : Addr} {lim : Int} {ss ks : List Sv} {Hb H Hb' H' : Hp}
theorem SeOk.frame (h : SeOk P w K Cs x dx la da lim ss ks Hb H) (e : Ex Hb Hb') (k : ∀ a ∈ [x, la, da], H' a = H a) : SeOk P w K Cs x dx la da lim ss ks Hb' H' := by
  obtain ⟨h1, ⟨xs, h2, h3⟩, ⟨raw, h4, h5, h6⟩⟩ := h
  exact ⟨(k _ (by simp)).trans h1, ⟨xs, (k _ (by simp)).trans h2, h3.mono e⟩, ⟨raw, (k _ (by simp)).trans h4, h5.mono e, h6⟩⟩
theorem SeOk.has (h : SeOk P w K Cs x dx la da lim ss ks Hb H) : ∀ a ∈ [x, la, da], ∃ o, H a = some o := by
  obtain ⟨h1, ⟨xs, h2, h3⟩, ⟨raw, h4, h5, h6⟩⟩ := h
  intro a ha
  rcases (by simpa using ha : a = x ∨ a = la ∨ a = da) with z | z | z <;> rw [z] <;> exact ⟨_, by assumption⟩
end
def mSeA (P : Program) (w : World) (K : PySem.W.Frag) (Cs x dx la da : Addr) (lim : Int) (ss ks : List Sv) : Mu where
  ok := fun Hb H y fp => y = .ref x ∧ fp = [x, la, da] ∧ SeOk P w K Cs x dx la da lim ss ks Hb H
  frame := fun ⟨e, f, h⟩ e1 k => ⟨e, f, h.frame e1 (by rw [f] at k; exact k)⟩
  has := fun ⟨e, f, h⟩ => by rw [f]; exact h.has
def mSe (P : Program) (w : World) (K : PySem.W.Frag) (Cs : Addr) (lim : Int) (ss : List Sv) : Mu where
  ok := fun Hb H y fp => ∃ x dx la da, y = .ref x ∧ fp = [x, la, da] ∧ SeOk P w K Cs x dx la da lim ss ss Hb H
  frame := fun ⟨x, dx, la, da, e, f, h⟩ e1 k => ⟨x, dx, la, da, e, f, h.frame e1 (by rw [f] at k; exact k)⟩
  has := fun ⟨x, dx, la, da, e, f, h⟩ => by rw [f]; exact h.has
/-- such a thing -/
def IsSe (P : Program) (w : World) (K : PySem.W.Frag) (Cs : Addr) (m : Mu) (lim : Int) (ss ks : List Sv) : Prop := ∀ Hb H y fp, m.ok Hb H y fp → ∃ x dx la da, y = .ref x ∧ fp = [x, la, da] ∧ SeOk P w K Cs x dx la da lim ss ks Hb H
theorem isSeA {P : Program} {w : World} {K : PySem.W.Frag} {Cs x dx la da : Addr} {lim : Int} {ss ks : List Sv} : IsSe P w K Cs (mSeA P w K Cs x dx la da lim ss ks) lim ss ks := fun _ _ _ _ ⟨e, f, h⟩ => ⟨x, dx, la, da, e, f, h⟩
theorem isSe {P : Program} {w : World} {K : PySem.W.Frag} {Cs : Addr} {lim : Int} {ss : List Sv} : IsSe P w K Cs (mSe P w K Cs lim ss) lim ss ss := fun _ _ _ _ h => h
structure SeC (K : PySem.W.Frag) (Cs : Addr) : Prop where
  c : Cls K Cs
  n1 : NoAttr K Cs "limit"
  n2 : NoAttr K Cs "states"
  n3 : NoAttr K Cs "sources"
theorem lkR_mem {raw : List (Sv × Addr × V)} {s : Sv} : (lkR raw s).isSome = decide (s ∈ raw.map (·.1)) := by
  induction raw with
  | nil => rfl
  | cons p r ih =>
    by_cases e : p.1 = s
    · have e1 : lkR (p :: r) s = some p.2 := by simp [lkR, List.find?_cons, e]
      rw [e1, decide_eq_true (by rw [List.map_cons, e]; exact List.mem_cons_self)]
      rfl
    · have e1 : lkR (p :: r) s = lkR r s := by simp [lkR, List.find?_cons, e]
      rw [e1, ih]
      refine decide_eq_decide.mpr ?_
      rw [List.map_cons, List.mem_cons]
      exact ⟨.inr, fun h => h.elim (fun z => absurd z.symm e) id⟩
section
variable {P : Program} {w : World} {K : PySem.W.Frag} {mg : Str → Option Value} {base : Heap} {N : List Str} {sc : List (Str × NameKind)} {k j : Nat} {X : Cx} {G : List Sl} {Pw : Po}
variable {a b c e o : Expr} {es : List Expr} {pos p p2 p3 apos cpos tpos : Pos} {x y : Str} {Cs : Addr} {m : Mu} {lim : Int} {ss ks : List Sv} {st : Sv} {d : D}
theorem xr_ses (C : Cxt P w K mg base N sc k X) (i : Nat) (hG : G[i]? = some (.mu m)) (hm : IsSe P w K Cs m lim ss ks) (c : SeC K Cs) (hN : N[i]? = some x := by rfl) (hv : VisL sc x := by first | exact Or.inl rfl | exact Or.inr (Or.inl rfl) | exact Or.inr (Or.inr rfl))
    (hd : (x == ("__debug__" : Str)) = false := by decide) (hcd : (x == ("__classdict__" : Str)) = false := by decide) (hb : attributeBase (.Name x p) "states" X.env (eval (.Name x p) X.env) = eval (.Name x p) X.env := by rfl) : XR X (.Attribute (.Name x p) "states" pos) G (ss.map dSv) := by
  obtain ⟨rfl, rfl, rfl⟩ : X.prog = P ∧ X.w = w ∧ X.K = K := ⟨C.eP, C.ew, C.eK⟩
  refine upR (pe_fld (pe_var (by rw [C.eN]; exact hN) (C.vis hv) hd hcd) hb) fun H0 Hb0 Hb H σ k Q q => ?_
  obtain ⟨v, fp, hy, hok, _⟩ := k.mut hG
  obtain ⟨x, dx, la, da, e1, e2, h⟩ := hm _ _ _ _ hok
  subst e1
  obtain ⟨xs, h2, h3⟩ := h.ls
  exact ⟨_, hy, x, Cs, dx, _, .ref la, rfl, h.ob, c.c, c.n2, rfl, q _ Hb H (Grow.refl k.ex) ⟨la, xs, rfl, h2, h3⟩⟩
theorem xe_sel (C : Cxt P w K mg base N sc k X) (i : Nat) (hG : G[i]? = some (.mu m)) (hm : IsSe P w K Cs m lim ss ks) (c : SeC K Cs) (hN : N[i]? = some x := by rfl) (hv : VisL sc x := by first | exact Or.inl rfl | exact Or.inr (Or.inl rfl) | exact Or.inr (Or.inr rfl))
    (hd : (x == ("__debug__" : Str)) = false := by decide) (hcd : (x == ("__classdict__" : Str)) = false := by decide) (hb : attributeBase (.Name x p) "limit" X.env (eval (.Name x p) X.env) = eval (.Name x p) X.env := by rfl) : XE X (.Attribute (.Name x p) "limit" pos) G (dI lim) := by
  obtain ⟨rfl, rfl, rfl⟩ : X.prog = P ∧ X.w = w ∧ X.K = K := ⟨C.eP, C.ew, C.eK⟩
  refine upD (pe_fld (pe_var (by rw [C.eN]; exact hN) (C.vis hv) hd hcd) hb) fun H0 Hb0 Hb H σ k Q q => ?_
  obtain ⟨v, fp, hy, hok, _⟩ := k.mut hG
  obtain ⟨x, dx, la, da, e1, e2, h⟩ := hm _ _ _ _ hok
  subst e1
  exact ⟨_, hy, x, Cs, dx, _, .int lim, rfl, h.ob, c.c, c.n1, rfl, q _ Hb H (Grow.refl k.ex) (.v _)⟩
theorem xc_sni (C : Cxt P w K mg base N sc k X) (i : Nat) (hG : G[i]? = some (.mu m)) (hm : IsSe P w K Cs m lim ss ks) (c : SeC K Cs) (ha : XE X a G (dSv st)) (hN : N[i]? = some x := by rfl) (hv : VisL sc x := by first | exact Or.inl rfl | exact Or.inr (Or.inl rfl) | exact Or.inr (Or.inr rfl))
    (hd : (x == ("__debug__" : Str)) = false := by decide) (hcd : (x == ("__classdict__" : Str)) = false := by decide) (hb : attributeBase (.Name x p) "sources" X.env (eval (.Name x p) X.env) = eval (.Name x p) X.env := by rfl) : XC X .NotIn a (.Attribute (.Name x p) "sources" pos) G (!decide (st ∈ ks)) := by
  obtain ⟨rfl, rfl, rfl⟩ : X.prog = P ∧ X.w = w ∧ X.K = K := ⟨C.eP, C.ew, C.eK⟩
  refine upC ⟨fun pins s σ H Q I hw => bin (pe_wp X a) (pe_fld (pe_var (by rw [C.eN]; exact hN) (C.vis hv) hd hcd) hb) I hw fun v u s2 x y H2 I2 rx ry q => op_sni C.hu64 pins s2 σ H2 x y v u Q I2 rx ry q⟩ fun H0 Hb0 Hb H σ k Q q => ha H0 Hb0 Hb H σ k _ fun z Hb1 H1 g rz => ?_
  obtain ⟨b, rfl⟩ := rep_sv rz
  obtain ⟨v, fp, hy, hok, _⟩ := (k.up g).mut hG
  obtain ⟨x, dx, la, da, e1, e2, h⟩ := hm _ _ _ _ hok
  subst e1
  obtain ⟨raw, h4, h5, h6⟩ := h.dc
  refine ⟨_, hy, x, Cs, dx, _, .ref da, rfl, h.ob, c.c, c.n3, rfl, da, raw, st, b, rfl, rfl, h4, h5.mono g.s, rz.mono g.s, ?_⟩
  rw [lkR_mem, h6]
  exact q _ Hb1 H1 g (.v _)
/-- self.sources[ie] = e -/
theorem xs_sput {ie : Expr} {z dz la da : Addr} (C : Dfx P w K mg base N sc k X) (i : Nat) (hG : G[i]? = some (.mu (mSeA P w K Cs z dz la da lim ss ks))) (c : SeC K Cs) (hzd : da ≠ z ∧ da ≠ la) (he : XE X e G d) (hi : XE X ie G (dSv st)) (hnew : st ∉ ks) (hz : ks.length < 100000) (hP : Pw.nx (G.set i (.mu (mSeA P w K Cs z dz la da lim ss (ks ++ [st]))))) (hN : N[i]? = some x := by rfl)
    (hv : VisL sc x := by first | exact Or.inl rfl | exact Or.inr (Or.inl rfl) | exact Or.inr (Or.inr rfl)) (hd : (x == ("__debug__" : Str)) = false := by decide) (hcd : (x == ("__classdict__" : Str)) = false := by decide)
    (hb : attributeBase (.Name x p) "sources" X.env (eval (.Name x p) X.env) = eval (.Name x p) X.env := by rfl)
    (ha : ∀ v, assign (.Subscript (.Attribute (.Name x p) "sources" apos) ie p2) X.env v = (do
      let ov ← holding [v] (eval (.Attribute (.Name x p) "sources" apos) X.env)
      let iv ← holding [v, ov] (eval ie X.env)
      standAt p2
      holding [v, ov, iv] (setItem ov iv v)
      release [v, ov, iv] []) := by intro _; rfl)
    (hs : swapsWithSole [.Subscript (.Attribute (.Name x p) "sources" apos) ie p2] e pos.line X.env = pure false := by rfl) (hw : swappedStores [.Subscript (.Attribute (.Name x p) "sources" apos) ie p2] e X.env = pure none := by rfl)
    (h1 : (assignEach [.Subscript (.Attribute (.Name x p) "sources" apos) ie p2] X.env).map (·.2) = [assign (.Subscript (.Attribute (.Name x p) "sources" apos) ie p2) X.env] := by rfl) :
    XS X (.Assign [.Subscript (.Attribute (.Name x p) "sources" apos) ie p2] e pos) G Pw := by
  obtain ⟨rfl, rfl, rfl⟩ : X.prog = P ∧ X.w = w ∧ X.K = K := ⟨C.eP, C.ew, C.eK⟩
  refine upS (ps_asg (pe_wp X e) (pg_sub (pe_fld (pe_var (by rw [C.eN]; exact hN) (C.vis hv) hd hcd) hb) (pe_wp X ie) (pset_s C.toCxt.hu64) ha) hs hw h1) fun H0 Hb0 Hb H σ k Dn f _ _ _ => he H0 Hb0 Hb H σ k _ fun v Hb1 H1 g rv => ?_
  have k1 := k.up g
  obtain ⟨v0, fp, hy, ⟨e1, e2, hse⟩, nd, _, up⟩ := k1.mutup hG
  subst e1 e2
  refine ⟨_, hy, z, Cs, dz, _, .ref da, rfl, hse.ob, c.c, c.n3, rfl, hi H0 Hb0 Hb1 H1 σ k1 _ fun iv Hb2 H2 g2 ri => ?_⟩
  obtain ⟨bq, rfl⟩ := rep_sv ri
  obtain ⟨⟨_, _, hse2⟩, _, up2⟩ := up Hb2 H2 g2
  obtain ⟨raw, h4, h5, h6⟩ := hse2.dc
  obtain ⟨xs, h2, h3⟩ := hse2.ls
  have hn : lkR raw st = none := by
    have := lkR_mem (raw := raw) (s := st)
    rw [h6, decide_eq_false hnew] at this
    exact Option.not_isSome_iff_eq_none.mp (by rw [this]; decide)
  refine ⟨da, raw, st, bq, rfl, rfl, h4, h5.mono g2.s, ri.mono g2.s, Evl.sz_lt (by rw [← h6, List.length_map] at hz; exact hz), f _ Hb2 _ σ hP (ex_tr g.b g2.b) (up2 _ _ [z, la, da] (fun q o hq ho => ?_) (fun q hq => .inl hq) nd ⟨rfl, rfl, ⟨?_, ⟨xs, ?_, h3⟩, ⟨putR raw st bq v, upd_same, h5.put ri v, ?_⟩⟩⟩)⟩
  · rw [upd_ne (fun z => hq (by rw [z]; simp))]; exact ho
  · rw [upd_ne (Ne.symm hzd.1)]; exact hse2.ob
  · rw [upd_ne (Ne.symm hzd.2)]; exact h2
  · rw [putR_new bq v hn, List.map_append, h6]
    rfl
/-- self.states.append(e) -/
theorem xs_sapp {z dz la da : Addr} (C : Dfx P w K mg base N sc k X) (i : Nat) (hG : G[i]? = some (.mu (mSeA P w K Cs z dz la da lim ss ks))) (c : SeC K Cs) (hzd : la ≠ z ∧ la ≠ da) (he : XE X e G (dSv st)) (hz : ss.length < 100000) (hP : Pw.nx (G.set i (.mu (mSeA P w K Cs z dz la da lim (ss ++ [st]) ks)))) (hN : N[i]? = some x := by rfl)
    (hv : VisL sc x := by first | exact Or.inl rfl | exact Or.inr (Or.inl rfl) | exact Or.inr (Or.inr rfl)) (hd : (x == ("__debug__" : Str)) = false := by decide) (hcd : (x == ("__classdict__" : Str)) = false := by decide)
    (hb : attributeBase (.Name x p) "states" X.env (eval (.Name x p) X.env) = eval (.Name x p) X.env := by rfl)
    (hbase : attributeBase (.Attribute (.Name x p) "states" p3) "append" X.env (eval (.Attribute (.Name x p) "states" p3) X.env) = eval (.Attribute (.Name x p) "states" p3) X.env := by rfl)
    (hfew : ((backTo p2 (starEach [e] X.env)).all (fun x => !x.1) && (backToKw p2 (keywordEach [] X.env)).all (fun x => x.1.isSome) && decide (([e] : List Expr).length + ([] : List Keyword).length + (if ([] : List Keyword).isEmpty then 0 else 1) < 30)) = true := by rfl)
    (hline : (apos.endLine == p2.line) = true := by rfl) (hs : starEach [e] X.env = (false, eval e X.env) :: starEach [] X.env := by rfl) (hplain : (backTo p2 (starEach [] X.env)).any (·.1) = false := by rfl)
    (hsw : swapsWith (.Call (.Attribute (.Attribute (.Name x p) "states" p3) "append" apos) [e] [] p2) none pos.line X.env = pure false := by rfl) :
    XS X (.Expr (.Call (.Attribute (.Attribute (.Name x p) "states" p3) "append" apos) [e] [] p2) pos) G Pw := by
  obtain ⟨rfl, rfl, rfl⟩ : X.prog = P ∧ X.w = w ∧ X.K = K := ⟨C.eP, C.ew, C.eK⟩
  refine upS (ps_expr (pe_bm PySem.F.plainAttrs_list PySem.F.slot_list_append PySem.F.type_list_append mt_append (pe_fld (pe_var (by rw [C.eN]; exact hN) (C.vis hv) hd hcd) hb) (pa_one (e := e) hs) hbase hfew hline hs hplain) hsw) fun H0 Hb0 Hb H σ k Dn f _ _ _ => ?_
  obtain ⟨v0, fp, hy, ⟨e1, e2, hse⟩, nd, _, up⟩ := k.mutup hG
  subst e1 e2
  obtain ⟨xs, h2, h3⟩ := hse.ls
  refine ⟨_, hy, z, Cs, dz, _, .ref la, rfl, hse.ob, c.c, c.n2, rfl, .inl ⟨rfl, _, SqL.of h2⟩, he H0 Hb0 Hb H σ k _ fun v Hb1 H1 g rv => ?_⟩
  obtain ⟨⟨_, _, hse1⟩, _, up1⟩ := up Hb1 H1 g
  have h2' := g.h _ _ h2
  refine ⟨la, xs, v, rfl, rfl, h2', Evl.sz_lt (by rw [h3.length, List.length_map]; exact hz), f _ Hb1 _ σ hP g.b (up1 _ _ [z, la, da] (fun q o hq ho => ?_) (fun q hq => .inl hq) nd ⟨rfl, rfl, ⟨?_, ⟨xs ++ [v], upd_same, ?_⟩, ?_⟩⟩)⟩
  · rw [upd_ne (fun z => hq (by rw [z]; simp))]; exact ho
  · rw [upd_ne (Ne.symm hzd.1)]; exact hse1.ob
  · rw [List.map_append]
    exact (h3.mono g.b).append (.cons rv .nil)
  · obtain ⟨raw, h4, h5, h6⟩ := hse1.dc
    exact ⟨raw, by rw [upd_ne (Ne.symm hzd.2)]; exact h4, h5, h6⟩
end
end DL

namespace DL
open PySem L2

def noteS (ss : List Sv) (s : Sv) : List Sv := if s ∈ ss then ss else ss ++ [s]
def spNote (P : Program) (w : World) (K : PySem.W.Frag) (Cs : Addr) : Sp := fun vs H Q _ => ∃ Hb x dx la da lim ss st d y z, vs = [V.ref x, y, z] ∧ Ex Hb H ∧ Rep K Hb y (dSv st) ∧ Rep K Hb z d ∧ SeOk P w K Cs x dx la da lim ss ss Hb H ∧ [x, la, da].Nodup ∧ (∀ a ∈ [x, la, da], Hb a = none) ∧
  (st ∉ ss → (ss.length : Int) ≠ lim) ∧ ss.length < 100000 ∧ ∀ Hb' H', Grow Hb (cutH H [x, la, da]) Hb' H' → (∀ a ∈ [x, la, da], Hb' a = none) → SeOk P w K Cs x dx la da lim (noteS ss st) (noteS ss st) Hb' H' → Q .non H'
/-- the promise of Search.__init__ -/
def spSI (P : Program) (w : World) (Cs : Addr) : Sp := fun vs H Q _ => ∃ x dx lim, vs = [V.ref x, .int lim] ∧ H x = some (.ins Cs dx []) ∧ ∀ la da H', H la = none → H da = none → la ≠ da → (∀ a o, a ≠ x → H a = some o → H' a = some o) →
  H' x = some (.ins Cs dx [("limit", .int lim), ("states", .ref la), ("sources", .ref da)]) → H' la = some (.lst []) → H' da = some (dSt P w da []) → Q .non H'
section
variable {P : Program} {w : World} {K : PySem.W.Frag} {mg : Str → Option Value} {base : Heap} {N ps : List Str} {k : Nat} {x qual : Str} {params : Arguments} {body : List Stmt} {scope : Scope} {dvs : List V} {kws : List (Str × V)} {f Cs : Addr} {fd : FuncData}
theorem ok_note {Hb H : Hp} {y z : V} {st : Sv} {d : D} {q dx la da : Addr} {lim : Int} {ss : List Sv} (e : Ex Hb H) (r1 : Rep K Hb y (dSv st)) (r2 : Rep K Hb z d) (h : SeOk P w K Cs q dx la da lim ss ss Hb H) (nd : [q, la, da].Nodup) (hn : ∀ a ∈ [q, la, da], Hb a = none) :
    Ok K (cutH H [q, la, da]) Hb [.mu (mSeA P w K Cs q dx la da lim ss ss), .im (dSv st), .im d] Hb H [some (.ref q), some y, some z] := by
  refine ⟨⟨ex_refl _, fun a o h => (cut_some h).2, e, fun a o h n => n⟩, [[q, la, da], [], []], .cons ⟨_, rfl, rfl, rfl, h⟩ (.cons ⟨rfl, _, rfl, r1⟩ (.cons ⟨rfl, _, rfl, r2⟩ .nil)), by simpa using nd, fun a ha => ?_⟩
  have ha : a ∈ [q, la, da] := by simpa using ha
  exact ⟨by unfold cutH; rw [if_pos ha], hn a ha⟩
theorem fn_note (F : FunD K x qual params body scope dvs kws f fd) (S : FnScope N ps scope) (hl : ps.length = 3) (hN : N.length = 3)
    (hb : ∀ X, Dfx P w K mg base N scope.names k X → ∀ (q dx la da : Addr) (lim : Int) (ss : List Sv) (st : Sv) (d : D), [q, la, da].Nodup → (st ∉ ss → (ss.length : Int) ≠ lim) → ss.length < 100000 →
      XSs X body [.mu (mSeA P w K Cs q dx la da lim ss ss), .im (dSv st), .im d] { nx := fun G => G[0]? = some (.mu (mSeA P w K Cs q dx la da lim (noteS ss st) (noteS ss st))) }) : FnOk P w K mg base CX0 (k + 1) f fd ps (spNote P w K Cs) := by
  refine F.ok S (fun vs H Q E h => ?_) (fun cdv A outer s H vs Q E hr h => ?_)
  · obtain ⟨Hb, q, dx, la, da, lim, ss, st, d, y, z, e, _⟩ := h
    rw [e, hl]
    rfl
  · obtain ⟨Hb, q, dx, la, da, lim, ss, st, d, y, z, ev, e, r1, r2, hse, nd, hn, hc, hz, qq⟩ := h
    subst ev
    refine ⟨_, (pss_wp (cxOf CX0 P w K mg base N qual scope f cdv A outer s _ E).nox body).nox, ?_⟩
    have es : L2.start N [V.ref q, y, z] = [some (.ref q), some y, some z] := by
      unfold L2.start
      rw [hN]
      rfl
    rw [es]
    refine hb _ (dfx_of S hr) q dx la da lim ss st d nd hc hz _ Hb Hb H _ (ok_note e r1 r2 hse nd hn) _ ?_ (fun _ _ _ _ z => z.elim) (fun _ _ _ _ z => z.elim) (fun _ _ _ _ z => z.elim)
    intro G' Hb' H' σ' zz _ k'
    obtain ⟨v, fp, hv, ⟨e1, e2, h1⟩, _, hn2, _⟩ := k'.mut zz
    subst e1 e2
    exact qq Hb' H' k'.grow (fun a ha => (hn2 a ha).2) h1
end
section
variable {P : Program} {w : World} {K : PySem.W.Frag} {mg : Str → Option Value} {base : Heap} {N : List Str} {sc : List (Str × NameKind)} {k j : Nat} {X : Cx} {G : List Sl} {Pw : Po}
variable {a b c e e1 e2 : Expr} {pos p p2 p3 apos cpos tpos : Pos} {x y : Str} {Cs : Addr} {lim : Int} {ss : List Sv} {st : Sv} {d : D}
/-- what is known of Search.note -/
def KnN (P : Program) (w : World) (K : PySem.W.Frag) (mg : Str → Option Value) (base : Heap) (Cs : Addr) (j : Nat) : Prop := ∃ g fd ps, SeC K Cs ∧ Meth K Cs "note" g ∧ Binds K fd ps [] ∧ FnOk P w K mg base CX0 j g fd ps (spNote P w K Cs)
/-- search.note(e1, e2) -/
theorem xs_note (C : Dfx P w K mg base N sc k X) (Fn : KnN P w K mg base Cs j) (i : Nat) (hG : G[i]? = some (.mu (mSe P w K Cs lim ss))) (h1 : XE X e1 G (dSv st)) (h2 : XE X e2 G d) (hc : st ∉ ss → (ss.length : Int) ≠ lim) (hz : ss.length < 100000) (hP : Pw.nx (G.set i (.mu (mSe P w K Cs lim (noteS ss st)))))
    {pl : Sem Bool} (hj : j ≤ k := by decide) (hN : N[i]? = some x := by rfl) (hv : VisL sc x := by first | exact Or.inl rfl | exact Or.inr (Or.inl rfl) | exact Or.inr (Or.inr rfl)) (hd : (x == ("__debug__" : Str)) = false := by decide) (hcd : (x == ("__classdict__" : Str)) = false := by decide)
    (hst : starEach [e1, e2] X.env = (false, eval e1 X.env) :: starEach [e2] X.env := by rfl) (hst2 : starEach [e2] X.env = (false, eval e2 X.env) :: starEach [] X.env := by rfl) (hpl : (backTo cpos (starEach [e2] X.env)).any (·.1) = false := by rfl)
    (ht : eval (.Call (.Attribute (.Name x p) "note" apos) [e1, e2] [] cpos) X.env = (do
      let ov ← eval (.Name x p) X.env
      standAt apos.atName
      let (f, first) ← holding [ov] (getMethod ov "note" pl)
      callWith cpos f first (backTo cpos (starEach [e1, e2] X.env)) (backToKw cpos (keywordEach [] X.env))) := by rfl)
    (hsw : swapsWith (.Call (.Attribute (.Name x p) "note" apos) [e1, e2] [] cpos) none pos.line X.env = pure false := by rfl) :
    XS X (.Expr (.Call (.Attribute (.Name x p) "note" apos) [e1, e2] [] cpos) pos) G Pw := by
  obtain ⟨g, fd, ps, sc', hm, hbi, ok⟩ := Fn
  obtain ⟨rfl, rfl, rfl, rfl, rfl⟩ : X.prog = P ∧ X.w = w ∧ X.K = K ∧ X.mg = mg ∧ X.base = base := ⟨C.eP, C.ew, C.eK, C.emg, C.eB⟩
  refine upS (ps_expr (pe_meth (pl := pl) (pe_var (by rw [C.eN]; exact hN) (C.vis hv) hd hcd) sc'.c hm ok (C.room.mono hj) hbi .nil pass0 (pa_two hst hst2) hst hpl ht) hsw) fun H0 Hb0 Hb H σ k Dn f _ _ _ => ?_
  obtain ⟨v0, fp, hy, ⟨q, dx, la, da, q1, q2, hse⟩, nd, hn, up⟩ := k.chg hG
  subst q1 q2
  refine ⟨_, hy, q, dx, _, rfl, hse.ob, rfl, h1 H0 Hb0 Hb H σ k _ fun y1 Hb1 H1 g1 r1 => h2 H0 Hb0 Hb1 H1 σ (k.up g1) _ fun y2 Hb2 H2 g2 r2 => ?_⟩
  have g12 := g1.trans g2
  obtain ⟨⟨q', dx', la', da', q1', q2', hse2⟩, hn2, up2⟩ := up Hb2 H2 g12
  cases q1'
  cases q2'
  refine ⟨Hb2, q, dx', la, da, lim, ss, st, d, y1, y2, rfl, g2.s, r1.mono g2.b, r2, hse2, nd, hn2, hc, hz, fun Hb3 H3 g3 hn3 hse3 => ?_⟩
  exact f _ Hb3 H3 σ hP (ex_tr g12.b g3.b) (up2 (mSe X.prog X.w X.K Cs lim (noteS ss st)) Hb3 H3 [q, la, da] g3 (fun a ha => .inl ha) hn3 nd ⟨q, dx', la, da, rfl, rfl, hse3⟩)

theorem fn_si {ps : List Str} {x qual : Str} {params : Arguments} {scope : Scope} {dvs : List V} {kws : List (Str × V)} {f : Addr} {fd : FuncData} {q1 q2 q3 q4 q5 q6 q7 q8 q9 q10 q11 q12 : Pos}
    (F : FunD K x qual params [.Assign [.Attribute (.Name "self" q1) "limit" q2] (.Name "limit" q3) q4, .Assign [.Attribute (.Name "self" q5) "states" q6] (.List [] q7) q8, .Assign [.Attribute (.Name "self" q9) "sources" q10] (.Dict [] [] q11) q12] scope dvs kws f fd)
    (S : FnScope ["self", "limit"] ps scope) (hl : ps.length = 2) (c : SeC K Cs) (hv0 : VisL scope.names "self") (hv1 : VisL scope.names "limit") : FnOk P w K mg base CX0 (k + 1) f fd ps (spSI P w Cs) := by
  refine F.ok S (fun vs H Q E h => ?_) (fun cdv A outer s H vs Q E hr h => ?_)
  · obtain ⟨q, dx, lim, e, _⟩ := h
    rw [e, hl]
    rfl
  · obtain ⟨q, dx, lim, ev, h0, qq⟩ := h
    subst ev
    have C := dfx_of (P := P) (w := w) (K := K) (mg := mg) (base := base) (qual := qual) (f := f) (cdv := cdv) (A := A) (outer := outer) (s := s) (H := H) (E := E) S hr
    refine ⟨_, (pss_cons (ps_fld (pe_var (i := 0) (by rw [C.eN]; rfl) (C.vis hv0)) (pe_var (i := 1) (by rw [C.eN]; rfl) (C.vis hv1)) rfl) (pss_cons (ps_fld (pe_var (i := 0) (by rw [C.eN]; rfl) (C.vis hv0)) (pe_lst pa_nil) rfl) (pss_one (ps_fld (pe_var (i := 0) (by rw [C.eN]; rfl) (C.vis hv0)) pe_snew rfl)))).nox, ?_⟩
    refine ⟨.int lim, rfl, .ref q, rfl, q, Cs, dx, [], rfl, h0, c.c, c.n1, by simp, ?_⟩
    refine ⟨Evl.sz_of (by simp), fun la hla => ⟨.ref q, rfl, q, Cs, dx, [("limit", .int lim)], rfl, ?_, c.c, c.n2, by simp, ?_⟩⟩
    · have nq : q ≠ la := fun z => by rw [← z, upd_same] at hla; cases hla
      rw [upd_ne nq, upd_same]
      rfl
    · intro da hda
      have nq : q ≠ la := fun z => by rw [← z, upd_same] at hla; cases hla
      have nqd : q ≠ da := fun z => by rw [← z, upd_same] at hda; cases hda
      have hda1 := hda
      rw [upd_ne (Ne.symm nqd)] at hda1
      have nld : la ≠ da := fun z => by rw [← z, upd_same] at hda1; cases hda1
      rw [upd_ne (Ne.symm nld), upd_ne (Ne.symm nqd)] at hda1
      rw [upd_ne (Ne.symm nq)] at hla
      refine ⟨.ref q, rfl, q, Cs, dx, [("limit", .int lim), ("states", .ref la)], rfl, ?_, c.c, c.n3, by simp, ?_⟩
      · rw [upd_ne nqd, upd_same]
        rfl
      · refine qq la da _ hla hda1 nld (fun b o hb ho => ?_) upd_same ?_ ?_
        · have nl : b ≠ la := fun z => by rw [z, hla] at ho; cases ho
          have nd : b ≠ da := fun z => by rw [z, hda1] at ho; cases ho
          rw [upd_ne hb, upd_ne nd, upd_ne hb, upd_ne nl, upd_ne hb]
          exact ho
        · rw [upd_ne (Ne.symm nq), upd_ne nld, upd_ne (Ne.symm nq), upd_same]
        · rw [upd_ne (Ne.symm nqd), upd_same]
          rfl
/-- what is known of the class that the name x holds -/
def KnSI (P : Program) (w : World) (K : PySem.W.Frag) (mg : Str → Option Value) (base : Heap) (x : Str) (Cs : Addr) (j : Nat) : Prop :=
  ∃ f fd ps, mg x = some (.ref Cs) ∧ Mk K Cs f ∧ Binds K fd ps [] ∧ FnOk P w K mg base CX0 j f fd ps (spSI P w Cs)
theorem xm_search (C : Cxt P w K mg base N sc k X) (Fi : KnSI P w K mg base x Cs j) (h : XE X e G (dI lim)) (hj : j + 1 ≤ k := by decide) (hg : GlL sc x := by rfl) (hdb : (x == ("__debug__" : Str)) = false := by decide)
    (he : starEach [e] X.env = (false, eval e X.env) :: starEach [] X.env := by rfl) (hpl : (backTo pos (starEach [] X.env)).any (·.1) = false := by rfl) : XM X (.Call (.Name x p) [e] [] pos) G (mSe P w K Cs lim []) := by
  obtain ⟨f, fd, ps, hm, M, hb, ok⟩ := Fi
  obtain ⟨rfl, rfl, rfl, rfl, rfl⟩ : X.prog = P ∧ X.w = w ∧ X.K = K ∧ X.mg = mg ∧ X.base = base := ⟨C.eP, C.ew, C.eK, C.emg, C.eB⟩
  refine upM (pe_make M ok (C.room.mono hj) (C.gl hg) hm hb .nil pass0 (pa_one he) hdb he hpl) fun H0 Hb0 Hb H σ k Q q => h H0 Hb0 Hb H σ k _ fun v Hb1 H1 g1 r1 => ?_
  cases r1
  intro z dz hz hdz hne
  refine ⟨z, dz, lim, rfl, upd_same, fun la da H' hla hda hld hk h1 h2 h3 => ⟨rfl, ?_⟩⟩
  have nz : la ≠ z := fun e => by rw [e, upd_same] at hla; cases hla
  have nz2 : da ≠ z := fun e => by rw [e, upd_same] at hda; cases hda
  have oth : ∀ b, b ≠ z → upd (upd H1 dz (.own z)) z (.ins Cs dz []) b = none → H1 b = none := fun b hb e => by
    rw [upd_ne hb] at e
    by_cases y : b = dz
    · rw [y, upd_same] at e; cases e
    · rw [upd_ne y] at e; exact e
  have ex : Ex H1 H' := fun b o ho => by
    have n1 : b ≠ z := fun e => by rw [e, hz] at ho; cases ho
    have n2 : b ≠ dz := fun e => by rw [e, hdz] at ho; cases ho
    exact hk b o n1 (by rw [upd_ne n1, upd_ne n2]; exact ho)
  have fr : ∀ b ∈ [z, la, da], H1 b = none := fun b hb => by
    rcases (by simpa using hb : b = z ∨ b = la ∨ b = da) with y | y | y
    · rw [y]; exact hz
    · rw [y]; exact oth la nz hla
    · rw [y]; exact oth da nz2 hda
  refine q _ Hb1 H' (g1.trans ⟨ex_refl _, ex, ex_tr g1.s ex, fun _ _ _ n => n⟩) ⟨[z, la, da], ⟨z, dz, la, da, rfl, rfl, ⟨h1, ⟨[], h2, .nil⟩, ⟨[], h3, fun p hp => (by cases hp), rfl⟩⟩⟩, ?_, fun b hb => ⟨free_b g1.h (fr b hb), free_b g1.s (fr b hb)⟩⟩
  simp only [List.nodup_cons, List.mem_cons, List.mem_singleton, List.not_mem_nil, or_false, not_or, not_false_eq_true, List.nodup_nil, and_true]
  exact ⟨⟨Ne.symm nz, Ne.symm nz2⟩, hld⟩

abbrev dSe (Cs : Addr) (lim : Int) (ss : List Sv) : D := .obj Cs [("limit", dI lim), ("states", .lst (ss.map dSv)), ("sources", .any)]
theorem xss_freezeSe {sts : List Stmt} (C : Cxt P w K mg base N sc k X) (i : Nat) (hG : G[i]? = some (.mu (mSe P w K Cs lim ss))) (h : XSs X sts (G.set i (.im (dSe Cs lim ss))) Pw) : XSs X sts G Pw := fun H0 Hb0 Hb H σ kk => by
  obtain ⟨rfl, rfl, rfl⟩ : X.prog = P ∧ X.w = w ∧ X.K = K := ⟨C.eP, C.ew, C.eK⟩
  obtain ⟨x, fp, hx, ⟨q, dx, la, da, e1, e2, hse⟩, nd, hn, _, fz⟩ := kk.mut hG
  subst e1 e2
  obtain ⟨xs, h2, h3⟩ := hse.ls
  have nql : q ≠ la := fun z => by rw [z] at nd; simp at nd
  have b1 := (hn q (by simp)).2
  have b2 : upd Hb q (.ins Cs dx [("limit", .int lim), ("states", .ref la), ("sources", .ref da)]) la = none := by rw [upd_ne (Ne.symm nql)]; exact (hn la (by simp)).2
  have exb := ex_tr (ex_new (o := .ins Cs dx [("limit", .int lim), ("states", .ref la), ("sources", .ref da)]) b1) (ex_new (o := .lst xs) b2)
  intro Dn c1 c2 c3 c4
  refine StD.later h (fz (upd (upd Hb q (.ins Cs dx [("limit", .int lim), ("states", .ref la), ("sources", .ref da)])) la (.lst xs)) (dSe Cs lim ss) exb (fun b u z => ?_) (fun b nb z => ?_) ?_) exb c1 c2 c3 c4
  · by_cases y : b = la
    · subst y; rw [upd_same] at z; rw [← z]; exact h2
    · rw [upd_ne y] at z
      by_cases y2 : b = q
      · subst y2; rw [upd_same] at z; rw [← z]; exact hse.ob
      · rw [upd_ne y2] at z; exact kk.ex b u z
  · rw [upd_ne (fun y => nb (by rw [y]; simp)), upd_ne (fun y => nb (by rw [y]; simp))]
    exact z
  · refine .obj (dx := dx) (vs := [("limit", .int lim), ("states", .ref la), ("sources", .ref da)]) ?_ (.cons (.v _) (.cons (.lst upd_same (h3.mono exb)) (.cons (.any _) .nil)))
    rw [upd_ne nql, upd_same]
end
end DL

namespace DL
open PySem L2

def pSd (P : Program) (w : World) (K : PySem.W.Frag) (kvs : List (Sv × D)) : Hp → Addr → Prop := fun H a => ∃ raw, H a = some (dSt P w a raw) ∧ KeysAt K H raw ∧ DvRel K H raw kvs
abbrev dSd (P : Program) (w : World) (K : PySem.W.Frag) (kvs : List (Sv × D)) : D := .ab (pSd P w K kvs)
section
variable {P : Program} {w : World} {K : PySem.W.Frag} {mg : Str → Option Value} {base : Heap} {N : List Str} {sc : List (Str × NameKind)} {k j : Nat} {X : Cx} {G : List Sl} {Pw : Po}
variable {a b c e tg : Expr} {sts : List Stmt} {pos p p2 p3 : Pos} {x y : Str} {kvs : List (Sv × D)} {st : Sv} {d : D}
theorem xss_freezeD (C : Cxt P w K mg base N sc k X) (i : Nat) (hG : G[i]? = some (.mu (mDict P w K kvs))) (h : XSs X sts (G.set i (.im (dSd P w K kvs))) Pw) : XSs X sts G Pw := fun H0 Hb0 Hb H σ kk => by
  obtain ⟨rfl, rfl, rfl⟩ : X.prog = P ∧ X.w = w ∧ X.K = K := ⟨C.eP, C.ew, C.eK⟩
  obtain ⟨x, fp, hx, ⟨q0, raw, e1, e2, h1, hk, hr⟩, _, hn, _, fz⟩ := kk.mut hG
  subst e1 e2
  have hb := (hn q0 (by simp)).2
  intro Dn c1 c2 c3 c4
  exact StD.later h (fz (upd Hb q0 (dSt X.prog X.w q0 raw)) (dSd X.prog X.w X.K kvs) (ex_new hb) (fun b u q => by
    by_cases z : b = q0
    · subst z; rw [upd_same] at q; rw [← q]; exact h1
    · rw [upd_ne z] at q; exact kk.ex b u q) (fun b nb q => by rw [upd_ne (fun z => nb (by rw [z]; simp))]; exact q)
      (.ab fun H' ex => ⟨raw, ex _ _ upd_same, (hk.mono (ex_new hb)).mono ex, (hr.mono (ex_new hb)).mono ex⟩)) (ex_new hb) c1 c2 c3 c4
theorem xe_aget (C : Cxt P w K mg base N sc k X) (h1 : XE X a G (dSd P w K kvs)) (h2 : XE X b G (dSv st)) (l : lkD kvs st = some d) (hs : NoSl b := by intro _ _; rfl) : XE X (.Subscript a b pos) G d := by
  obtain ⟨rfl, rfl, rfl⟩ : X.prog = P ∧ X.w = w ∧ X.K = K := ⟨C.eP, C.ew, C.eK⟩
  refine upD (pe_sget C.hu64 (pe_wp X a) (pe_wp X b) hs) fun H0 Hb0 Hb H σ k Q q => h1 H0 Hb0 Hb H σ k _ fun v Hb1 H1 g1 r1 => h2 H0 Hb0 Hb1 H1 σ (k.up g1) _ fun z Hb2 H2 g2 r2 => ?_
  obtain ⟨bb, rfl⟩ := rep_sv r2
  cases r1 with
  | @ab q0 _ hp =>
    obtain ⟨raw, hq, hk, hr⟩ := hp Hb2 g2.b
    rcases hr.look st with ⟨_, z2⟩ | ⟨b', v, d', z1, z2, z3⟩
    · rw [z2] at l; cases l
    · rw [z2] at l
      cases l
      exact ⟨q0, raw, st, bb, b', v, rfl, rfl, g2.s _ _ hq, hk.mono g2.s, r2.mono g2.s, z1, q v Hb2 H2 (g1.trans g2) z3⟩
theorem xe_alen (C : Cxt P w K mg base N sc k X) (hm : mg "len" = none) (h : XE X e G (dSd P w K kvs)) (hg : GlL sc "len" := by rfl) (hs : starEach [e] X.env = (false, eval e X.env) :: starEach [] X.env := by rfl) (hpl : (backTo pos (starEach [] X.env)).any (·.1) = false := by rfl) :
    XE X (.Call (.Name "len" p) [e] [] pos) G (dI kvs.length) := by
  obtain ⟨rfl, rfl, rfl, rfl⟩ : X.prog = P ∧ X.w = w ∧ X.K = K ∧ X.mg = mg := ⟨C.eP, C.ew, C.eK, C.emg⟩
  refine upD (pe_callB call_slen (C.gl hg) hm PySem.boot_len (pa_one hs) (he := hs) (hpl := hpl)) (evg_cb1 h fun Hs Hb H v e1 e2 q1 Q q => ?_)
  cases q1 with
  | @ab q0 _ hp =>
    obtain ⟨raw, hq, hk, hr⟩ := hp Hb (ex_refl _)
    refine ⟨q0, raw, rfl, e2 _ _ hq, hk.mono e2, ?_⟩
    rw [Paired.length hr]
    exact q _ Hb H (Grow.refl e2) (.v _)

def chD (z : Str) : List D := z.cps.toList.map fun c => dS ⟨#[c]⟩
theorem xi_str {z : Str} (h : XE X e G (dS z)) : XI X tg e G (chD z) :=
  upI (pi_str (pe_wp X e)) fun H0 Hb0 Hb H σ k R f => h H0 Hb0 Hb H σ k _ fun x Hb1 H1 g r => by
    cases r
    refine ⟨z, rfl, f _ Hb1 H1 g fun Hb2 H2 e1 e2 i => ⟨fun d hd => ?_, fun hn => ?_⟩⟩
    · unfold chD at hd
      rw [List.getElem?_map] at hd
      cases q : z.cps.toList[i]? with
      | none => rw [q] at hd; cases hd
      | some c =>
        rw [q] at hd
        cases hd
        have q2 : z.cps[i]? = some c := by rw [← Array.getElem?_toList]; exact q
        refine ⟨(Array.getElem?_eq_some_iff.mp q2).1, fun y H3 hy => ?_⟩
        obtain ⟨rfl, c2, hc2, rfl⟩ := hy
        rw [q2] at hc2
        cases hc2
        exact ⟨Hb2, Grow.refl e2, .v _⟩
    · unfold chD at hn
      rw [List.getElem?_eq_none_iff, List.length_map] at hn
      show z.cps.size ≤ i
      rw [Array.length_toList] at hn
      exact hn
theorem xc_inC {ch : Nat} {z : Str} (h1 : XE X a G (dS ⟨#[ch]⟩)) (h2 : XE X b G (dS z)) : XC X .In a b G (decide (ch ∈ z.cps.toList)) :=
  upC (pc_op op_in_sign a b) (evg_op mon_D h1 h2 fun Hs Hb H x y e1 e2 q1 q2 Q q => by
    cases q1; cases q2
    exact ⟨ch, z, rfl, rfl, q _ Hb H (Grow.refl e2) (.v _)⟩)
end
end DL

namespace DL
open PySem L2

def top (i : Nat) : Stmt := PySem.Challenge.pw_leverhouse_k37_whole_shown_lists.main.body.getD i (.Pass ⟨0, 0, 0, 0⟩)

structure Cn where
  a : Nat
  b : Nat
  mv : Nat
  wn : Bool
  both : Bool
structure Bd where
  nod : List Str
  mvs : List Str
  nsw : Nat
  rel : List (Nat × Nat)
  lmn : List Str
  lam : List (Nat × Nat)
  con : List Cn
def Bd.nm (b : Bd) (i : Nat) : Str := b.nod.getD i ⟨#[]⟩
def Bd.mn (b : Bd) (i : Nat) : Str := b.mvs.getD i ⟨#[]⟩
def whenS (k : Bool) : Str := if k then "make" else "break"
def wayS (k : Bool) : Str := if k then "both" else "forward"
def dMv (b : Bd) (i : Nat) : D := if i < b.mvs.length then dS (b.mn i) else dN
def dCon (b : Bd) (c : Cn) : D := .tup [dS (b.nm c.a), dS (b.nm c.b), dMv b c.mv, dS (whenS c.wn), dS (wayS c.both)]
def dRel (b : Bd) (k : Nat) : D := .tup [dS (b.mn (b.nsw + k)), dS (b.nm (b.rel.getD k (0, 0)).1), dS (b.nm (b.rel.getD k (0, 0)).2)]
def dLam (b : Bd) (k : Nat) : D := .tup [dS (b.lmn.getD k ⟨#[]⟩), dS (b.nm (b.lam.getD k (0, 0)).1), dS (b.nm (b.lam.getD k (0, 0)).2)]
def Bd.rels (b : Bd) : List D := (List.range b.rel.length).map (dRel b)
def Bd.lams (b : Bd) : List D := (List.range b.lam.length).map (dLam b)
def Bd.fs (b : Bd) : List (Str × D) := [("nodes", .tup (b.nod.map dS)), ("switches", .tup ((b.mvs.take b.nsw).map dS)), ("relays", .tup b.rels), ("lamps", .tup b.lams), ("contacts", .tup (b.con.map (dCon b)))]
abbrev dBd (C : Addr) (b : Bd) : D := .obj C b.fs
/-- letters, digits, 1 to 12 of them -/
def okName (x : Str) : Bool := decide (1 ≤ x.length) && decide (x.length ≤ 12) && x.cps.toList.all fun c => decide (c ∈ (Str.ofString "abcdefghijklmnopqrstuvwxyz0123456789").cps.toList)
structure Bd.Ok (b : Bd) : Prop where
  nn : b.nod.Nodup
  n2 : 2 ≤ b.nod.length
  n6 : b.nod.length ≤ 6
  nv : ∀ x ∈ b.nod, okName x = true
  mm : b.mvs.Nodup
  mv : ∀ x ∈ b.mvs, okName x = true
  sw : b.nsw + b.rel.length = b.mvs.length
  s2 : b.nsw ≤ 2
  r3 : b.rel.length ≤ 3
  re : ∀ r ∈ b.rel, r.1 < b.nod.length ∧ r.2 < b.nod.length ∧ r.1 ≠ r.2
  ll : b.lmn.length = b.lam.length
  l1 : 1 ≤ b.lam.length
  l2 : b.lam.length ≤ 2
  ln : b.lmn.Nodup
  lv : ∀ x ∈ b.lmn, okName x = true
  le : ∀ r ∈ b.lam, r.1 < b.nod.length ∧ r.2 < b.nod.length ∧ r.1 ≠ r.2
  c8 : b.con.length ≤ 8
  ce : ∀ c ∈ b.con, c.a < b.nod.length ∧ c.b < b.nod.length ∧ c.a ≠ c.b ∧ c.mv ≤ b.mvs.length ∧ (c.mv = b.mvs.length → c.wn = true)
/-- a state of the board -/
def StOk (b : Bd) (s : Sv) : Prop := s.1.length = b.mvs.length

theorem getD_el {α : Type} {l : List α} {i : Nat} (d : α) (h : i < l.length) : l.getD i d = l[i] := by
  rw [List.getD_eq_getElem?_getD, List.getElem?_eq_getElem h]
  rfl
theorem atI_nat {α : Type} {l : List α} {i : Nat} : atI l (i : Int) = l[i]? := by
  unfold atI ixN
  by_cases h : i < l.length
  · rw [if_pos (by omega), if_pos (by omega)]
    simp
  · rw [if_pos (by omega), if_neg (by omega), List.getElem?_eq_none (by omega)]
    rfl
theorem atI_map {α β : Type} {l : List α} {i : Nat} (f : α → β) (d : α) (h : i < l.length) : atI (l.map f) (i : Int) = some (f (l.getD i d)) := by
  rw [atI_nat, List.getElem?_map, List.getElem?_eq_getElem h, getD_el _ h]
  rfl
theorem nodup_getD {α : Type} {l : List α} (hn : l.Nodup) {i j : Nat} (d : α) (hi : i < l.length) (hj : j < l.length) : l.getD i d = l.getD j d ↔ i = j := by
  rw [getD_el _ hi, getD_el _ hj]
  refine ⟨fun e => ?_, fun e => by subst e; rfl⟩
  have hp := List.pairwise_iff_getElem.mp hn
  rcases Nat.lt_trichotomy i j with z | z | z
  · exact absurd e (hp i j hi hj z)
  · exact z
  · exact absurd e.symm (hp j i hj hi z)
theorem nm_eq {b : Bd} (h : b.nod.Nodup) {i j : Nat} (hi : i < b.nod.length) (hj : j < b.nod.length) : decide (V.str (b.nm i) = V.str (b.nm j)) = decide (i = j) := by
  refine decide_eq_decide.mpr ⟨fun e => ?_, fun e => by rw [e]⟩
  exact (nodup_getD h _ hi hj).mp (V.str.inj e)
theorem mn_eq {b : Bd} (h : b.mvs.Nodup) {i j : Nat} (hi : i < b.mvs.length) (hj : j < b.mvs.length) : decide (V.str (b.mn i) = V.str (b.mn j)) = decide (i = j) := by
  refine decide_eq_decide.mpr ⟨fun e => ?_, fun e => by rw [e]⟩
  exact (nodup_getD h _ hi hj).mp (V.str.inj e)
/-- names of nodes, by their numbers -/
def dNs (b : Bd) (l : List Nat) : List D := (l.map fun i => V.str (b.nm i)).map D.v
def dMs (b : Bd) (l : List Nat) : List D := (l.map fun i => V.str (b.mn i)).map D.v
theorem dNs_snoc (b : Bd) (l : List Nat) (i : Nat) : dNs b (l ++ [i]) = dNs b l ++ [dS (b.nm i)] := by
  unfold dNs
  rw [List.map_append, List.map_append]
  rfl
theorem dMs_snoc (b : Bd) (l : List Nat) (i : Nat) : dMs b (l ++ [i]) = dMs b l ++ [dS (b.mn i)] := by
  unfold dMs
  rw [List.map_append, List.map_append]
  rfl
theorem dNs_len (b : Bd) (l : List Nat) : (dNs b l).length = l.length := by unfold dNs; rw [List.length_map, List.length_map]
theorem dMs_len (b : Bd) (l : List Nat) : (dMs b l).length = l.length := by unfold dMs; rw [List.length_map, List.length_map]
theorem flat_s {α : Type} (f : α → Str) (l : List α) : (l.map fun i => V.str (f i)).all flatV = true := by
  rw [List.all_map]
  exact List.all_eq_true.mpr fun _ _ => rfl
theorem inV_nm {b : Bd} (h : b.nod.Nodup) {i : Nat} (hi : i < b.nod.length) : ∀ {l : List Nat}, (∀ j ∈ l, j < b.nod.length) → inV (V.str (b.nm i)) (l.map fun i => V.str (b.nm i)) = decide (i ∈ l)
  | [], _ => rfl
  | j :: l, hl => by
    have ih := inV_nm h hi (l := l) fun k hk => hl k (List.mem_cons_of_mem _ hk)
    unfold inV at ih ⊢
    rw [List.map_cons, List.any_cons, ih]
    have := nm_eq h hi (hl j List.mem_cons_self)
    by_cases e : i = j
    · subst e
      simp [eqV]
    · have n : ¬ b.nm i = b.nm j := fun z => e ((nodup_getD h _ hi (hl j List.mem_cons_self)).mp z)
      simp [e, eqV, Ne.symm n]
theorem inV_mn {b : Bd} (h : b.mvs.Nodup) {i : Nat} (hi : i < b.mvs.length) : ∀ {l : List Nat}, (∀ j ∈ l, j < b.mvs.length) → inV (V.str (b.mn i)) (l.map fun i => V.str (b.mn i)) = decide (i ∈ l)
  | [], _ => rfl
  | j :: l, hl => by
    have ih := inV_mn h hi (l := l) fun k hk => hl k (List.mem_cons_of_mem _ hk)
    unfold inV at ih ⊢
    rw [List.map_cons, List.any_cons, ih]
    by_cases e : i = j
    · subst e
      simp [eqV]
    · have n : ¬ b.mn i = b.mn j := fun z => e ((nodup_getD h _ hi (hl j List.mem_cons_self)).mp z)
      simp [e, eqV, Ne.symm n]
theorem range_getD {α : Type} (l : List α) (d : α) : (List.range l.length).map (fun i => l.getD i d) = l := by
  refine List.ext_getElem? fun i => ?_
  rw [List.getElem?_map]
  by_cases h : i < l.length
  · rw [List.getElem?_range h, List.getElem?_eq_getElem h, Option.map_some, getD_el _ h]
  · rw [List.getElem?_eq_none (l := List.range l.length) (by rw [List.length_range]; omega), List.getElem?_eq_none (l := l) (by omega)]
    rfl
theorem nod_dNs (b : Bd) : b.nod.map dS = dNs b (List.range b.nod.length) := by
  unfold dNs
  rw [List.map_map]
  conv => lhs; rw [← range_getD b.nod ⟨#[]⟩]
  rw [List.map_map]
  rfl
theorem mvs_dMs (b : Bd) : b.mvs.map dS = dMs b (List.range b.mvs.length) := by
  unfold dMs
  rw [List.map_map]
  conv => lhs; rw [← range_getD b.mvs ⟨#[]⟩]
  rw [List.map_map]
  rfl
theorem enumD_map {α : Type} (f : α → D) (l : List α) : enumD (l.map f) = l.zipIdx.map fun q => .tup [dI (q.2 : Int), f q.1] := by
  unfold enumD
  rw [List.zipIdx_map, List.map_map]
  rfl
theorem zipIdx_nat {α : Type} (l : List α) (d : α) : l.zipIdx = (List.range l.length).map fun i => (l.getD i d, i) := by
  refine List.ext_getElem? fun i => ?_
  rw [List.getElem?_zipIdx, List.getElem?_map]
  by_cases h : i < l.length
  · rw [List.getElem?_range h, List.getElem?_eq_getElem h, Option.map_some, Option.map_some, getD_el _ h, Nat.zero_add]
  · rw [List.getElem?_eq_none (l := List.range l.length) (by rw [List.length_range]; omega), List.getElem?_eq_none (l := l) (by omega)]
    rfl
theorem enumD_nat {α : Type} (f : α → D) (l : List α) (d : α) : enumD (l.map f) = (List.range l.length).map fun i => .tup [dI (i : Int), f (l.getD i d)] := by
  rw [enumD_map, zipIdx_nat l d, List.map_map]
  rfl
theorem XI.is {X : Cx} {tg e : Expr} {G : List Sl} {ds ds' : List D} (h : XI X tg e G ds) (q : ds = ds') : XI X tg e G ds' := q ▸ h
/-- the class of boards, its attributes -/
structure BdC (K : PySem.W.Frag) (C : Addr) : Prop where
  c : Cls K C
  n1 : NoAttr K C "nodes"
  n2 : NoAttr K C "switches"
  n3 : NoAttr K C "relays"
  n4 : NoAttr K C "lamps"
  n5 : NoAttr K C "contacts"
section
variable {P : Program} {w : World} {K : PySem.W.Frag} {mg : Str → Option Value} {base : Heap} {N : List Str} {sc : List (Str × NameKind)} {k : Nat} {X : Cx} {G : List Sl} {a : Expr} {pos : Pos} {C : Addr} {b : Bd} {s : Sv}
theorem xe_nodes (Cx : Cxt P w K mg base N sc k X) (B : BdC K C) (h : XE X a G (dBd C b)) (hb : attributeBase a "nodes" X.env (eval a X.env) = eval a X.env := by rfl) : XE X (.Attribute a "nodes" pos) G (.tup (b.nod.map dS)) := xe_fld Cx h B.c B.n1 rfl hb
theorem xe_switches (Cx : Cxt P w K mg base N sc k X) (B : BdC K C) (h : XE X a G (dBd C b)) (hb : attributeBase a "switches" X.env (eval a X.env) = eval a X.env := by rfl) : XE X (.Attribute a "switches" pos) G (.tup ((b.mvs.take b.nsw).map dS)) := xe_fld Cx h B.c B.n2 rfl hb
theorem xe_relays (Cx : Cxt P w K mg base N sc k X) (B : BdC K C) (h : XE X a G (dBd C b)) (hb : attributeBase a "relays" X.env (eval a X.env) = eval a X.env := by rfl) : XE X (.Attribute a "relays" pos) G (.tup b.rels) := xe_fld Cx h B.c B.n3 rfl hb
theorem xe_contacts (Cx : Cxt P w K mg base N sc k X) (B : BdC K C) (h : XE X a G (dBd C b)) (hb : attributeBase a "contacts" X.env (eval a X.env) = eval a X.env := by rfl) : XE X (.Attribute a "contacts" pos) G (.tup (b.con.map (dCon b))) := xe_fld Cx h B.c B.n5 rfl hb
theorem xe_pos (h : XE X a G (dSv s)) {j : Nat} {p p2 : Pos} : XE X (.Subscript a (.Constant (.int 0) j p) p2) G (.tup (s.1.map dB)) := xe_ixT h xe_int (show atI _ _ = some _ from rfl)
theorem xe_fuse (h : XE X a G (dSv s)) {j : Nat} {p p2 : Pos} : XE X (.Subscript a (.Constant (.int 1) j p) p2) G (dB s.2) := xe_ixT h xe_int (show atI _ _ = some _ from rfl)
end
end DL

namespace DL
open PySem L2

abbrev cn0 : Cn := ⟨0, 0, 0, true, true⟩
def closedC (b : Bd) (s : Sv) (c : Cn) : Bool := if c.mv < b.mvs.length then s.1.getD c.mv false == c.wn else true
def clN (b : Bd) (s : Sv) : List Nat := (List.range b.con.length).filter fun i => closedC b s (b.con.getD i cn0)
def pairsOf (c : Cn) : List (Nat × Nat) := if c.both then [(c.a, c.b), (c.b, c.a)] else [(c.a, c.b)]
def pathsN (b : Bd) (s : Sv) : List (Nat × Nat) := (clN b s).flatMap fun i => pairsOf (b.con.getD i cn0)
def dPr (b : Bd) (p : Nat × Nat) : D := .tup [dS (b.nm p.1), dS (b.nm p.2)]
def grow1 (x : Nat) (f : List Nat) (p : Nat × Nat) : List Nat := if (decide (p.1 = x) && !decide (p.2 ∈ f)) = true then f ++ [p.2] else f
def reachF (ps : List (Nat × Nat)) : Nat → List Nat → Nat → List Nat
  | 0, f, _ => f
  | n + 1, f, p => match f[p]? with
    | none => f
    | some x => reachF ps n (ps.foldl (grow1 x) f) (p + 1)
def reachN (n : Nat) (ps : List (Nat × Nat)) (st : Nat) : List Nat := reachF ps n [st] 0
/-- nodes, each once -/
def NdL (n : Nat) (f : List Nat) : Prop := f.Nodup ∧ ∀ i ∈ f, i < n
def PrOk (n : Nat) (ps : List (Nat × Nat)) : Prop := ∀ p ∈ ps, p.1 < n ∧ p.2 < n
theorem NdL.len {n : Nat} {f : List Nat} (h : NdL n f) : f.length ≤ n := by
  have := List.Nodup.length_le_of_subset h.1 (l₂ := List.range n) fun i hi => List.mem_range.mpr (h.2 i hi)
  rwa [List.length_range] at this
theorem NdL.snoc {n : Nat} {f : List Nat} (h : NdL n f) {i : Nat} (hi : i < n) (hn : i ∉ f) : NdL n (f ++ [i]) := by
  refine ⟨List.nodup_append.mpr ⟨h.1, by simp, fun a ha c hc e => ?_⟩, fun j hj => ?_⟩
  · rw [List.mem_singleton.mp hc] at e
    exact hn (by rw [← e]; exact ha)
  · rcases List.mem_append.mp hj with z | z
    · exact h.2 j z
    · rw [List.mem_singleton.mp z]; exact hi
theorem NdL.grow {n x : Nat} {f : List Nat} (h : NdL n f) {p : Nat × Nat} (hp : p.2 < n) : NdL n (grow1 x f p) := by
  unfold grow1
  split
  · rename_i e
    simp only [Bool.and_eq_true, Bool.not_eq_true', decide_eq_false_iff_not] at e
    exact h.snoc hp e.2
  · exact h
theorem grow_pre (x : Nat) (f : List Nat) (p : Nat × Nat) : ∃ r, grow1 x f p = f ++ r := by
  unfold grow1
  split
  · exact ⟨_, rfl⟩
  · exact ⟨[], by rw [List.append_nil]⟩
theorem fold_pre (x : Nat) : ∀ (ps : List (Nat × Nat)) (f : List Nat), ∃ r, ps.foldl (grow1 x) f = f ++ r
  | [], f => ⟨[], by rw [List.append_nil]; rfl⟩
  | p :: ps, f => by
    obtain ⟨r, e⟩ := grow_pre x f p
    obtain ⟨r2, e2⟩ := fold_pre x ps (grow1 x f p)
    exact ⟨r ++ r2, by rw [List.foldl_cons, e2, e, List.append_assoc]⟩
theorem NdL.fold {n x : Nat} : ∀ {ps : List (Nat × Nat)} {f : List Nat}, NdL n f → PrOk n ps → NdL n (ps.foldl (grow1 x) f)
  | [], f, h, _ => h
  | p :: ps, f, h, hp => by
    rw [List.foldl_cons]
    exact (h.grow (hp p List.mem_cons_self).2).fold fun q hq => hp q (List.mem_cons_of_mem _ hq)
theorem take_snoc {α : Type} {l : List α} {i : Nat} {x : α} (h : l[i]? = some x) : l.take (i + 1) = l.take i ++ [x] := by
  rw [List.take_add_one, h]; rfl
theorem when_eq (k : Bool) : decide (V.str (whenS k) = V.str "make") = k := by cases k <;> decide
theorem way_eq (k : Bool) : decide (V.str (wayS k) = V.str "both") = k := by cases k <;> decide
theorem bl_eq (a c : Bool) : decide (V.bl a = V.bl c) = (a == c) := by cases a <;> cases c <;> decide
theorem dMv_some {b : Bd} {i : Nat} (h : i < b.mvs.length) : dMv b i = dS (b.mn i) := if_pos h
theorem dMv_none {b : Bd} {i : Nat} (h : ¬ i < b.mvs.length) : dMv b i = dN := if_neg h

section
variable {P : Program} {w : World} {K : PySem.W.Frag} {mg : Str → Option Value} {base : Heap} {f Cb : Addr} {fd : FuncData}
theorem sc8 : FnScope ["contact", "on"] ["contact", "on"] (defScope (top 8)) := ⟨rfl, rfl, rfl, by decide +kernel, rfl, by decide +kernel, by decide +kernel⟩
def preCloses (ds : List D) (d : D) : Prop := ∃ (b : Bd) (c : Cn) (on : Bool), ds = [dCon b c, dB on] ∧ d = dB (if c.mv < b.mvs.length then on == c.wn else true)
theorem ok_closes (F : FunD K "closes" "closes" (defArgs (top 8)) (defBody (top 8)) (defScope (top 8)) [] [] f fd) : FnOk P w K mg base CX0 1 f fd ["contact", "on"] (spD K preCloses) :=
  fn_d F sc8 (fun ds d ⟨b, c, on, e, _⟩ => by rw [e]; rfl) fun X C ds d ⟨b, c, on, e1, e2⟩ => by
    subst e1 e2
    have xct : ∀ {pos : Pos}, XE X (.Name "contact" pos) (entry ["contact", "on"] [dCon b c, dB on]) (dCon b c) := xe_var C.toCxt 0 rfl
    have xon : ∀ {pos : Pos}, XE X (.Name "on" pos) (entry ["contact", "on"] [dCon b c, dB on]) (dB on) := xe_var C.toCxt 1 rfl
    by_cases h : c.mv < b.mvs.length
    · refine xss_cons (xs_if (xt_cmp (xc_isN (xe_ixT xct xe_int (show atI _ _ = some (dMv b c.mv) from rfl)) xe_non (by rw [dMv_some h]; exact fun z => nomatch z) (by rw [dMv_some h]; exact fun z => nomatch z))) (fun q => nomatch q) fun _ => xss_nil ?_)
      refine xss_one (xs_ret (xe_cmp (xc_eq xon (xe_cmp (xc_eq (xe_ixT xct xe_int (show atI _ _ = some (dS (whenS c.wn)) from rfl)) xe_str rfl)) rfl)) ?_)
      rw [when_eq, bl_eq, if_pos h]
    · exact xss_cons (xs_if (xt_cmp (xc_isN' (xe_ixT xct xe_int (show atI _ _ = some dN from congrArg some (dMv_none h))) xe_non)) (fun _ => xss_one (xs_ret xe_bl (by rw [if_neg h]))) fun q => nomatch q)

theorem sc43_7 : FnScope ["self"] ["self"] (defScope (inClass (top 43) 7)) := ⟨rfl, rfl, rfl, by decide +kernel, rfl, by decide +kernel, by decide +kernel⟩
theorem sc43_8 : FnScope ["self"] ["self"] (defScope (inClass (top 43) 8)) := ⟨rfl, rfl, rfl, by decide +kernel, rfl, by decide +kernel, by decide +kernel⟩
theorem sc43_9 : FnScope ["self", "relay"] ["self"] (defScope (inClass (top 43) 9)) := ⟨rfl, rfl, rfl, by decide +kernel, rfl, by decide +kernel, by decide +kernel⟩
theorem sc43_10 : FnScope ["self", "name", "number", "mover"] ["self", "name"] (defScope (inClass (top 43) 10)) := ⟨rfl, rfl, rfl, by decide +kernel, rfl, by decide +kernel, by decide +kernel⟩
def prePlus (Cb : Addr) (ds : List D) (d : D) : Prop := ∃ b : Bd, b.Ok ∧ ds = [dBd Cb b] ∧ d = dS (b.nm 0)
def preMinus (Cb : Addr) (ds : List D) (d : D) : Prop := ∃ b : Bd, b.Ok ∧ ds = [dBd Cb b] ∧ d = dS (b.nm 1)
def preMovers (Cb : Addr) (ds : List D) (d : D) : Prop := ∃ b : Bd, b.Ok ∧ ds = [dBd Cb b] ∧ d = .tup (b.mvs.map dS)
def preNumber (Cb : Addr) (ds : List D) (d : D) : Prop := ∃ (b : Bd) (i : Nat), b.Ok ∧ i < b.mvs.length ∧ ds = [dBd Cb b, dS (b.mn i)] ∧ d = dI (i : Int)
theorem ok_plus (B : BdC K Cb) (F : FunD K "plus" "Board.plus" (defArgs (inClass (top 43) 7)) (defBody (inClass (top 43) 7)) (defScope (inClass (top 43) 7)) [] [] f fd) : FnOk P w K mg base CX0 1 f fd ["self"] (spD K (prePlus Cb)) :=
  fn_d F sc43_7 (fun ds d ⟨b, _, e, _⟩ => by rw [e]; rfl) fun X C ds d ⟨b, ok, e1, e2⟩ => by
    subst e1 e2
    have n2 := ok.n2
    exact xss_one (xs_ret (xe_ixT (xe_nodes C.toCxt B (xe_var C.toCxt 0 rfl)) xe_int (atI_map (i := 0) dS ⟨#[]⟩ (by omega))) rfl)
theorem ok_minus (B : BdC K Cb) (F : FunD K "minus" "Board.minus" (defArgs (inClass (top 43) 8)) (defBody (inClass (top 43) 8)) (defScope (inClass (top 43) 8)) [] [] f fd) : FnOk P w K mg base CX0 1 f fd ["self"] (spD K (preMinus Cb)) :=
  fn_d F sc43_8 (fun ds d ⟨b, _, e, _⟩ => by rw [e]; rfl) fun X C ds d ⟨b, ok, e1, e2⟩ => by
    subst e1 e2
    have n2 := ok.n2
    exact xss_one (xs_ret (xe_ixT (xe_nodes C.toCxt B (xe_var C.toCxt 0 rfl)) xe_int (atI_map (i := 1) dS ⟨#[]⟩ (by omega))) rfl)
theorem mvs_split {b : Bd} (ok : b.Ok) : (b.mvs.take b.nsw).map dS ++ (List.range b.rel.length).map (fun k => dS (b.mn (b.nsw + k))) = b.mvs.map dS := by
  have sw := ok.sw
  have e : (List.range b.rel.length).map (fun k => dS (b.mn (b.nsw + k))) = (b.mvs.drop b.nsw).map dS := by
    refine List.ext_getElem? fun i => ?_
    rw [List.getElem?_map, List.getElem?_map, List.getElem?_drop]
    by_cases h : i < b.rel.length
    · rw [List.getElem?_range h, List.getElem?_eq_getElem (by omega)]
      show some (dS (b.mvs.getD (b.nsw + i) ⟨#[]⟩)) = _
      rw [getD_el _ (by omega)]
      rfl
    · rw [List.getElem?_eq_none (l := List.range b.rel.length) (by rw [List.length_range]; omega), List.getElem?_eq_none (l := b.mvs) (by omega)]
      rfl
  rw [e, ← List.map_append, List.take_append_drop]
theorem ok_movers (B : BdC K Cb) (mt : mg "tuple" = none) (F : FunD K "movers" "Board.movers" (defArgs (inClass (top 43) 9)) (defBody (inClass (top 43) 9)) (defScope (inClass (top 43) 9)) [] [] f fd) : FnOk P w K mg base CX0 1 f fd ["self"] (spD K (preMovers Cb)) :=
  fn_d F sc43_9 (fun ds d ⟨b, _, e, _⟩ => by rw [e]; rfl) fun X C ds d ⟨b, ok, e1, e2⟩ => by
    subst e1 e2
    have sw := ok.sw
    have s2 := ok.s2
    have r3 := ok.r3
    refine xss_one (xs_ret (d := .tup ((b.mvs.take b.nsw).map dS ++ (List.range b.rel.length).map (fun k => dS (b.mn (b.nsw + k))))) (xe_catT (xe_switches C.toCxt B (xe_var C.toCxt 0 rfl)) (xe_tupL C.toCxt mt (XN.r (xn_lc (own := [("relay", 1)]) C.toCxt ⟨by decide +kernel, Nat, List.range b.rel.length, dRel b, fun k => [.im (dBd Cb b), .im (dRel b k)], fun _ => true, fun k => dS (b.mn (b.nsw + k)), ?_, ?_, ?_, fun X' C' k hk => ⟨⟨[1], fun i hi => hi, xtg_name C' 1⟩, xf_nil, fun _ => xe_ixT (xe_var C' 1 rfl) xe_int (show atI _ _ = some (dS (b.mn (b.nsw + k))) from rfl)⟩⟩))) ?_) ?_)
    · rw [List.filter_eq_self.mpr fun _ _ => rfl]
    · exact xi_tup (xe_relays C.toCxt B (xe_var C.toCxt 0 rfl))
    · rw [List.length_range]; omega
    · rw [List.length_map, List.length_map, List.length_take, List.length_range]; omega
    · rw [mvs_split ok]
theorem ok_number (FM : KnP P w K mg base Cb "movers" 1 (preMovers Cb)) (me : mg "enumerate" = none) (F : FunD K "mover_number" "Board.mover_number" (defArgs (inClass (top 43) 10)) (defBody (inClass (top 43) 10)) (defScope (inClass (top 43) 10)) [] [] f fd) :
    FnOk P w K mg base CX0 3 f fd ["self", "name"] (spD K (preNumber Cb)) :=
  fn_d F sc43_10 (fun ds d ⟨b, i, _, _, e, _⟩ => by rw [e]; rfl) fun X C ds d ⟨b, i, ok, hi, e1, e2⟩ => by
    subst e1 e2
    refine xss_cons (xs_for C (XI.is (xi_enumT C.toCxt me (xe_prop C.toCxt FM (xe_var C.toCxt 0 rfl) ⟨b, ok, rfl, rfl⟩)) (enumD_nat dS b.mvs ⟨#[]⟩)) (fun j G1 => j ≤ i ∧ G1 = [.im (dBd Cb b), .im (dS (b.mn i)), .un, .un]) ⟨Nat.zero_le _, rfl⟩ ?_ ?_)
    · rintro j d G1 hd ⟨hj, rfl⟩
      rw [List.getElem?_map, List.getElem?_range (by omega)] at hd
      cases hd
      refine ⟨_, [.im (dBd Cb b), .im (dS (b.mn i)), .im (dI (j : Int)), .im (dS (b.mn j))], xtg_tup C.toCxt (xts_cons (xtg_name C.toCxt 2) (xts_cons (xtg_name C.toCxt 3) xts_nil)) rfl, xss_one (xs_if ((xt_cmp (xc_eq (xe_var C.toCxt 3 rfl) (xe_var C.toCxt 1 rfl) rfl)).is (mn_eq ok.mm (by omega) hi)) (fun q => xss_one (xs_ret (xe_var C.toCxt 2 rfl) ?_)) fun q => xss_nil ?_)⟩
      · rw [of_decide_eq_true q]
      · have n := of_decide_eq_false q
        exact ⟨_, .keep (.keep (.drop (.drop .nil))), by omega, rfl⟩
    · rintro G1 ⟨hj, _⟩
      rw [List.length_map, List.length_range] at hj
      omega
end
end DL

namespace DL
open PySem L2

theorem sc9 : FnScope ["board", "state", "number", "numbers", "found", "contact", "name"] ["board", "state"] (defScope (top 9)) := ⟨rfl, rfl, rfl, by decide +kernel, rfl, by decide +kernel, by decide +kernel⟩
theorem sc10 : FnScope ["board", "state", "pairs", "number", "one", "other", "_", "way"] ["board", "state"] (defScope (top 10)) := ⟨rfl, rfl, rfl, by decide +kernel, rfl, by decide +kernel, by decide +kernel⟩
theorem sc11 : FnScope ["pairs", "start", "found", "place", "source", "target"] ["pairs", "start"] (defScope (top 11)) := ⟨rfl, rfl, rfl, by decide +kernel, rfl, by decide +kernel, by decide +kernel⟩
theorem sc12 : FnScope ["board", "state", "found", "node"] ["board", "state"] (defScope (top 12)) := ⟨rfl, rfl, rfl, by decide +kernel, rfl, by decide +kernel, by decide +kernel⟩
theorem sc13 : FnScope ["board", "state", "turned", "found", "target", "source", "node"] ["board", "state"] (defScope (top 13)) := ⟨rfl, rfl, rfl, by decide +kernel, rfl, by decide +kernel, by decide +kernel⟩
theorem sc14 : FnScope ["board", "state"] ["board", "state"] (defScope (top 14)) := ⟨rfl, rfl, rfl, by decide +kernel, rfl, by decide +kernel, by decide +kernel⟩

def numK (b : Bd) : List (Key × V) := (List.range b.mvs.length).map fun i => ((.inr (b.mn i) : Key), V.int (i : Int))
theorem numK_at {b : Bd} (hn : b.mvs.Nodup) {i : Nat} (hi : i < b.mvs.length) : valV (numK b) (.inr (b.mn i)) = some (.int (i : Int)) := by
  have all : ∀ l : List Nat, (∀ j ∈ l, j < b.mvs.length) → i ∈ l → valV (l.map fun i => ((.inr (b.mn i) : Key), V.int (i : Int))) (.inr (b.mn i)) = some (.int (i : Int)) := by
    intro l
    induction l with
    | nil => intro _ h; cases h
    | cons j l ih =>
      intro hl h
      by_cases e : i = j
      · subst e
        exact valV_pos rfl
      · rw [List.map_cons, valV_neg fun z => e ((nodup_getD hn _ (hl j List.mem_cons_self) hi).mp (Sum.inr.inj z)).symm]
        exact ih (fun k hk => hl k (List.mem_cons_of_mem _ hk)) ((List.mem_cons.mp h).resolve_left e)
  exact all _ (fun j hj => List.mem_range.mp hj) (List.mem_range.mpr hi)
theorem range_filter_len (n : Nat) (p : Nat → Bool) : ((List.range n).filter p).length ≤ n := by
  have := List.length_filter_le p (List.range n)
  rwa [List.length_range] at this
theorem con_mem {b : Bd} {i : Nat} (h : i < b.con.length) : b.con.getD i cn0 ∈ b.con := by rw [getD_el _ h]; exact List.getElem_mem h
theorem clN_lt {b : Bd} {s : Sv} {i : Nat} (h : i ∈ clN b s) : i < b.con.length := List.mem_range.mp (List.mem_filter.mp h).1
theorem pairsOf_ok {b : Bd} (ok : b.Ok) {c : Cn} (hc : c ∈ b.con) : PrOk b.nod.length (pairsOf c) := by
  obtain ⟨h1, h2, _⟩ := ok.ce c hc
  unfold pairsOf
  intro p hp
  split at hp
  · rcases (by simpa using hp : p = (c.a, c.b) ∨ p = (c.b, c.a)) with z | z <;> rw [z]
    · exact ⟨h1, h2⟩
    · exact ⟨h2, h1⟩
  · rw [List.mem_singleton.mp hp]; exact ⟨h1, h2⟩
theorem paths_ok {b : Bd} (ok : b.Ok) (s : Sv) : PrOk b.nod.length (pathsN b s) := fun p hp => by
  obtain ⟨i, hi, hpi⟩ := List.mem_flatMap.mp hp
  exact pairsOf_ok ok (con_mem (clN_lt hi)) p hpi
theorem pairsOf_len (c : Cn) : (pairsOf c).length ≤ 2 := by unfold pairsOf; split <;> simp
theorem flatMap_len {α β : Type} {f : α → List β} {n : Nat} (h : ∀ x, (f x).length ≤ n) : ∀ l : List α, (l.flatMap f).length ≤ l.length * n
  | [] => by simp
  | x :: l => by
    rw [List.flatMap_cons, List.length_append, List.length_cons, Nat.add_mul, Nat.one_mul]
    have := flatMap_len h l
    have := h x
    omega
theorem clN_len {b : Bd} (ok : b.Ok) (s : Sv) : (clN b s).length ≤ 8 := Nat.le_trans (range_filter_len _ _) ok.c8
theorem paths_len {b : Bd} (ok : b.Ok) (s : Sv) : (pathsN b s).length ≤ 16 := by
  have h1 := flatMap_len (f := fun i => pairsOf (b.con.getD i cn0)) (n := 2) (fun i => pairsOf_len _) (clN b s)
  have h2 := clN_len ok s
  unfold pathsN
  omega

section
variable {P : Program} {w : World} {K : PySem.W.Frag} {mg : Str → Option Value} {base : Heap} {f Cb : Addr} {fd : FuncData}
def preClosed (Cb : Addr) (ds : List D) (d : D) : Prop := ∃ (b : Bd) (s : Sv), b.Ok ∧ StOk b s ∧ ds = [dBd Cb b, dSv s] ∧ d = .lst ((clN b s).map fun (i : Nat) => dI (i : Int))
theorem ok_closed (B : BdC K Cb) (FM : KnP P w K mg base Cb "movers" 1 (preMovers Cb)) (FC : Kn P w K mg base "closes" 1 preCloses) (me : mg "enumerate" = none) (F : FunD K "closed_contacts" "closed_contacts" (defArgs (top 9)) (defBody (top 9)) (defScope (top 9)) [] [] f fd) :
    FnOk P w K mg base CX0 3 f fd ["board", "state"] (spD K (preClosed Cb)) :=
  fn_d F sc9 (fun ds d ⟨b, s, _, _, e, _⟩ => by rw [e]; rfl) fun X C ds d ⟨b, s, ok, sk, e1, e2⟩ => by
    subst e1 e2
    obtain rfl : X.K = K := C.eK
    have hlen : b.con.length ≤ 8 := ok.c8
    have sw := ok.sw
    have s2 := ok.s2
    have r3 := ok.r3
    refine xss_cons (xs_dck (own := [("number", 2), ("name", 6)]) C 3 (kvs := numK b) ⟨by decide +kernel, Nat, List.range b.mvs.length, fun i => .tup [dI (i : Int), dS (b.mn i)], fun i => [.im (dBd Cb b), .im (dSv s), .im (dI (i : Int)), .un, .un, .un, .im (dS (b.mn i))], b.mn, fun i => V.int (i : Int), rfl, ?_, ?_, ?_, fun X' C' i hi => ⟨?_, xe_var C' 6 rfl, xe_var C' 2 rfl⟩⟩ ?_)
    · exact XI.is (xi_enumT C.toCxt me (xe_prop C.toCxt FM (xe_var C.toCxt 0 rfl) ⟨b, ok, rfl, rfl⟩)) (enumD_nat dS b.mvs ⟨#[]⟩)
    · rw [List.length_range]; omega
    · have e : (List.range b.mvs.length).map b.mn = b.mvs := range_getD b.mvs _
      rw [e]; exact ok.mm
    · exact xtg_tup C' (xts_cons (xtg_name C' 2) (xts_cons (xtg_name C' 6) xts_nil)) rfl
    refine xss_cons (xs_asgN C 4 xn_nil ?_)
    refine xss_cons (xs_for C (XI.is (xi_enumT C.toCxt me (xe_contacts C.toCxt B (xe_var C.toCxt 0 rfl))) (enumD_nat (dCon b) b.con cn0))
      (fun j G1 => G1 = [.im (dBd Cb b), .im (dSv s), .un, .im (.dk (numK b)), .ml X.K (((List.range j).filter fun i => closedC b s (b.con.getD i cn0)).map fun (i : Nat) => dI (i : Int)), .un, .un]) rfl ?_ ?_)
    · rintro j d G1 hd rfl
      have hj : j < b.con.length := by
        have := (List.getElem?_eq_some_iff.mp hd).1
        rwa [List.length_map, List.length_range] at this
      rw [List.getElem?_map, List.getElem?_range hj] at hd
      cases hd
      have hc := ok.ce _ (con_mem hj)
      have hfl := range_filter_len j fun i => closedC b s (b.con.getD i cn0)
      refine ⟨_, [.im (dBd Cb b), .im (dSv s), .im (dI (j : Int)), .im (.dk (numK b)), .ml X.K (((List.range j).filter fun i => closedC b s (b.con.getD i cn0)).map fun (i : Nat) => dI (i : Int)), .im (dCon b (b.con.getD j cn0)), .un],
        xtg_tup C.toCxt (xts_cons (xtg_name C.toCxt 2) (xts_cons (xtg_name C.toCxt 5) xts_nil)) rfl, xss_one (xs_if (bb := closedC b s (b.con.getD j cn0)) ?_ (fun q => xss_one (xs_app C 4 rfl (xe_var C.toCxt 2 rfl) ?_ ?_)) fun q => xss_nil ?_)⟩
      · have xc : ∀ {p p2 : Pos} {jj : Nat}, XE X (.Subscript (.Name "contact" p) (.Constant (.int 2) jj p2) p2) [.im (dBd Cb b), .im (dSv s), .im (dI (j : Int)), .im (.dk (numK b)), .ml X.K (((List.range j).filter fun i => closedC b s (b.con.getD i cn0)).map fun (i : Nat) => dI (i : Int)), .im (dCon b (b.con.getD j cn0)), .un] (dMv b (b.con.getD j cn0).mv) := xe_ixT (xe_var C.toCxt 5 rfl) xe_int (show atI _ _ = some (dMv b (b.con.getD j cn0).mv) from rfl)
        unfold closedC
        by_cases h : (b.con.getD j cn0).mv < b.mvs.length
        · rw [if_pos h]
          refine (xt_or2 (c := false) (xt_cmp (xc_isN (xe_ixT (xe_var C.toCxt 5 rfl) xe_int (show atI _ _ = some (dMv b (b.con.getD j cn0).mv) from rfl)) xe_non (by rw [dMv_some h]; exact fun z => nomatch z) (by rw [dMv_some h]; exact fun z => nomatch z)))
            fun _ => xt_val (xe_call (d := dB (s.1.getD (b.con.getD j cn0).mv false == (b.con.getD j cn0).wn)) C.toCxt FC (xa_cons (xe_var C.toCxt 5 rfl) (xa_cons (xe_ixT (xe_pos (xe_var C.toCxt 1 rfl)) (xe_kget C.toCxt (xe_var C.toCxt 3 rfl) ((xe_ixT (xe_var C.toCxt 5 rfl) xe_int (show atI _ _ = some (dMv b (b.con.getD j cn0).mv) from rfl)).is (dMv_some h)) (numK_at ok.mm h)) (atI_map dB false (by rw [sk]; exact h))) xa_nil)) ⟨b, _, _, rfl, ?_⟩)).is (Bool.false_or _)
          rw [if_pos h]
        · rw [if_neg h]
          exact (xt_or2 (c := true) (d := true) (xt_cmp (xc_isN' (xe_ixT (xe_var C.toCxt 5 rfl) xe_int (show atI _ _ = some dN from congrArg some (dMv_none h))) xe_non)) fun q => nomatch q)
      · rw [List.length_map]; omega
      · refine ⟨_, .keep (.keep (.drop (.keep (.keep (.drop (.keep .nil)))))), ?_⟩
        rw [List.range_succ, List.filter_append, List.map_append, List.filter_cons, if_pos q]
        rfl
      · refine ⟨_, .keep (.keep (.drop (.keep (.keep (.drop (.keep .nil)))))), ?_⟩
        rw [List.range_succ, List.filter_append, List.map_append, List.filter_cons, if_neg (by rw [q]; exact Bool.false_ne_true)]
        rw [List.filter_nil, List.map_nil, List.append_nil]
    · rintro G1 rfl
      rw [List.length_map, List.length_range]
      exact xss_freeze 4 rfl (xss_one (xs_ret (xe_var C.toCxt 4 rfl) rfl))

def prePaths (Cb : Addr) (ds : List D) (d : D) : Prop := ∃ (b : Bd) (s : Sv), b.Ok ∧ StOk b s ∧ ds = [dBd Cb b, dSv s] ∧ d = .lst ((pathsN b s).map (dPr b))
theorem ok_paths (B : BdC K Cb) (FC : Kn P w K mg base "closed_contacts" 3 (preClosed Cb)) (F : FunD K "paths" "paths" (defArgs (top 10)) (defBody (top 10)) (defScope (top 10)) [] [] f fd) :
    FnOk P w K mg base CX0 4 f fd ["board", "state"] (spD K (prePaths Cb)) :=
  fn_d F sc10 (fun ds d ⟨b, s, _, _, e, _⟩ => by rw [e]; rfl) fun X C ds d ⟨b, s, ok, sk, e1, e2⟩ => by
    subst e1 e2
    obtain rfl : X.K = K := C.eK
    have hl8 := clN_len ok s
    refine xss_cons (xs_asgN C 2 xn_nil ?_)
    refine xss_cons (xs_for C (xi_list (xe_call C.toCxt FC (xa_cons (xe_var C.toCxt 0 rfl) (xa_cons (xe_var C.toCxt 1 rfl) xa_nil)) ⟨b, s, ok, sk, rfl, rfl⟩))
      (fun j G1 => G1 = [.im (dBd Cb b), .im (dSv s), .ml X.K ((((clN b s).take j).flatMap fun i => pairsOf (b.con.getD i cn0)).map (dPr b)), .un, .un, .un, .un, .un]) rfl ?_ ?_)
    · rintro j d G1 hd rfl
      rw [List.getElem?_map] at hd
      cases hq : (clN b s)[j]? with
      | none => rw [hq] at hd; cases hd
      | some i =>
        rw [hq] at hd
        cases hd
        have hi : i < b.con.length := clN_lt (List.mem_of_getElem? hq)
        have fl := flatMap_len (f := fun i => pairsOf (b.con.getD i cn0)) (n := 2) (fun i => pairsOf_len _) ((clN b s).take j)
        have tl := List.length_take_le j (clN b s)
        have tl2 := List.length_take_le' j (clN b s)
        refine ⟨_, _, xtg_name C.toCxt 3, xss_cons (xs_asgG (xe_ixT (xe_contacts C.toCxt B (xe_var C.toCxt 0 rfl)) (xe_var C.toCxt 3 rfl) (atI_map (dCon b) cn0 hi))
          (xtg_tup C.toCxt (xts_cons (xtg_name C.toCxt 4) (xts_cons (xtg_name C.toCxt 5) (xts_cons (xtg_name C.toCxt 6) (xts_cons (xtg_name C.toCxt 6) (xts_cons (xtg_name C.toCxt 7) xts_nil))))) rfl)
          (xss_cons (xs_app C 2 rfl (xe_tup2 (xe_var C.toCxt 4 rfl) (xe_var C.toCxt 5 rfl)) ?_ (xss_one (xs_if ((xt_cmp (xc_eq (xe_var C.toCxt 7 rfl) xe_str rfl)).is (way_eq _)) (fun q => xss_one (xs_app C 2 rfl (xe_tup2 (xe_var C.toCxt 5 rfl) (xe_var C.toCxt 4 rfl)) ?_ ?_)) fun q => xss_nil ?_)))))⟩
        · rw [List.length_map]; omega
        · rw [List.length_append, List.length_map, List.length_singleton]; omega
        · refine ⟨_, .keep (.keep (.keep (.drop (.drop (.drop (.drop (.drop .nil))))))), ?_⟩
          rw [take_snoc hq, List.flatMap_append, List.map_append, List.flatMap_cons, List.flatMap_nil, List.append_nil]
          unfold pairsOf
          rw [if_pos q, List.append_assoc]
          rfl
        · refine ⟨_, .keep (.keep (.keep (.drop (.drop (.drop (.drop (.drop .nil))))))), ?_⟩
          rw [take_snoc hq, List.flatMap_append, List.map_append, List.flatMap_cons, List.flatMap_nil, List.append_nil]
          unfold pairsOf
          rw [if_neg (by rw [q]; exact Bool.false_ne_true)]
          rfl
    · rintro G1 rfl
      rw [List.length_map, List.take_length]
      exact xss_freeze 2 rfl (xss_one (xs_ret (xe_var C.toCxt 2 rfl) rfl))
end
end DL

namespace DL
open PySem L2

theorem sc15 : FnScope ["board", "state", "loads", "before", "behind", "found", "name", "one", "other"] ["board", "state", "loads"] (defScope (top 15)) := ⟨rfl, rfl, rfl, by decide +kernel, rfl, by decide +kernel, by decide +kernel⟩
theorem sc16 : FnScope ["board", "state"] ["board", "state"] (defScope (top 16)) := ⟨rfl, rfl, rfl, by decide +kernel, rfl, by decide +kernel, by decide +kernel⟩

def swapP (p : Nat × Nat) : Nat × Nat := (p.2, p.1)
def fedL (b : Bd) (s : Sv) : List Nat := (List.range b.nod.length).filter fun i => decide (i ∈ reachN b.nod.length (pathsN b s) 0)
def feedsL (b : Bd) (s : Sv) : List Nat := (List.range b.nod.length).filter fun i => decide (i ∈ reachN b.nod.length ((pathsN b s).map swapP) 1)
def shortN (b : Bd) (s : Sv) : Bool := decide (1 ∈ fedL b s)
def liveK (b : Bd) (s : Sv) (k : Nat) : Bool := (decide ((b.rel.getD k (0, 0)).1 ∈ fedL b s) && decide ((b.rel.getD k (0, 0)).2 ∈ feedsL b s)) || (decide ((b.rel.getD k (0, 0)).2 ∈ fedL b s) && decide ((b.rel.getD k (0, 0)).1 ∈ feedsL b s))
def liveL (b : Bd) (s : Sv) : List Nat := if s.2 then [] else ((List.range b.rel.length).filter (liveK b s)).map (b.nsw + ·)
theorem reachF_ok {n : Nat} {ps : List (Nat × Nat)} (hp : PrOk n ps) : ∀ (m : Nat) (f : List Nat) (p : Nat), NdL n f → NdL n (reachF ps m f p)
  | 0, f, p, h => h
  | m + 1, f, p, h => by
    unfold reachF
    cases f[p]? with
    | none => exact h
    | some x => exact reachF_ok hp m _ _ (h.fold hp)
theorem reachN_ok {n : Nat} {ps : List (Nat × Nat)} (hp : PrOk n ps) {st : Nat} (hs : st < n) : NdL n (reachN n ps st) := reachF_ok hp _ _ _ ⟨by simp, fun i hi => by rw [List.mem_singleton.mp hi]; exact hs⟩
theorem swap_ok {n : Nat} {ps : List (Nat × Nat)} (hp : PrOk n ps) : PrOk n (ps.map swapP) := fun p h => by
  obtain ⟨q, hq, rfl⟩ := List.mem_map.mp h
  exact ⟨(hp q hq).2, (hp q hq).1⟩
theorem fed_lt {b : Bd} {s : Sv} : ∀ i ∈ fedL b s, i < b.nod.length := fun i hi => List.mem_range.mp (List.mem_filter.mp hi).1
theorem feeds_lt {b : Bd} {s : Sv} : ∀ i ∈ feedsL b s, i < b.nod.length := fun i hi => List.mem_range.mp (List.mem_filter.mp hi).1
theorem rel_at {b : Bd} (ok : b.Ok) {k : Nat} (h : k < b.rel.length) : (b.rel.getD k (0, 0)).1 < b.nod.length ∧ (b.rel.getD k (0, 0)).2 < b.nod.length := by
  rw [getD_el _ h]
  obtain ⟨h1, h2, _⟩ := ok.re _ (List.getElem_mem h)
  exact ⟨h1, h2⟩

section
variable {P : Program} {w : World} {K : PySem.W.Frag} {mg : Str → Option Value} {base : Heap} {f Cb : Addr} {fd : FuncData}
def preReached (ds : List D) (d : D) : Prop := ∃ (b : Bd) (ps : List (Nat × Nat)) (st : Nat), b.Ok ∧ PrOk b.nod.length ps ∧ ps.length ≤ 100 ∧ st < b.nod.length ∧ ds = [.lst (ps.map (dPr b)), dS (b.nm st)] ∧ d = .lst (dNs b (reachN b.nod.length ps st))
theorem ok_reached (ml : mg "len" = none) (F : FunD K "reached" "reached" (defArgs (top 11)) (defBody (top 11)) (defScope (top 11)) [] [] f fd) : FnOk P w K mg base CX0 1 f fd ["pairs", "start"] (spD K preReached) :=
  fn_d F sc11 (fun ds d ⟨b, ps, st, _, _, _, _, e, _⟩ => by rw [e]; rfl) fun X C ds d ⟨b, ps, st, ok, hp, hl, hst, e1, e2⟩ => by
    subst e1 e2
    obtain rfl : X.K = K := C.eK
    have n6 := ok.n6
    refine xss_cons (xs_asgN (ds := dNs b [st]) C 2 (xn_lst (xa_cons (xe_var C.toCxt 1 rfl) xa_nil) (by rw [dNs_len]; simp)) (xss_cons (xs_asg C 3 xe_int ?_)))
    refine xss_cons (xs_while C (fun m G1 => ∃ f p, m + p = b.nod.length ∧ NdL b.nod.length f ∧ reachF ps m f p = reachN b.nod.length ps st ∧ G1 = [.im (.lst (ps.map (dPr b))), .im (dS (b.nm st)), .ml X.K (dNs b f), .im (dI (p : Int)), .un, .un]) b.nod.length
      ⟨[st], 0, rfl, ⟨by simp, fun i hi => by rw [List.mem_singleton.mp hi]; exact hst⟩, rfl, rfl⟩ ?_)
    rintro m G1 ⟨f, p, hm, hf, hr, rfl⟩
    have flen := hf.len
    refine ⟨_, xt_cmp (xc_lt (xe_var C.toCxt 3 rfl) (xe_lenL C.toCxt ml (xr_var C.toCxt 2 rfl))), fun q => ?_, fun q => ?_⟩
    · have q := of_decide_eq_true q
      rw [dNs_len] at q
      have hpl : p < f.length := by omega
      obtain ⟨m', rfl⟩ : ∃ m', m = m' + 1 := ⟨m - 1, by omega⟩
      have hx : f[p]? = some f[p] := List.getElem?_eq_getElem hpl
      unfold reachF at hr
      rw [hx] at hr
      refine xss_cons (xs_for C (xi_list (xe_var C.toCxt 0 rfl)) (fun j G1 => G1 = [.im (.lst (ps.map (dPr b))), .im (dS (b.nm st)), .ml X.K (dNs b ((ps.take j).foldl (grow1 f[p]) f)), .im (dI (p : Int)), .un, .un]) rfl ?_ ?_)
      · rintro j d G1 hd rfl
        rw [List.getElem?_map] at hd
        cases hq : ps[j]? with
        | none => rw [hq] at hd; cases hd
        | some pr =>
          rw [hq] at hd
          cases hd
          have hpr := hp pr (List.mem_of_getElem? hq)
          obtain ⟨r, er⟩ := fold_pre f[p] (ps.take j) f
          have hg : NdL b.nod.length ((ps.take j).foldl (grow1 f[p]) f) := hf.fold fun q hq => hp q (List.mem_of_mem_take hq)
          have glen := hg.len
          obtain ⟨g, eg⟩ : ∃ g, g = (ps.take j).foldl (grow1 f[p]) f := ⟨_, rfl⟩
          have step : (ps.take (j + 1)).foldl (grow1 f[p]) f = grow1 f[p] g pr := by rw [take_snoc hq, List.foldl_append, ← eg]; rfl
          rw [step]
          rw [← eg] at hg glen er ⊢
          have gp : g[p]? = some f[p] := by rw [er, List.getElem?_append_left hpl, hx]
          refine ⟨_, _, xtg_tup C.toCxt (xts_cons (xtg_name C.toCxt 4) (xts_cons (xtg_name C.toCxt 5) xts_nil)) rfl, xss_one (xs_if (xt_and2 (c := decide (pr.1 = f[p])) (d := !decide (pr.2 ∈ g))
            ((xt_cmp (xc_eq (v := .str (b.nm f[p])) (xe_var C.toCxt 4 rfl) (xe_ixL (ds := dNs b g) (xr_var C.toCxt 2 rfl) (xe_var C.toCxt 3 rfl) ?_) rfl)).is (nm_eq ok.nn hpr.1 (hf.2 _ (List.getElem_mem hpl))))
            (fun _ => (xt_cmp (xc_niL (vs := g.map fun i => V.str (b.nm i)) (xe_var C.toCxt 5 rfl) (xr_var C.toCxt 2 rfl) rfl (flat_s b.nm g))).is (by rw [inV_nm ok.nn hpr.2 hg.2]))) (fun q => ?_) (fun q => ?_))⟩
          · unfold dNs
            rw [atI_nat, List.getElem?_map, List.getElem?_map, gp]
            rfl
          · refine xss_one (xs_app C 2 rfl (xe_var C.toCxt 5 rfl) (by rw [dNs_len]; omega) ⟨_, .keep (.keep (.keep (.keep (.drop (.drop .nil))))), ?_⟩)
            unfold grow1
            rw [if_pos q, dNs_snoc]
          · refine xss_nil ⟨_, .keep (.keep (.keep (.keep (.drop (.drop .nil))))), ?_⟩
            unfold grow1
            rw [if_neg (by rw [q]; exact Bool.false_ne_true)]
      · rintro G1 rfl
        rw [List.length_map, List.take_length]
        exact xss_one (xs_aug C 3 rfl xe_int ⟨m', by omega, _, Wk.refl _, _, p + 1, by omega, hf.fold hp, hr, rfl⟩)
    · have q := of_decide_eq_false q
      rw [dNs_len] at q
      have e : reachF ps m f p = f := by
        cases m with
        | zero => rfl
        | succ m =>
          unfold reachF
          rw [List.getElem?_eq_none (by omega)]
      rw [e] at hr
      subst hr
      exact xss_freeze 2 rfl (xss_one (xs_ret (xe_var C.toCxt 2 rfl) rfl))

def preFed (Cb : Addr) (ds : List D) (d : D) : Prop := ∃ (b : Bd) (s : Sv), b.Ok ∧ StOk b s ∧ ds = [dBd Cb b, dSv s] ∧ d = .lst (dNs b (fedL b s))
def preFeeds (Cb : Addr) (ds : List D) (d : D) : Prop := ∃ (b : Bd) (s : Sv), b.Ok ∧ StOk b s ∧ ds = [dBd Cb b, dSv s] ∧ d = .lst (dNs b (feedsL b s))
theorem ok_fed (B : BdC K Cb) (FR : Kn P w K mg base "reached" 1 preReached) (FP : Kn P w K mg base "paths" 4 (prePaths Cb)) (Fp : KnP P w K mg base Cb "plus" 1 (prePlus Cb)) (F : FunD K "fed" "fed" (defArgs (top 12)) (defBody (top 12)) (defScope (top 12)) [] [] f fd) :
    FnOk P w K mg base CX0 5 f fd ["board", "state"] (spD K (preFed Cb)) :=
  fn_d F sc12 (fun ds d ⟨b, s, _, _, e, _⟩ => by rw [e]; rfl) fun X C ds d ⟨b, s, ok, sk, e1, e2⟩ => by
    subst e1 e2
    have n6 := ok.n6
    have n2 := ok.n2
    have pl := paths_len ok s
    have rk := reachN_ok (paths_ok ok s) (st := 0) (by omega)
    refine xss_cons (xs_asg C 2 (d := .lst (dNs b (reachN b.nod.length (pathsN b s) 0))) (xe_call C.toCxt FR (xa_cons (xe_call C.toCxt FP (xa_cons (xe_var C.toCxt 0 rfl) (xa_cons (xe_var C.toCxt 1 rfl) xa_nil)) ⟨b, s, ok, sk, rfl, rfl⟩) (xa_cons (xe_prop C.toCxt Fp (xe_var C.toCxt 0 rfl) ⟨b, ok, rfl, rfl⟩) xa_nil)) ⟨b, _, 0, ok, paths_ok ok s, by omega, by omega, rfl, rfl⟩) ?_)
    refine xss_one (xs_ret (XN.toE (xn_lc (own := [("node", 3)]) (ds := dNs b (fedL b s)) C.toCxt ⟨by decide +kernel, Nat, List.range b.nod.length, fun i => dS (b.nm i), fun i => [.im (dBd Cb b), .im (dSv s), .im (.lst (dNs b (reachN b.nod.length (pathsN b s) 0))), .im (dS (b.nm i))], fun i => decide (i ∈ reachN b.nod.length (pathsN b s) 0), fun i => dS (b.nm i), ?_, ?_, ?_, fun X' C' i hi => ⟨⟨[3], fun i hi => hi, xtg_name C' 3⟩, ?_, fun _ => xe_var C' 3 rfl⟩⟩)) rfl)
    · unfold dNs fedL; rw [List.map_map]; rfl
    · refine XI.is (xi_tup (xe_nodes C.toCxt B (xe_var C.toCxt 0 rfl))) ?_
      rw [nod_dNs]; unfold dNs; rw [List.map_map]; rfl
    · rw [List.length_range]; omega
    · exact xf_one ((xt_cmp (xc_inL (vs := (reachN b.nod.length (pathsN b s) 0).map fun i => V.str (b.nm i)) (xe_var C' 3 rfl) (XE.r (xe_var C' 2 rfl)) rfl (flat_s b.nm _))).is (inV_nm ok.nn (List.mem_range.mp hi) rk.2))
theorem ok_feeds (B : BdC K Cb) (FR : Kn P w K mg base "reached" 1 preReached) (FP : Kn P w K mg base "paths" 4 (prePaths Cb)) (Fp : KnP P w K mg base Cb "minus" 1 (preMinus Cb)) (F : FunD K "feeds" "feeds" (defArgs (top 13)) (defBody (top 13)) (defScope (top 13)) [] [] f fd) :
    FnOk P w K mg base CX0 5 f fd ["board", "state"] (spD K (preFeeds Cb)) :=
  fn_d F sc13 (fun ds d ⟨b, s, _, _, e, _⟩ => by rw [e]; rfl) fun X C ds d ⟨b, s, ok, sk, e1, e2⟩ => by
    subst e1 e2
    have n6 := ok.n6
    have n2 := ok.n2
    have pl := paths_len ok s
    have po := swap_ok (paths_ok ok s)
    have rk := reachN_ok po (st := 1) (by omega)
    refine xss_cons (xs_lc (own := [("source", 5), ("target", 4)]) C 2 (ds := ((pathsN b s).map swapP).map (dPr b)) ⟨by decide +kernel, Nat × Nat, pathsN b s, dPr b, fun p => [.im (dBd Cb b), .im (dSv s), .un, .un, .im (dS (b.nm p.2)), .im (dS (b.nm p.1)), .un], fun _ => true, fun p => dPr b (swapP p), ?_, ?_, ?_, fun X' C' p hp => ⟨⟨[5, 4], fun i hi => hi, ?_⟩, xf_nil, fun _ => xe_tup2 (xe_var C' 4 rfl) (xe_var C' 5 rfl)⟩⟩ ?_)
    · rw [List.filter_eq_self.mpr fun _ _ => rfl, List.map_map]; rfl
    · exact xi_list (xe_call C.toCxt FP (xa_cons (xe_var C.toCxt 0 rfl) (xa_cons (xe_var C.toCxt 1 rfl) xa_nil)) ⟨b, s, ok, sk, rfl, rfl⟩)
    · omega
    · exact xtg_tup C' (xts_cons (xtg_name C' 5) (xts_cons (xtg_name C' 4) xts_nil)) rfl
    refine xss_cons (xs_asg C 3 (d := .lst (dNs b (reachN b.nod.length ((pathsN b s).map swapP) 1))) (xe_call C.toCxt FR (xa_cons (xe_var C.toCxt 2 rfl) (xa_cons (xe_prop C.toCxt Fp (xe_var C.toCxt 0 rfl) ⟨b, ok, rfl, rfl⟩) xa_nil)) ⟨b, _, 1, ok, po, by rw [List.length_map]; omega, by omega, rfl, rfl⟩) ?_)
    refine xss_one (xs_ret (XN.toE (xn_lc (own := [("node", 6)]) (ds := dNs b (feedsL b s)) C.toCxt ⟨by decide +kernel, Nat, List.range b.nod.length, fun i => dS (b.nm i), fun i => [.im (dBd Cb b), .im (dSv s), .im (.lst (((pathsN b s).map swapP).map (dPr b))), .im (.lst (dNs b (reachN b.nod.length ((pathsN b s).map swapP) 1))), .un, .un, .im (dS (b.nm i))], fun i => decide (i ∈ reachN b.nod.length ((pathsN b s).map swapP) 1), fun i => dS (b.nm i), ?_, ?_, ?_, fun X' C' i hi => ⟨⟨[6], fun i hi => hi, xtg_name C' 6⟩, ?_, fun _ => xe_var C' 6 rfl⟩⟩)) rfl)
    · unfold dNs feedsL; rw [List.map_map]; rfl
    · refine XI.is (xi_tup (xe_nodes C.toCxt B (xe_var C.toCxt 0 rfl))) ?_
      rw [nod_dNs]; unfold dNs; rw [List.map_map]; rfl
    · rw [List.length_range]; omega
    · exact xf_one ((xt_cmp (xc_inL (vs := (reachN b.nod.length ((pathsN b s).map swapP) 1).map fun i => V.str (b.nm i)) (xe_var C' 6 rfl) (XE.r (xe_var C' 3 rfl)) rfl (flat_s b.nm _))).is (inV_nm ok.nn (List.mem_range.mp hi) rk.2))
def preShort (Cb : Addr) (ds : List D) (d : D) : Prop := ∃ (b : Bd) (s : Sv), b.Ok ∧ StOk b s ∧ ds = [dBd Cb b, dSv s] ∧ d = dB (shortN b s)
theorem ok_short (FF : Kn P w K mg base "fed" 5 (preFed Cb)) (Fp : KnP P w K mg base Cb "minus" 1 (preMinus Cb)) (F : FunD K "is_short" "is_short" (defArgs (top 14)) (defBody (top 14)) (defScope (top 14)) [] [] f fd) :
    FnOk P w K mg base CX0 6 f fd ["board", "state"] (spD K (preShort Cb)) :=
  fn_d F sc14 (fun ds d ⟨b, s, _, _, e, _⟩ => by rw [e]; rfl) fun X C ds d ⟨b, s, ok, sk, e1, e2⟩ => by
    subst e1 e2
    have n2 := ok.n2
    refine xss_one (xs_ret (xe_cmp (xc_inL (vs := (fedL b s).map fun i => V.str (b.nm i)) (xe_prop C.toCxt Fp (xe_var C.toCxt 0 rfl) ⟨b, ok, rfl, rfl⟩) (XE.r (xe_call C.toCxt FF (xa_cons (xe_var C.toCxt 0 rfl) (xa_cons (xe_var C.toCxt 1 rfl) xa_nil)) ⟨b, s, ok, sk, rfl, rfl⟩)) rfl (flat_s b.nm _))) ?_)
    rw [inV_nm ok.nn (by omega) fed_lt]
    rfl

def preLiveN (Cb : Addr) (ds : List D) (d : D) : Prop := ∃ (b : Bd) (s : Sv), b.Ok ∧ StOk b s ∧ ds = [dBd Cb b, dSv s, .tup b.rels] ∧ d = .lst (dMs b (liveL b s))
theorem ok_liveN (FF : Kn P w K mg base "fed" 5 (preFed Cb)) (FG : Kn P w K mg base "feeds" 5 (preFeeds Cb)) (F : FunD K "live_names" "live_names" (defArgs (top 15)) (defBody (top 15)) (defScope (top 15)) [] [] f fd) :
    FnOk P w K mg base CX0 6 f fd ["board", "state", "loads"] (spD K (preLiveN Cb)) :=
  fn_d F sc15 (fun ds d ⟨b, s, _, _, e, _⟩ => by rw [e]; rfl) fun X C ds d ⟨b, s, ok, sk, e1, e2⟩ => by
    subst e1 e2
    obtain rfl : X.K = K := C.eK
    have r3 := ok.r3
    have sw := ok.sw
    refine xss_cons (xs_if (xt_val (xe_fuse (xe_var C.toCxt 1 rfl))) (fun q => xss_one (xs_ret (XN.toE xn_nil) ?_)) fun q => xss_nil ?_)
    · unfold liveL; rw [if_pos q]; rfl
    refine xss_cons (xs_asg C 3 (d := .lst (dNs b (fedL b s))) (xe_call C.toCxt FF (xa_cons (xe_var C.toCxt 0 rfl) (xa_cons (xe_var C.toCxt 1 rfl) xa_nil)) ⟨b, s, ok, sk, rfl, rfl⟩) ?_)
    refine xss_cons (xs_asg C 4 (d := .lst (dNs b (feedsL b s))) (xe_call C.toCxt FG (xa_cons (xe_var C.toCxt 0 rfl) (xa_cons (xe_var C.toCxt 1 rfl) xa_nil)) ⟨b, s, ok, sk, rfl, rfl⟩) ?_)
    refine xss_cons (xs_asgN C 5 xn_nil ?_)
    refine xss_cons (xs_for C (xi_tup (xe_var C.toCxt 2 rfl)) (fun j G1 => G1 = [.im (dBd Cb b), .im (dSv s), .im (.tup b.rels), .im (.lst (dNs b (fedL b s))), .im (.lst (dNs b (feedsL b s))), .ml X.K (dMs b (((List.range j).filter (liveK b s)).map (b.nsw + ·))), .un, .un, .un]) rfl ?_ ?_)
    · rintro j d G1 hd rfl
      have hj : j < b.rel.length := by
        have := (List.getElem?_eq_some_iff.mp hd).1
        unfold Bd.rels at this
        rwa [List.length_map, List.length_range] at this
      unfold Bd.rels at hd
      rw [List.getElem?_map, List.getElem?_range hj] at hd
      cases hd
      obtain ⟨h1, h2⟩ := rel_at ok hj
      have hfl := range_filter_len j (liveK b s)
      refine ⟨_, _, xtg_tup C.toCxt (xts_cons (xtg_name C.toCxt 6) (xts_cons (xtg_name C.toCxt 7) (xts_cons (xtg_name C.toCxt 8) xts_nil))) rfl, xss_one (xs_if (bb := liveK b s j) (xt_or2
        (xt_and2 ((xt_cmp (xc_inL (vs := (fedL b s).map fun i => V.str (b.nm i)) (xe_var C.toCxt 7 rfl) (XE.r (xe_var C.toCxt 3 rfl)) rfl (flat_s b.nm _))).is (inV_nm ok.nn h1 fed_lt)) fun _ => (xt_cmp (xc_inL (vs := (feedsL b s).map fun i => V.str (b.nm i)) (xe_var C.toCxt 8 rfl) (XE.r (xe_var C.toCxt 4 rfl)) rfl (flat_s b.nm _))).is (inV_nm ok.nn h2 feeds_lt))
        fun _ => xt_and2 ((xt_cmp (xc_inL (vs := (fedL b s).map fun i => V.str (b.nm i)) (xe_var C.toCxt 8 rfl) (XE.r (xe_var C.toCxt 3 rfl)) rfl (flat_s b.nm _))).is (inV_nm ok.nn h2 fed_lt)) fun _ => (xt_cmp (xc_inL (vs := (feedsL b s).map fun i => V.str (b.nm i)) (xe_var C.toCxt 7 rfl) (XE.r (xe_var C.toCxt 4 rfl)) rfl (flat_s b.nm _))).is (inV_nm ok.nn h1 feeds_lt))
        (fun q => xss_one (xs_app C 5 rfl (xe_var C.toCxt 6 rfl) ?_ ?_)) fun q => xss_nil ?_)⟩
      · rw [dMs_len, List.length_map]; omega
      · refine ⟨_, .keep (.keep (.keep (.keep (.keep (.keep (.drop (.drop (.drop .nil)))))))), ?_⟩
        rw [List.range_succ, List.filter_append, List.map_append, List.filter_cons, if_pos q]
        rw [List.filter_nil, List.map_cons, List.map_nil, dMs_snoc]
      · refine ⟨_, .keep (.keep (.keep (.keep (.keep (.keep (.drop (.drop (.drop .nil)))))))), ?_⟩
        rw [List.range_succ, List.filter_append, List.map_append, List.filter_cons, if_neg (by rw [q]; exact Bool.false_ne_true)]
        rw [List.filter_nil, List.map_nil, List.append_nil]
    · rintro G1 rfl
      unfold Bd.rels
      rw [List.length_map, List.length_range]
      refine xss_freeze 5 rfl (xss_one (xs_ret (xe_var C.toCxt 5 rfl) ?_))
      unfold liveL
      rw [if_neg (by rw [q]; exact Bool.false_ne_true)]
def preLiveR (Cb : Addr) (ds : List D) (d : D) : Prop := ∃ (b : Bd) (s : Sv), b.Ok ∧ StOk b s ∧ ds = [dBd Cb b, dSv s] ∧ d = .lst (dMs b (liveL b s))
theorem ok_liveR (B : BdC K Cb) (FL : Kn P w K mg base "live_names" 6 (preLiveN Cb)) (F : FunD K "live_relays" "live_relays" (defArgs (top 16)) (defBody (top 16)) (defScope (top 16)) [] [] f fd) :
    FnOk P w K mg base CX0 7 f fd ["board", "state"] (spD K (preLiveR Cb)) :=
  fn_d F sc16 (fun ds d ⟨b, s, _, _, e, _⟩ => by rw [e]; rfl) fun X C ds d ⟨b, s, ok, sk, e1, e2⟩ => by
    subst e1 e2
    exact xss_one (xs_ret (xe_call C.toCxt FL (xa_cons (xe_var C.toCxt 0 rfl) (xa_cons (xe_var C.toCxt 1 rfl) (xa_cons (xe_relays C.toCxt B (xe_var C.toCxt 0 rfl)) xa_nil))) ⟨b, s, ok, sk, rfl, rfl⟩) rfl)
end
end DL

namespace DL
open PySem L2

theorem sc18 : FnScope ["board", "state"] ["board", "state"] (defScope (top 18)) := ⟨rfl, rfl, rfl, by decide +kernel, rfl, by decide +kernel, by decide +kernel⟩
theorem sc19 : FnScope ["board", "movers"] ["board"] (defScope (top 19)) := ⟨rfl, rfl, rfl, by decide +kernel, rfl, by decide +kernel, by decide +kernel⟩
theorem sc20 : FnScope ["board", "state", "live", "found", "relay", "up"] ["board", "state"] (defScope (top 20)) := ⟨rfl, rfl, rfl, by decide +kernel, rfl, by decide +kernel, by decide +kernel⟩
theorem sc21 : FnScope ["board", "state", "move", "number", "movers"] ["board", "state", "move"] (defScope (top 21)) := ⟨rfl, rfl, rfl, by decide +kernel, rfl, by decide +kernel, by decide +kernel⟩

def kindS (k : Bool) : Str := if k then "relay" else "hand"
def dMo (b : Bd) (m : Bool × Nat) : D := .tup [dS (kindS m.1), dS (b.mn m.2)]
def flipN (l : List Bool) (i : Nat) : List Bool := l.set i (!l.getD i false)
def stepN (b : Bd) (s : Sv) (i : Nat) : Sv := (flipN s.1 i, s.2 || shortN b (flipN s.1 i, s.2))
def firstN (b : Bd) : Sv := (List.replicate b.mvs.length false, shortN b (List.replicate b.mvs.length false, false))
def dueK (b : Bd) (s : Sv) (k : Nat) : Bool := !(s.1.getD (b.nsw + k) false == decide (b.nsw + k ∈ liveL b s))
def dueN (b : Bd) (s : Sv) : List Nat := ((List.range b.rel.length).filter (dueK b s)).map (b.nsw + ·)
theorem live_lt {b : Bd} (ok : b.Ok) {s : Sv} : ∀ i ∈ liveL b s, i < b.mvs.length := fun i hi => by
  have sw := ok.sw
  unfold liveL at hi
  split at hi
  · cases hi
  · obtain ⟨k, hk, rfl⟩ := List.mem_map.mp hi
    have := List.mem_range.mp (List.mem_filter.mp hk).1
    omega
theorem due_lt {b : Bd} (ok : b.Ok) {s : Sv} : ∀ i ∈ dueN b s, i < b.mvs.length := fun i hi => by
  have sw := ok.sw
  obtain ⟨k, hk, rfl⟩ := List.mem_map.mp hi
  have := List.mem_range.mp (List.mem_filter.mp hk).1
  omega
theorem due_len {b : Bd} (s : Sv) : (dueN b s).length ≤ b.rel.length := by
  unfold dueN
  rw [List.length_map]
  exact range_filter_len _ _
theorem flip_len (l : List Bool) (i : Nat) : (flipN l i).length = l.length := List.length_set
theorem step_ok {b : Bd} {s : Sv} (h : StOk b s) (i : Nat) : StOk b (stepN b s i) := (flip_len _ _).trans h
theorem first_ok (b : Bd) : StOk b (firstN b) := List.length_replicate
theorem cutD_lo (l : List D) (i : Nat) (h : i ≤ l.length) : cutD l none (some (i : Int)) = l.take i := by
  unfold cutD
  rw [HT.sIx_none, HT.sIx_nat, Nat.min_eq_left h, List.drop_zero, Nat.sub_zero]
theorem cutD_hi (l : List D) (i : Nat) (h : i ≤ l.length) : cutD l (some (i : Int)) none = l.drop i := by
  unfold cutD
  rw [HT.sIx_none, HT.sIx_nat, Nat.min_eq_left h, List.take_of_length_le (by rw [List.length_drop]; omega)]
theorem set_parts {α : Type} {l : List α} {i : Nat} (x : α) (h : i < l.length) : l.take i ++ [x] ++ l.drop (i + 1) = l.set i x := by
  rw [List.set_eq_take_append_cons_drop, if_pos h, List.append_assoc]
  rfl

section
variable {P : Program} {w : World} {K : PySem.W.Frag} {mg : Str → Option Value} {base : Heap} {f Cb : Addr} {fd : FuncData}
def preCheck (Cb : Addr) (ds : List D) (d : D) : Prop := ∃ (b : Bd) (s : Sv), b.Ok ∧ StOk b s ∧ (s.2 = true ∨ shortN b s = false) ∧ ds = [dBd Cb b, dSv s] ∧ d = dN
theorem ok_check (FM : KnP P w K mg base Cb "movers" 1 (preMovers Cb)) (FS : Kn P w K mg base "is_short" 6 (preShort Cb)) (ml : mg "len" = none) (F : FunD K "check_state" "check_state" (defArgs (top 18)) (defBody (top 18)) (defScope (top 18)) [] [] f fd) :
    FnOk P w K mg base CX0 7 f fd ["board", "state"] (spD K (preCheck Cb)) :=
  fn_d F sc18 (fun ds d ⟨b, s, _, _, _, e, _⟩ => by rw [e]; rfl) fun X C ds d ⟨b, s, ok, sk, hc, e1, e2⟩ => by
    subst e1 e2
    refine xss_cons (xs_if (bb := false) ((xt_cmp (xc_ne (xe_lenT C.toCxt ml (xe_pos (xe_var C.toCxt 1 rfl))) (xe_lenT C.toCxt ml (xe_prop C.toCxt FM (xe_var C.toCxt 0 rfl) ⟨b, ok, rfl, rfl⟩)) rfl)).is ?_) (fun q => nomatch q) fun _ => xss_nil ?_)
    · rw [List.length_map, List.length_map, show s.1.length = b.mvs.length from sk]
      simp
    refine xss_one (xs_if (bb := false) ((xt_and2 (xt_not (xt_val (xe_fuse (xe_var C.toCxt 1 rfl)))) fun _ => xt_val (xe_call C.toCxt FS (xa_cons (xe_var C.toCxt 0 rfl) (xa_cons (xe_var C.toCxt 1 rfl) xa_nil)) ⟨b, s, ok, sk, rfl, rfl⟩)).is ?_) (fun q => nomatch q) fun _ => xss_nil rfl)
    rcases hc with z | z <;> rw [z]
    · rfl
    · exact Bool.and_false _
def preFirst (Cb : Addr) (ds : List D) (d : D) : Prop := ∃ b : Bd, b.Ok ∧ ds = [dBd Cb b] ∧ d = dSv (firstN b)
theorem ok_first (FM : KnP P w K mg base Cb "movers" 1 (preMovers Cb)) (FS : Kn P w K mg base "is_short" 6 (preShort Cb)) (ml : mg "len" = none) (F : FunD K "first_state" "first_state" (defArgs (top 19)) (defBody (top 19)) (defScope (top 19)) [] [] f fd) :
    FnOk P w K mg base CX0 7 f fd ["board"] (spD K (preFirst Cb)) :=
  fn_d F sc19 (fun ds d ⟨b, _, e, _⟩ => by rw [e]; rfl) fun X C ds d ⟨b, ok, e1, e2⟩ => by
    subst e1 e2
    have sw := ok.sw
    have s2 := ok.s2
    have r3 := ok.r3
    refine xss_cons (xs_asg C 1 (d := .tup ((List.replicate b.mvs.length false).map dB)) ((xe_rep (xe_tup (xa_cons xe_bl xa_nil) (by simp)) (xe_lenT C.toCxt ml (xe_prop C.toCxt FM (xe_var C.toCxt 0 rfl) ⟨b, ok, rfl, rfl⟩)) (by omega) (by rw [List.length_map]; omega)).is ?_) ?_)
    · rw [List.map_replicate, List.length_map, Int.toNat_natCast]
    exact xss_one (xs_ret (xe_tup2 (xe_var C.toCxt 1 rfl) (xe_call C.toCxt FS (xa_cons (xe_var C.toCxt 0 rfl) (xa_cons (xe_tup2 (xe_var C.toCxt 1 rfl) xe_bl) xa_nil)) ⟨b, (List.replicate b.mvs.length false, false), ok, List.length_replicate, rfl, rfl⟩)) rfl)
def preDue (Cb : Addr) (ds : List D) (d : D) : Prop := ∃ (b : Bd) (s : Sv), b.Ok ∧ StOk b s ∧ ds = [dBd Cb b, dSv s] ∧ d = .lst (dMs b (dueN b s))
theorem ok_due (B : BdC K Cb) (FN : KnM P w K mg base Cb "mover_number" 3 (preNumber Cb)) (FL : Kn P w K mg base "live_relays" 7 (preLiveR Cb)) (F : FunD K "due" "due" (defArgs (top 20)) (defBody (top 20)) (defScope (top 20)) [] [] f fd) :
    FnOk P w K mg base CX0 8 f fd ["board", "state"] (spD K (preDue Cb)) :=
  fn_d F sc20 (fun ds d ⟨b, s, _, _, e, _⟩ => by rw [e]; rfl) fun X C ds d ⟨b, s, ok, sk, e1, e2⟩ => by
    subst e1 e2
    obtain rfl : X.K = K := C.eK
    have r3 := ok.r3
    have sw := ok.sw
    refine xss_cons (xs_asg C 2 (d := .lst (dMs b (liveL b s))) (xe_call C.toCxt FL (xa_cons (xe_var C.toCxt 0 rfl) (xa_cons (xe_var C.toCxt 1 rfl) xa_nil)) ⟨b, s, ok, sk, rfl, rfl⟩) ?_)
    refine xss_cons (xs_asgN C 3 xn_nil ?_)
    refine xss_cons (xs_for C (xi_tup (xe_relays C.toCxt B (xe_var C.toCxt 0 rfl))) (fun j G1 => G1 = [.im (dBd Cb b), .im (dSv s), .im (.lst (dMs b (liveL b s))), .ml X.K (dMs b (((List.range j).filter (dueK b s)).map (b.nsw + ·))), .un, .un]) rfl ?_ ?_)
    · rintro j d G1 hd rfl
      have hj : j < b.rel.length := by
        have := (List.getElem?_eq_some_iff.mp hd).1
        unfold Bd.rels at this
        rwa [List.length_map, List.length_range] at this
      unfold Bd.rels at hd
      rw [List.getElem?_map, List.getElem?_range hj] at hd
      cases hd
      have hm : b.nsw + j < b.mvs.length := by omega
      have hfl := range_filter_len j (dueK b s)
      refine ⟨_, _, xtg_name C.toCxt 4, xss_cons (xs_asg C 5 (xe_ixT (xe_pos (xe_var C.toCxt 1 rfl)) (xe_meth C.toCxt FN (xe_var C.toCxt 0 rfl) (xa_cons (xe_ixT (xe_var C.toCxt 4 rfl) xe_int (show atI _ _ = some (dS (b.mn (b.nsw + j))) from rfl)) xa_nil) rfl ⟨b, b.nsw + j, ok, hm, rfl, rfl⟩) (atI_map dB false (by rw [sk]; exact hm)))
        (xss_one (xs_if (bb := dueK b s j) ((xt_cmp (xc_ne (u := .bl _) (v := .bl _) (xe_var C.toCxt 5 rfl) (xe_cmp (xc_inL (vs := (liveL b s).map fun i => V.str (b.mn i)) (xe_ixT (xe_var C.toCxt 4 rfl) xe_int (show atI _ _ = some (dS (b.mn (b.nsw + j))) from rfl)) (XE.r (xe_var C.toCxt 2 rfl)) rfl (flat_s b.mn _))) rfl)).is ?_) (fun q => xss_one (xs_app C 3 rfl (xe_ixT (xe_var C.toCxt 4 rfl) xe_int (show atI _ _ = some (dS (b.mn (b.nsw + j))) from rfl)) ?_ ?_)) fun q => xss_nil ?_)))⟩
      · rw [bl_eq, inV_mn ok.mm hm (live_lt ok)]
        rfl
      · rw [dMs_len, List.length_map]; omega
      · refine ⟨_, .keep (.keep (.keep (.keep (.drop (.drop .nil))))), ?_⟩
        rw [List.range_succ, List.filter_append, List.map_append, List.filter_cons, if_pos q]
        rw [List.filter_nil, List.map_cons, List.map_nil, dMs_snoc]
      · refine ⟨_, .keep (.keep (.keep (.keep (.drop (.drop .nil))))), ?_⟩
        rw [List.range_succ, List.filter_append, List.map_append, List.filter_cons, if_neg (by rw [q]; exact Bool.false_ne_true)]
        rw [List.filter_nil, List.map_nil, List.append_nil]
    · rintro G1 rfl
      unfold Bd.rels
      rw [List.length_map, List.length_range]
      exact xss_freeze 3 rfl (xss_one (xs_ret (xe_var C.toCxt 3 rfl) rfl))
def preStep (Cb : Addr) (ds : List D) (d : D) : Prop := ∃ (b : Bd) (s : Sv) (m : Bool × Nat), b.Ok ∧ StOk b s ∧ m.2 < b.mvs.length ∧ ds = [dBd Cb b, dSv s, dMo b m] ∧ d = dSv (stepN b s m.2)
theorem ok_step (FN : KnM P w K mg base Cb "mover_number" 3 (preNumber Cb)) (FS : Kn P w K mg base "is_short" 6 (preShort Cb)) (F : FunD K "step" "step" (defArgs (top 21)) (defBody (top 21)) (defScope (top 21)) [] [] f fd) :
    FnOk P w K mg base CX0 7 f fd ["board", "state", "move"] (spD K (preStep Cb)) :=
  fn_d F sc21 (fun ds d ⟨b, s, m, _, _, _, e, _⟩ => by rw [e]; rfl) fun X C ds d ⟨b, s, m, ok, sk, hm, e1, e2⟩ => by
    subst e1 e2
    have sw := ok.sw
    have s2 := ok.s2
    have r3 := ok.r3
    have hl : m.2 < s.1.length := by rw [show s.1.length = b.mvs.length from sk]; exact hm
    have hl5 : s.1.length ≤ 5 := by rw [show s.1.length = b.mvs.length from sk]; omega
    refine xss_cons (xs_asg C 3 (xe_meth C.toCxt FN (xe_var C.toCxt 0 rfl) (xa_cons (xe_ixT (xe_var C.toCxt 2 rfl) xe_int (show atI _ _ = some (dS (b.mn m.2)) from rfl)) xa_nil) rfl ⟨b, m.2, ok, hm, rfl, rfl⟩) ?_)
    refine xss_cons (xs_asg C 4 (d := .tup ((flipN s.1 m.2).map dB)) ((xe_catT (xe_catT (xe_slT (xe_pos (xe_var C.toCxt 1 rfl)) xo_none (xo_some (xe_var C.toCxt 3 rfl))) (xe_tup (xa_cons (xe_not (xe_ixT (xe_pos (xe_var C.toCxt 1 rfl)) (xe_var C.toCxt 3 rfl) (atI_map dB false hl))) xa_nil) (by simp)) ?_) (xe_slT (xe_pos (xe_var C.toCxt 1 rfl)) (xo_some (xe_add (xe_var C.toCxt 3 rfl) xe_int)) xo_none) ?_).is ?_) ?_)
    · rw [cutD_lo _ _ (by rw [List.length_map]; omega), List.length_take, List.length_map, List.length_singleton]; omega
    · have e : ((m.2 : Int) + 1) = ((m.2 + 1 : Nat) : Int) := by omega
      rw [e, cutD_lo _ _ (by rw [List.length_map]; omega), cutD_hi _ _ (by rw [List.length_map]; omega), List.length_append, List.length_take, List.length_drop, List.length_map, List.length_singleton]; omega
    · have e : ((m.2 : Int) + 1) = ((m.2 + 1 : Nat) : Int) := by omega
      rw [e, cutD_lo _ _ (by rw [List.length_map]; omega), cutD_hi _ _ (by rw [List.length_map]; omega)]
      unfold flipN
      rw [← set_parts _ hl, List.map_append, List.map_append, List.map_take, List.map_drop]
      rfl
    exact xss_one (xs_ret (xe_tup2 (xe_var C.toCxt 4 rfl) (xe_or2 (xe_fuse (s := s) (xe_var C.toCxt 1 rfl)) fun _ => xe_call C.toCxt FS (xa_cons (xe_var C.toCxt 0 rfl) (xa_cons (xe_tup2 (xe_var C.toCxt 4 rfl) (xe_fuse (s := s) (xe_var C.toCxt 1 rfl))) xa_nil)) ⟨b, (flipN s.1 m.2, s.2), ok, (flip_len _ _).trans sk, rfl, rfl⟩)) rfl)
end
end DL

namespace DL
open PySem L2

theorem sc25 : FnScope ["board", "state", "hurry", "waiting", "found", "name"] ["board", "state", "hurry"] (defScope (top 25)) := ⟨rfl, rfl, rfl, by decide +kernel, rfl, by decide +kernel, by decide +kernel⟩
theorem sc26 : FnScope ["board", "starts", "hurry", "limit", "search", "start", "at", "state", "move"] ["board", "starts", "hurry", "limit"] (defScope (top 26)) := ⟨rfl, rfl, rfl, by decide +kernel, rfl, by decide +kernel, by decide +kernel⟩
theorem sc27 : FnScope ["board", "hurry", "limit"] ["board", "hurry", "limit"] (defScope (top 27)) := ⟨rfl, rfl, rfl, by decide +kernel, rfl, by decide +kernel, by decide +kernel⟩
theorem sc24_0 : FnScope ["self", "limit"] ["self", "limit"] (defScope (inClass (top 24) 0)) := ⟨rfl, rfl, rfl, by decide +kernel, rfl, by decide +kernel, by decide +kernel⟩
theorem sc24_1 : FnScope ["self", "state", "source"] ["self", "state", "source"] (defScope (inClass (top 24) 1)) := ⟨rfl, rfl, rfl, by decide +kernel, rfl, by decide +kernel, by decide +kernel⟩

def mvL (b : Bd) (s : Sv) (h : Nat) : List (Bool × Nat) := (if (dueN b s).length ≤ h then (List.range b.nsw).map fun i => (false, i) else []) ++ (dueN b s).map fun i => (true, i)
theorem mvL_lt {b : Bd} (ok : b.Ok) {s : Sv} {h : Nat} : ∀ m ∈ mvL b s h, m.2 < b.mvs.length := fun m hm => by
  have sw := ok.sw
  rcases List.mem_append.mp hm with z | z
  · split at z
    · obtain ⟨i, hi, rfl⟩ := List.mem_map.mp z
      have := List.mem_range.mp hi
      show i < _
      omega
    · cases z
  · obtain ⟨i, hi, rfl⟩ := List.mem_map.mp z
    exact due_lt ok i hi
/-- all lists of so many bools -/
def allBL : Nat → List (List Bool)
  | 0 => [[]]
  | n + 1 => (allBL n).flatMap fun l => [false :: l, true :: l]
theorem allBL_len : ∀ n, (allBL n).length ≤ 2 ^ n
  | 0 => by decide
  | n + 1 => by
    have h := flatMap_len (f := fun l : List Bool => [false :: l, true :: l]) (n := 2) (fun l => by simp) (allBL n)
    have ih := allBL_len n
    unfold allBL
    rw [Nat.pow_succ]
    exact Nat.le_trans h (Nat.mul_le_mul_right 2 ih)
theorem allBL_mem : ∀ l : List Bool, l ∈ allBL l.length
  | [] => by simp [allBL]
  | x :: l => by
    unfold allBL
    refine List.mem_flatMap.mpr ⟨l, allBL_mem l, ?_⟩
    cases x <;> simp
def allSv (n : Nat) : List Sv := (allBL n).flatMap fun l => [(l, false), (l, true)]
theorem allSv_mem {n : Nat} {s : Sv} (h : s.1.length = n) : s ∈ allSv n := by
  subst h
  obtain ⟨l, c⟩ := s
  refine List.mem_flatMap.mpr ⟨l, allBL_mem l, ?_⟩
  cases c <;> simp
theorem allSv_len {n : Nat} (h : n ≤ 5) : (allSv n).length ≤ 64 := by
  have h1 := flatMap_len (f := fun l : List Bool => [((l, false) : Sv), (l, true)]) (n := 2) (fun l => by simp) (allBL n)
  have h2 := allBL_len n
  have h3 : 2 ^ n ≤ 2 ^ 5 := Nat.pow_le_pow_right (by decide) h
  have h4 : (2 : Nat) ^ 5 = 32 := by decide
  unfold allSv
  omega
/-- states of the board, each once -/
def SvL (b : Bd) (ss : List Sv) : Prop := ss.Nodup ∧ ∀ s ∈ ss, StOk b s
theorem SvL.len {b : Bd} (ok : b.Ok) {ss : List Sv} (h : SvL b ss) : ss.length ≤ 64 := by
  have sw := ok.sw
  have s2 := ok.s2
  have r3 := ok.r3
  exact Nat.le_trans (List.Nodup.length_le_of_subset h.1 fun s hs => allSv_mem (h.2 s hs)) (allSv_len (by omega))
theorem SvL.note {b : Bd} {ss : List Sv} (h : SvL b ss) {s : Sv} (hs : StOk b s) : SvL b (noteS ss s) := by
  unfold noteS
  split
  · exact h
  · rename_i hn
    refine ⟨List.nodup_append.mpr ⟨h.1, by simp, fun a ha c hc e => ?_⟩, fun j hj => ?_⟩
    · rw [List.mem_singleton.mp hc] at e
      exact hn (by rw [← e]; exact ha)
    · rcases List.mem_append.mp hj with z | z
      · exact h.2 j z
      · rw [List.mem_singleton.mp z]; exact hs
theorem note_pre (ss : List Sv) (s : Sv) : ∃ r, noteS ss s = ss ++ r := by
  unfold noteS
  split
  · exact ⟨[], by rw [List.append_nil]⟩
  · exact ⟨_, rfl⟩
def noteM (b : Bd) (s : Sv) (ss : List Sv) (m : Bool × Nat) : List Sv := noteS ss (stepN b s m.2)
theorem noteM_pre (b : Bd) (s : Sv) : ∀ (ms : List (Bool × Nat)) (ss : List Sv), ∃ r, ms.foldl (noteM b s) ss = ss ++ r
  | [], ss => ⟨[], by rw [List.append_nil]; rfl⟩
  | m :: ms, ss => by
    obtain ⟨r, e⟩ := note_pre ss (stepN b s m.2)
    obtain ⟨r2, e2⟩ := noteM_pre b s ms (noteM b s ss m)
    exact ⟨r ++ r2, by rw [List.foldl_cons, e2]; unfold noteM; rw [e, List.append_assoc]⟩
theorem SvL.fold {b : Bd} {s : Sv} (hs : StOk b s) : ∀ {ms : List (Bool × Nat)} {ss : List Sv}, SvL b ss → SvL b (ms.foldl (noteM b s) ss)
  | [], _, h => h
  | m :: ms, ss, h => SvL.fold hs (ms := ms) (h.note (step_ok hs m.2))
def exploreF (b : Bd) (h : Nat) : Nat → List Sv → Nat → List Sv
  | 0, ss, _ => ss
  | n + 1, ss, p => match ss[p]? with
    | none => ss
    | some s => exploreF b h n ((mvL b s h).foldl (noteM b s) ss) (p + 1)
def exploreN (b : Bd) (h : Nat) : List Sv := exploreF b h 64 [firstN b] 0
theorem exploreF_ok {b : Bd} {h : Nat} : ∀ (n : Nat) (ss : List Sv) (p : Nat), SvL b ss → SvL b (exploreF b h n ss p)
  | 0, ss, p, hs => hs
  | n + 1, ss, p, hs => by
    unfold exploreF
    cases q : ss[p]? with
    | none => exact hs
    | some s => exact exploreF_ok n _ _ (SvL.fold (hs.2 s (List.mem_of_getElem? q)) hs)
theorem explore_ok (b : Bd) (h : Nat) : SvL b (exploreN b h) := exploreF_ok _ _ _ ⟨by simp, fun s hs => by rw [List.mem_singleton.mp hs]; exact first_ok b⟩
theorem sw_dMs {b : Bd} (ok : b.Ok) : (b.mvs.take b.nsw).map dS = dMs b (List.range b.nsw) := by
  have sw := ok.sw
  unfold dMs
  rw [List.map_map]
  refine List.ext_getElem? fun i => ?_
  rw [List.getElem?_map, List.getElem?_map, List.getElem?_take]
  by_cases h : i < b.nsw
  · rw [if_pos h, List.getElem?_range h, List.getElem?_eq_getElem (by omega)]
    show _ = some (dS (b.mvs.getD i ⟨#[]⟩))
    rw [getD_el _ (by omega)]
    rfl
  · rw [if_neg h, List.getElem?_eq_none (l := List.range b.nsw) (by rw [List.length_range]; omega)]
    rfl

section
variable {P : Program} {w : World} {K : PySem.W.Frag} {mg : Str → Option Value} {base : Heap} {f Cb Cs : Addr} {fd : FuncData}
theorem ok_note2 (ml : mg "len" = none) (c : SeC K Cs) (F : FunD K "note" "Search.note" (defArgs (inClass (top 24) 1)) (defBody (inClass (top 24) 1)) (defScope (inClass (top 24) 1)) [] [] f fd) : FnOk P w K mg base CX0 1 f fd ["self", "state", "source"] (spNote P w K Cs) :=
  fn_note F sc24_1 rfl rfl fun X C q dx la da lim ss st d nd hc hz => by
    obtain rfl : X.K = K := C.eK
    have n1 : la ≠ q ∧ la ≠ da ∧ da ≠ q := by
      simp only [List.nodup_cons, List.mem_cons, List.mem_singleton, List.not_mem_nil, or_false, not_or, not_false_eq_true, List.nodup_nil, and_true] at nd
      exact ⟨Ne.symm nd.1.1, nd.2, Ne.symm nd.1.2⟩
    refine xss_one (xs_if (xt_cmp (xc_sni C.toCxt 0 rfl isSeA c (xe_var C.toCxt 1 rfl))) (fun q1 => ?_) fun q1 => xss_nil ?_)
    · have hn : st ∉ ss := by simpa using q1
      refine xss_cons (xs_if (bb := false) ((xt_cmp (xc_eq (xe_lenL C.toCxt ml (xr_ses C.toCxt 0 rfl isSeA c)) (xe_sel C.toCxt 0 rfl isSeA c) rfl)).is ?_) (fun q => nomatch q) fun _ => xss_nil ?_)
      · refine decide_eq_false fun e => hc hn ?_
        have e := V.int.inj e
        rwa [List.length_map] at e
      · refine xss_cons (xs_sput C 0 rfl c ⟨n1.2.2, Ne.symm n1.2.1⟩ (xe_var C.toCxt 2 rfl) (xe_var C.toCxt 1 rfl) hn hz ?_)
        refine xss_one (xs_sapp C 0 rfl c ⟨n1.1, n1.2.1⟩ (xe_var C.toCxt 1 rfl) hz ?_)
        show some _ = some _
        unfold noteS
        rw [if_neg hn]
    · have hn : st ∈ ss := by simpa using q1
      show some _ = some _
      unfold noteS
      rw [if_pos hn]
theorem ok_si (c : SeC K Cs) (F : FunD K "__init__" "Search.__init__" (defArgs (inClass (top 24) 0)) (defBody (inClass (top 24) 0)) (defScope (inClass (top 24) 0)) [] [] f fd) : FnOk P w K mg base CX0 1 f fd ["self", "limit"] (spSI P w Cs) :=
  fn_si F sc24_0 rfl c (.inl rfl) (.inl rfl)

def preMoves (Cb : Addr) (ds : List D) (d : D) : Prop := ∃ (b : Bd) (s : Sv) (h : Nat), b.Ok ∧ StOk b s ∧ ds = [dBd Cb b, dSv s, dI (h : Int)] ∧ d = .lst ((mvL b s h).map (dMo b))
theorem ok_moves {dvs : List V} {kws : List (Str × V)} (B : BdC K Cb) (FD : Kn P w K mg base "due" 8 (preDue Cb)) (ml : mg "len" = none) (F : FunD K "moves" "moves" (defArgs (top 25)) (defBody (top 25)) (defScope (top 25)) dvs kws f fd) :
    FnOk P w K mg base CX0 9 f fd ["board", "state", "hurry"] (spD K (preMoves Cb)) :=
  fn_d F sc25 (fun ds d ⟨b, s, h, _, _, e, _⟩ => by rw [e]; rfl) fun X C ds d ⟨b, s, h, ok, sk, e1, e2⟩ => by
    subst e1 e2
    obtain rfl : X.K = K := C.eK
    have r3 := ok.r3
    have s2 := ok.s2
    have dl := due_len (b := b) s
    refine xss_cons (xs_asg C 3 (d := .lst (dMs b (dueN b s))) (xe_call C.toCxt FD (xa_cons (xe_var C.toCxt 0 rfl) (xa_cons (xe_var C.toCxt 1 rfl) xa_nil)) ⟨b, s, ok, sk, rfl, rfl⟩) ?_)
    refine xss_cons (xs_asgN C 4 xn_nil ?_)
    have rest : ∀ ms : List (Bool × Nat), ms.length ≤ 2 → mvL b s h = ms ++ (dueN b s).map (fun i => (true, i)) →
        XSs X ((defBody (top 25)).drop 3) [.im (dBd Cb b), .im (dSv s), .im (dI (h : Int)), .im (.lst (dMs b (dueN b s))), .ml X.K (ms.map (dMo b)), .un] { nx := fun _ => D.lst ((mvL b s h).map (dMo b)) = dN, rt := fun r => r = .lst ((mvL b s h).map (dMo b)) } := by
      intro ms hms e
      refine xss_one (xs_ret (d := .lst (ms.map (dMo b) ++ (dueN b s).map fun i => dMo b (true, i))) (XN.toE (xn_cat (xr_var C.toCxt 4 rfl) (XN.r (xn_lc (own := [("name", 5)]) C.toCxt ⟨by decide +kernel, Nat, dueN b s, fun i => dS (b.mn i), fun i => [.im (dBd Cb b), .im (dSv s), .im (dI (h : Int)), .im (.lst (dMs b (dueN b s))), .ml X.K (ms.map (dMo b)), .im (dS (b.mn i))], fun _ => true, fun i => dMo b (true, i), ?_, ?_, ?_, fun X' C' i hi => ⟨⟨[5], fun i hi => hi, xtg_name C' 5⟩, xf_nil, fun _ => xe_tup2 xe_str (xe_var C' 5 rfl)⟩⟩)) ?_)) ?_)
      · rw [List.filter_eq_self.mpr fun _ _ => rfl]
      · refine XI.is (xi_list (xe_var C.toCxt 3 rfl)) ?_
        unfold dMs; rw [List.map_map]; rfl
      · omega
      · rw [List.length_map, List.length_map]; omega
      · rw [e, List.map_append, List.map_map]; rfl
    refine xss_cons (xs_if ((xt_cmp (xc_le (xe_lenL C.toCxt ml (XE.r (xe_var C.toCxt 3 rfl))) (xe_var C.toCxt 2 rfl))).is (d' := decide ((dueN b s).length ≤ h)) ?_) (fun q => xss_one (xs_lcN (own := [("name", 5)]) (ds := (List.range b.nsw).map fun i => dMo b (false, i)) C 4 ⟨by decide +kernel, Nat, List.range b.nsw, fun i => dS (b.mn i), fun i => [.im (dBd Cb b), .im (dSv s), .im (dI (h : Int)), .im (.lst (dMs b (dueN b s))), .ml X.K [], .im (dS (b.mn i))], fun _ => true, fun i => dMo b (false, i), ?_, ?_, ?_, fun X' C' i hi => ⟨⟨[5], fun i hi => hi, xtg_name C' 5⟩, xf_nil, fun _ => xe_tup2 xe_str (xe_var C' 5 rfl)⟩⟩ ?_)) fun q => xss_nil ?_)
    · rw [dMs_len]
      exact decide_eq_decide.mpr Int.ofNat_le
    · rw [List.filter_eq_self.mpr fun _ _ => rfl]
    · refine XI.is (xi_tup (xe_switches C.toCxt B (xe_var C.toCxt 0 rfl))) ?_
      rw [sw_dMs ok]; unfold dMs; rw [List.map_map]; rfl
    · rw [List.length_range]; omega
    · have q := of_decide_eq_true q
      have := rest ((List.range b.nsw).map fun i => (false, i)) (by rw [List.length_map, List.length_range]; omega) (by unfold mvL; rw [if_pos q])
      rw [List.map_map] at this
      exact this
    · have q := of_decide_eq_false q
      exact rest [] (by simp) (by unfold mvL; rw [if_neg q])

def preExF (Cb Cs : Addr) (ds : List D) (d : D) : Prop := ∃ (b : Bd) (h : Nat), b.Ok ∧ ds = [dBd Cb b, .lst [dSv (firstN b)], dI (h : Int), dI 3000] ∧ d = dSe Cs 3000 (exploreN b h)
theorem ok_exF {dvs : List V} {kws : List (Str × V)} (c : SeC K Cs) (FI : KnSI P w K mg base "Search" Cs 1) (FN : KnN P w K mg base Cs 1) (FM : KnK P w K mg base "moves" 9 2 ["hurry"] [] (preMoves Cb)) (FS : Kn P w K mg base "step" 7 (preStep Cb)) (ml : mg "len" = none)
    (F : FunD K "explore_from" "explore_from" (defArgs (top 26)) (defBody (top 26)) (defScope (top 26)) dvs kws f fd) : FnOk P w K mg base CX0 10 f fd ["board", "starts", "hurry", "limit"] (spD K (preExF Cb Cs)) :=
  fn_d F sc26 (fun ds d ⟨b, h, _, e, _⟩ => by rw [e]; rfl) fun X C ds d ⟨b, h, ok, e1, e2⟩ => by
    subst e1 e2
    obtain ⟨rfl, rfl, rfl⟩ : X.prog = P ∧ X.w = w ∧ X.K = K := ⟨C.eP, C.ew, C.eK⟩
    refine xss_cons (xs_asgM C 4 (xm_search C.toCxt FI (xe_var C.toCxt 3 rfl)) ?_)
    refine xss_cons (xs_for C (xi_list (xe_var C.toCxt 1 rfl)) (fun j G1 => G1 = [.im (dBd Cb b), .im (.lst [dSv (firstN b)]), .im (dI (h : Int)), .im (dI 3000), .mu (mSe X.prog X.w X.K Cs 3000 (if j = 0 then [] else [firstN b])), .un, .un, .un, .un]) rfl ?_ ?_)
    · rintro j d G1 hd rfl
      have hj : j = 0 := by
        have := (List.getElem?_eq_some_iff.mp hd).1
        simpa using this
      subst hj
      cases hd
      exact ⟨_, _, xtg_name C.toCxt 5, xss_one (xs_note C FN 4 rfl (xe_var C.toCxt 5 rfl) xe_non (fun _ z => by cases z) (by simp) ⟨_, .keep (.keep (.keep (.keep (.keep (.drop (.keep (.keep (.keep .nil)))))))), rfl⟩)⟩
    rintro G1 rfl
    refine xss_cons (xs_asg C 6 xe_int ?_)
    refine xss_cons (xs_while C (fun m G1 => ∃ ss p, m + p = 64 ∧ SvL b ss ∧ exploreF b h m ss p = exploreN b h ∧ G1 = [.im (dBd Cb b), .im (.lst [dSv (firstN b)]), .im (dI (h : Int)), .im (dI 3000), .mu (mSe X.prog X.w X.K Cs 3000 ss), .un, .im (dI (p : Int)), .un, .un]) 64
      ⟨[firstN b], 0, rfl, ⟨by simp, fun s hs => by rw [List.mem_singleton.mp hs]; exact first_ok b⟩, rfl, rfl⟩ ?_)
    rintro m G1 ⟨ss, p, hm, hss, he, rfl⟩
    have l64 := hss.len ok
    refine ⟨_, xt_cmp (xc_lt (xe_var C.toCxt 6 rfl) (xe_lenL C.toCxt ml (xr_ses C.toCxt 4 rfl isSe c))), fun q => ?_, fun q => ?_⟩
    · have q := of_decide_eq_true q
      rw [List.length_map] at q
      have hp : p < ss.length := by omega
      obtain ⟨m', rfl⟩ : ∃ m', m = m' + 1 := ⟨m - 1, by omega⟩
      have hx : ss[p]? = some ss[p] := List.getElem?_eq_getElem hp
      have hsp : StOk b ss[p] := hss.2 _ (List.getElem_mem hp)
      unfold exploreF at he
      rw [hx] at he
      refine xss_cons (xs_asg C 7 (d := dSv ss[p]) (xe_ixL (xr_ses C.toCxt 4 rfl isSe c) (xe_var C.toCxt 6 rfl) (by rw [atI_nat, List.getElem?_map, hx]; rfl)) ?_)
      refine xss_cons (xs_for C (xi_list (xe_callK C.toCxt FM (xa_cons (xe_var C.toCxt 0 rfl) (xa_cons (xe_var C.toCxt 7 rfl) xa_nil)) (xk_cons (xe_var C.toCxt 2 rfl) xk_nil) rfl rfl ⟨b, ss[p], h, ok, hsp, rfl, rfl⟩))
        (fun j G1 => G1 = [.im (dBd Cb b), .im (.lst [dSv (firstN b)]), .im (dI (h : Int)), .im (dI 3000), .mu (mSe X.prog X.w X.K Cs 3000 (((mvL b ss[p] h).take j).foldl (noteM b ss[p]) ss)), .un, .im (dI (p : Int)), .im (dSv ss[p]), .un]) rfl ?_ ?_)
      · rintro j d G1 hd rfl
        rw [List.getElem?_map] at hd
        cases hq : (mvL b ss[p] h)[j]? with
        | none => rw [hq] at hd; cases hd
        | some mv =>
          rw [hq] at hd
          cases hd
          have hmv := mvL_lt ok mv (List.mem_of_getElem? hq)
          have hg : SvL b (((mvL b ss[p] h).take j).foldl (noteM b ss[p]) ss) := SvL.fold hsp hss
          have gl := hg.len ok
          refine ⟨_, _, xtg_name C.toCxt 8, xss_one (xs_note C FN 4 rfl (xe_call C.toCxt FS (xa_cons (xe_var C.toCxt 0 rfl) (xa_cons (xe_var C.toCxt 7 rfl) (xa_cons (xe_var C.toCxt 8 rfl) xa_nil))) ⟨b, ss[p], mv, ok, hsp, hmv, rfl, rfl⟩) (xe_tup2 (xe_var C.toCxt 7 rfl) (xe_var C.toCxt 8 rfl)) (fun _ => by omega) (by omega) ⟨_, .keep (.keep (.keep (.keep (.keep (.keep (.keep (.keep (.drop .nil)))))))), ?_⟩)⟩
          rw [take_snoc hq, List.foldl_append]
          rfl
      · rintro G1 rfl
        rw [List.length_map, List.take_length]
        exact xss_one (xs_aug C 6 rfl xe_int ⟨m', by omega, _, .keep (.keep (.keep (.keep (.keep (.keep (.keep (.drop (.keep .nil)))))))), _, p + 1, by omega, SvL.fold hsp hss, he, rfl⟩)
    · have q := of_decide_eq_false q
      rw [List.length_map] at q
      have e : exploreF b h m ss p = ss := by
        cases m with
        | zero => rfl
        | succ m =>
          unfold exploreF
          rw [List.getElem?_eq_none (by omega)]
      rw [e] at he
      subst he
      exact xss_freezeSe C.toCxt 4 rfl (xss_one (xs_ret (xe_var C.toCxt 4 rfl) rfl))
def preEx (Cb Cs : Addr) (ds : List D) (d : D) : Prop := ∃ (b : Bd) (h : Nat), b.Ok ∧ ds = [dBd Cb b, dI (h : Int), dI 3000] ∧ d = dSe Cs 3000 (exploreN b h)
theorem ok_ex {dvs : List V} {kws : List (Str × V)} (FE : KnK P w K mg base "explore_from" 10 2 ["hurry", "limit"] [] (preExF Cb Cs)) (F1 : Kn P w K mg base "first_state" 7 (preFirst Cb))
    (F : FunD K "explore" "explore" (defArgs (top 27)) (defBody (top 27)) (defScope (top 27)) dvs kws f fd) : FnOk P w K mg base CX0 11 f fd ["board", "hurry", "limit"] (spD K (preEx Cb Cs)) :=
  fn_d F sc27 (fun ds d ⟨b, h, _, e, _⟩ => by rw [e]; rfl) fun X C ds d ⟨b, h, ok, e1, e2⟩ => by
    subst e1 e2
    exact xss_one (xs_ret (xe_callK C.toCxt FE (xa_cons (xe_var C.toCxt 0 rfl) (xa_cons (XN.toE (xn_lst (xa_cons (xe_call C.toCxt F1 (xa_cons (xe_var C.toCxt 0 rfl) xa_nil) ⟨b, ok, rfl, rfl⟩) xa_nil) (by simp))) xa_nil)) (xk_cons (xe_var C.toCxt 1 rfl) (xk_cons (xe_var C.toCxt 2 rfl) xk_nil)) rfl rfl ⟨b, h, ok, rfl, rfl⟩) rfl)
end
end DL

namespace DL
open PySem L2

theorem sc29 : FnScope ["board", "state", "name"] ["board", "state"] (defScope (top 29)) := ⟨rfl, rfl, rfl, by decide +kernel, rfl, by decide +kernel, by decide +kernel⟩
theorem sc30 : FnScope ["board", "state", "hurry", "steps", "hands", "name", "move"] ["board", "state", "hurry"] (defScope (top 30)) := ⟨rfl, rfl, rfl, by decide +kernel, rfl, by decide +kernel, by decide +kernel⟩
theorem sc33 : FnScope ["board", "table", "hurry", "least", "state", "number", "move", "target"] ["board", "table", "hurry"] (defScope (top 33)) := ⟨rfl, rfl, rfl, by decide +kernel, rfl, by decide +kernel, by decide +kernel⟩

/-- e -/
theorem xs_expr {X : Cx} {e : Expr} {G : List Sl} {Pw : Po} {d : D} {pos : Pos} (he : XE X e G d) (hP : Pw.nx G) (hsw : swapsWith e none pos.line X.env = pure false := by rfl) : XS X (.Expr e pos) G Pw :=
  upS (ps_expr (pe_wp X e) hsw) fun H0 Hb0 Hb H σ k Dn a _ _ _ => he H0 Hb0 Hb H σ k _ fun y Hb1 H1 g r => a _ Hb1 H1 _ hP g.b (k.up g)

def dStp (b : Bd) (s : Sv) (m : Bool × Nat) : D := .tup [dMo b m, dSv (stepN b s m.2)]
def relM (b : Bd) (s : Sv) : List (Bool × Nat) := (dueN b s).map fun i => (true, i)
def dTab (T : List (Sv × Int)) : List D := T.map fun q => .tup [dSv q.1, dI q.2]
def dKv (kvs : List (Sv × Int)) : List (Sv × D) := kvs.map fun p => (p.1, dI p.2)
theorem lkD_dKv (kvs : List (Sv × Int)) (s : Sv) : lkD (dKv kvs) s = (lkD kvs s).map dI := by
  induction kvs with
  | nil => rfl
  | cons p r ih =>
    unfold dKv at ih ⊢
    rw [List.map_cons]
    by_cases e : p.1 = s
    · rw [lkD_pos (p := (p.1, dI p.2)) e, lkD_pos e]; rfl
    · rw [lkD_neg (p := (p.1, dI p.2)) e, lkD_neg e, ih]
theorem putS_dKv (kvs : List (Sv × Int)) (s : Sv) (v : Int) : putS (dKv kvs) s (dI v) = dKv (putS kvs s v) := by
  unfold putS
  rw [lkD_dKv, Option.isSome_map]
  cases (lkD kvs s).isSome with
  | true =>
    rw [if_pos rfl, if_pos rfl]
    unfold dKv
    rw [List.map_map, List.map_map]
    refine List.map_congr_left fun p _ => ?_
    show (if p.1 = s then (p.1, dI v) else (p.1, dI p.2)) = ((if p.1 = s then (p.1, v) else p).1, dI (if p.1 = s then (p.1, v) else p).2)
    split <;> rfl
  | false =>
    rw [if_neg Bool.false_ne_true, if_neg Bool.false_ne_true]
    unfold dKv
    rw [List.map_append]
    rfl
theorem dKv_len (kvs : List (Sv × Int)) : (dKv kvs).length = kvs.length := List.length_map _
/-- the least integer of each state -/
def minP (i j : Int) : Int := if j < i then j else i
def lstep (l : List (Sv × Int)) (q : Sv × Int) : List (Sv × Int) := putS l q.1 (minP q.2 ((lkD l q.1).getD q.2))
def leastL (T : List (Sv × Int)) : List (Sv × Int) := T.foldl lstep []
theorem lstep_len (l : List (Sv × Int)) (q : Sv × Int) : (lstep l q).length ≤ l.length + 1 := putS_len _ _ _
theorem fold_len : ∀ (T l : List (Sv × Int)), (T.foldl lstep l).length ≤ l.length + T.length
  | [], l => Nat.le_refl _
  | q :: T, l => by
    have h1 := fold_len T (lstep l q)
    have h2 := lstep_len l q
    rw [List.foldl_cons, List.length_cons]
    omega
def badM (b : Bd) (T : List (Sv × Int)) (q : Sv × Int) (m : Bool × Nat) : Bool := match lkD (leastL T) (stepN b q.1 m.2) with
  | none => true
  | some v => m.1 && decide (q.2 ≤ v)
def goodB (b : Bd) (h : Nat) (T : List (Sv × Int)) : Bool := (lkD (leastL T) (firstN b)).isSome && T.all fun q => (mvL b q.1 h).all fun m => !badM b T q m
theorem kind_eq (k : Bool) : decide (V.str (kindS k) = V.str "relay") = k := by cases k <;> decide

section
variable {P : Program} {w : World} {K : PySem.W.Frag} {mg : Str → Option Value} {base : Heap} {f Cb Cs : Addr} {fd : FuncData}
def preRel (Cb : Addr) (ds : List D) (d : D) : Prop := ∃ (b : Bd) (s : Sv), b.Ok ∧ StOk b s ∧ ds = [dBd Cb b, dSv s] ∧ d = .lst ((relM b s).map (dStp b s))
theorem ok_rel (FD : Kn P w K mg base "due" 8 (preDue Cb)) (FS : Kn P w K mg base "step" 7 (preStep Cb)) (F : FunD K "relay_steps" "relay_steps" (defArgs (top 29)) (defBody (top 29)) (defScope (top 29)) [] [] f fd) :
    FnOk P w K mg base CX0 9 f fd ["board", "state"] (spD K (preRel Cb)) :=
  fn_d F sc29 (fun ds d ⟨b, s, _, _, e, _⟩ => by rw [e]; rfl) fun X C ds d ⟨b, s, ok, sk, e1, e2⟩ => by
    subst e1 e2
    have dl := due_len (b := b) s
    have r3 := ok.r3
    refine xss_one (xs_ret (XN.toE (xn_lc (own := [("name", 2)]) C.toCxt ⟨by decide +kernel, Nat, dueN b s, fun i => dS (b.mn i), fun i => [.im (dBd Cb b), .im (dSv s), .im (dS (b.mn i))], fun _ => true, fun i => dStp b s (true, i), ?_, ?_, ?_, fun X' C' i hi => ⟨⟨[2], fun i hi => hi, xtg_name C' 2⟩, xf_nil, fun _ =>
      xe_tup2 (xe_tup2 xe_str (xe_var C' 2 rfl)) (xe_call C' FS (xa_cons (xe_var C' 0 rfl) (xa_cons (xe_var C' 1 rfl) (xa_cons (xe_tup2 xe_str (xe_var C' 2 rfl)) xa_nil))) ⟨b, s, (true, i), ok, sk, due_lt ok i hi, rfl, rfl⟩)⟩⟩)) rfl)
    · rw [List.filter_eq_self.mpr fun _ _ => rfl]; unfold relM; rw [List.map_map]; rfl
    · refine XI.is (xi_list (xe_call C.toCxt FD (xa_cons (xe_var C.toCxt 0 rfl) (xa_cons (xe_var C.toCxt 1 rfl) xa_nil)) ⟨b, s, ok, sk, rfl, rfl⟩)) ?_
      unfold dMs; rw [List.map_map]; rfl
    · omega
def preStF (Cb : Addr) (ds : List D) (d : D) : Prop := ∃ (b : Bd) (s : Sv) (h : Nat), b.Ok ∧ StOk b s ∧ ds = [dBd Cb b, dSv s, dI (h : Int)] ∧ d = .lst ((mvL b s h).map (dStp b s))
theorem ok_stF {dvs : List V} {kws : List (Str × V)} (B : BdC K Cb) (FR : Kn P w K mg base "relay_steps" 9 (preRel Cb)) (FS : Kn P w K mg base "step" 7 (preStep Cb)) (ml : mg "len" = none) (F : FunD K "steps_from" "steps_from" (defArgs (top 30)) (defBody (top 30)) (defScope (top 30)) dvs kws f fd) :
    FnOk P w K mg base CX0 10 f fd ["board", "state", "hurry"] (spD K (preStF Cb)) :=
  fn_d F sc30 (fun ds d ⟨b, s, h, _, _, e, _⟩ => by rw [e]; rfl) fun X C ds d ⟨b, s, h, ok, sk, e1, e2⟩ => by
    subst e1 e2
    have dl := due_len (b := b) s
    have r3 := ok.r3
    have s2 := ok.s2
    have sw := ok.sw
    have rl : (relM b s).length = (dueN b s).length := by unfold relM; rw [List.length_map]
    refine xss_cons (xs_asg C 3 (d := .lst ((relM b s).map (dStp b s))) (xe_call C.toCxt FR (xa_cons (xe_var C.toCxt 0 rfl) (xa_cons (xe_var C.toCxt 1 rfl) xa_nil)) ⟨b, s, ok, sk, rfl, rfl⟩) ?_)
    refine xss_cons (xs_if ((xt_cmp (xc_gt (xe_lenL C.toCxt ml (XE.r (xe_var C.toCxt 3 rfl))) (xe_var C.toCxt 2 rfl))).is (d' := decide (h < (dueN b s).length)) ?_) (fun q => xss_one (xs_ret (xe_var C.toCxt 3 rfl) ?_)) fun q => xss_nil ?_)
    · rw [List.length_map, rl]
      exact decide_eq_decide.mpr Int.ofNat_lt
    · have q := of_decide_eq_true q
      unfold mvL
      rw [if_neg (by omega)]
      rfl
    have q := of_decide_eq_false q
    refine xss_cons (xs_lc (own := [("name", 5)]) C 4 (ds := (List.range b.nsw).map fun i => dMo b (false, i)) ⟨by decide +kernel, Nat, List.range b.nsw, fun i => dS (b.mn i), fun i => [.im (dBd Cb b), .im (dSv s), .im (dI (h : Int)), .im (.lst ((relM b s).map (dStp b s))), .un, .im (dS (b.mn i)), .un], fun _ => true, fun i => dMo b (false, i), ?_, ?_, ?_, fun X' C' i hi => ⟨⟨[5], fun i hi => hi, xtg_name C' 5⟩, xf_nil, fun _ => xe_tup2 xe_str (xe_var C' 5 rfl)⟩⟩ ?_)
    · rw [List.filter_eq_self.mpr fun _ _ => rfl]
    · refine XI.is (xi_tup (xe_switches C.toCxt B (xe_var C.toCxt 0 rfl))) ?_
      rw [sw_dMs ok]; unfold dMs; rw [List.map_map]; rfl
    · rw [List.length_range]; omega
    refine xss_one (xs_ret (d := .lst ((List.range b.nsw).map (fun i => dStp b s (false, i)) ++ (relM b s).map (dStp b s))) (XN.toE (xn_cat (XN.r (xn_lc (own := [("move", 6)]) C.toCxt ⟨by decide +kernel, Nat, List.range b.nsw, fun i => dMo b (false, i), fun i => [.im (dBd Cb b), .im (dSv s), .im (dI (h : Int)), .im (.lst ((relM b s).map (dStp b s))), .im (.lst ((List.range b.nsw).map fun i => dMo b (false, i))), .un, .im (dMo b (false, i))], fun _ => true, fun i => dStp b s (false, i), ?_, ?_, ?_, fun X' C' i hi => ⟨⟨[6], fun i hi => hi, xtg_name C' 6⟩, xf_nil, fun _ =>
      xe_tup2 (xe_var C' 6 rfl) (xe_call C' FS (xa_cons (xe_var C' 0 rfl) (xa_cons (xe_var C' 1 rfl) (xa_cons (xe_var C' 6 rfl) xa_nil))) ⟨b, s, (false, i), ok, sk, ?_, rfl, rfl⟩)⟩⟩)) (XE.r (xe_var C.toCxt 3 rfl)) ?_)) ?_)
    · rw [List.filter_eq_self.mpr fun _ _ => rfl]
    · exact xi_list (xe_var C.toCxt 4 rfl)
    · rw [List.length_range]; omega
    · have := List.mem_range.mp hi
      show i < _
      omega
    · rw [List.length_map, List.length_map, List.length_range, rl]; omega
    · unfold mvL
      rw [if_pos (by omega), List.map_append, List.map_map]
      rfl
def TabOk (b : Bd) (T : List (Sv × Int)) : Prop := ∀ q ∈ T, StOk b q.1 ∧ (q.1.2 = true ∨ shortN b q.1 = false)
def preCR (Cb : Addr) (ds : List D) (d : D) : Prop := ∃ (b : Bd) (T : List (Sv × Int)) (h : Nat), b.Ok ∧ TabOk b T ∧ T.length ≤ 1000 ∧ ds = [dBd Cb b, .lst (dTab T), dI (h : Int)] ∧ d = dB (goodB b h T)
theorem ok_cr {dvs : List V} {kws : List (Str × V)} (FC : Kn P w K mg base "check_state" 7 (preCheck Cb)) (F1 : Kn P w K mg base "first_state" 7 (preFirst Cb)) (FS : KnK P w K mg base "steps_from" 10 2 ["hurry"] [] (preStF Cb)) (mm : mg "min" = none)
    (F : FunD K "check_ranks" "check_ranks" (defArgs (top 33)) (defBody (top 33)) (defScope (top 33)) dvs kws f fd) : FnOk P w K mg base CX0 11 f fd ["board", "table", "hurry"] (spD K (preCR Cb)) :=
  fn_d F sc33 (fun ds d ⟨b, T, h, _, _, _, e, _⟩ => by rw [e]; rfl) fun X C ds d ⟨b, T, h, ok, tk, tl, e1, e2⟩ => by
    subst e1 e2
    obtain ⟨rfl, rfl, rfl⟩ : X.prog = P ∧ X.w = w ∧ X.K = K := ⟨C.eP, C.ew, C.eK⟩
    refine xss_cons (xs_asgM C 3 (xm_dnew C.toCxt) ?_)
    have tabat : ∀ {j : Nat} {d : D}, (dTab T)[j]? = some d → ∃ q, T[j]? = some q ∧ d = .tup [dSv q.1, dI q.2] := fun {j d} hd => by
      unfold dTab at hd
      rw [List.getElem?_map] at hd
      cases hq : T[j]? with
      | none => rw [hq] at hd; cases hd
      | some q => rw [hq] at hd; cases hd; exact ⟨q, rfl, rfl⟩
    refine xss_cons (xs_for C (xi_list (xe_var C.toCxt 1 rfl)) (fun j G1 => G1 = [.im (dBd Cb b), .im (.lst (dTab T)), .im (dI (h : Int)), .mu (mDict X.prog X.w X.K (dKv ((T.take j).foldl lstep []))), .un, .un, .un, .un]) rfl ?_ ?_)
    · rintro j d G1 hd rfl
      obtain ⟨q, hq, rfl⟩ := tabat hd
      obtain ⟨q1, q2⟩ := tk q (List.mem_of_getElem? hq)
      have fl := fold_len (T.take j) []
      have ll := List.length_take_le j T
      have ll2 := List.length_take_le' j T
      refine ⟨_, _, xtg_tup C.toCxt (xts_cons (xtg_name C.toCxt 4) (xts_cons (xtg_name C.toCxt 5) xts_nil)) rfl, xss_cons (xs_expr (xe_call C.toCxt FC (xa_cons (xe_var C.toCxt 0 rfl) (xa_cons (xe_var C.toCxt 4 rfl) xa_nil)) ⟨b, q.1, ok, q1, q2, rfl, rfl⟩)
        (xss_one (xs_dput C 3 rfl (d := dI (minP q.2 ((lkD ((T.take j).foldl lstep []) q.1).getD q.2))) (xe_min2 C.toCxt mm (xe_var C.toCxt 5 rfl) ((xe_dgetD C.toCxt 3 rfl (xe_var C.toCxt 4 rfl) (xe_var C.toCxt 5 rfl)).is ?_)) (xe_var C.toCxt 4 rfl) ?_ ?_)))⟩
      · rw [lkD_dKv]
        cases lkD ((T.take j).foldl lstep []) q.1 <;> rfl
      · rw [dKv_len]
        rw [List.length_nil] at fl
        omega
      · refine ⟨_, .keep (.keep (.keep (.keep (.drop (.drop (.keep (.keep .nil))))))), ?_⟩
        rw [putS_dKv, take_snoc hq, List.foldl_append]
        rfl
    rintro G1 rfl
    unfold dTab
    rw [List.length_map, List.take_length]
    refine xss_cons (xs_if (xt_cmp (xc_dni C.toCxt 3 rfl (xe_call C.toCxt F1 (xa_cons (xe_var C.toCxt 0 rfl) xa_nil) ⟨b, ok, rfl, rfl⟩))) (fun q => xss_one (xs_ret xe_bl ?_)) fun q => xss_nil ?_)
    · rw [lkD_dKv, Option.isSome_map] at q
      unfold goodB leastL
      simp only [Bool.not_eq_true'] at q
      rw [q]
      rfl
    rw [lkD_dKv, Option.isSome_map] at q
    have q0 : (lkD (leastL T) (firstN b)).isSome = true := by
      show (lkD (T.foldl lstep []) (firstN b)).isSome = true
      simpa using q
    refine xss_cons (xs_for C (xi_list (xe_var C.toCxt 1 rfl)) (fun j G1 => (∀ q ∈ T.take j, (mvL b q.1 h).all (fun m => !badM b T q m) = true) ∧ G1 = [.im (dBd Cb b), .im (.lst (dTab T)), .im (dI (h : Int)), .mu (mDict X.prog X.w X.K (dKv (leastL T))), .un, .un, .un, .un]) ⟨fun q hq => (by cases hq), rfl⟩ ?_ ?_)
    · rintro j d G1 hd ⟨hgood, rfl⟩
      obtain ⟨q, hq, rfl⟩ := tabat hd
      obtain ⟨q1, q2⟩ := tk q (List.mem_of_getElem? hq)
      have bad : ∀ m ∈ mvL b q.1 h, badM b T q m = true → goodB b h T = false := fun m hm e => by
        unfold goodB
        rw [q0, Bool.true_and, List.all_eq_false]
        refine ⟨q, List.mem_of_getElem? hq, fun z => ?_⟩
        have := List.all_eq_true.mp z m hm
        rw [e] at this
        cases this
      refine ⟨_, _, xtg_tup C.toCxt (xts_cons (xtg_name C.toCxt 4) (xts_cons (xtg_name C.toCxt 5) xts_nil)) rfl, xss_one (xs_for C (xi_list (xe_callK C.toCxt FS (xa_cons (xe_var C.toCxt 0 rfl) (xa_cons (xe_var C.toCxt 4 rfl) xa_nil)) (xk_cons (xe_var C.toCxt 2 rfl) xk_nil) rfl rfl ⟨b, q.1, h, ok, q1, rfl, rfl⟩))
        (fun i G1 => (∀ m ∈ (mvL b q.1 h).take i, badM b T q m = false) ∧ G1 = [.im (dBd Cb b), .im (.lst (dTab T)), .im (dI (h : Int)), .mu (mDict X.prog X.w X.K (dKv (leastL T))), .im (dSv q.1), .im (dI q.2), .un, .un]) ⟨fun m hm => (by cases hm), rfl⟩ ?_ ?_)⟩
      · rintro i d G1 hd ⟨hb, rfl⟩
        rw [List.getElem?_map] at hd
        cases hm : (mvL b q.1 h)[i]? with
        | none => rw [hm] at hd; cases hd
        | some m =>
          rw [hm] at hd
          cases hd
          have hmem := List.mem_of_getElem? hm
          refine ⟨_, _, xtg_tup C.toCxt (xts_cons (xtg_name C.toCxt 6) (xts_cons (xtg_name C.toCxt 7) xts_nil)) rfl, xss_cons (xs_if (xt_cmp (xc_dni C.toCxt 3 rfl (xe_var C.toCxt 7 rfl))) (fun z => xss_one (xs_ret xe_bl ?_)) fun z => xss_nil ?_)⟩
          · rw [lkD_dKv, Option.isSome_map] at z
            have z1 : lkD (leastL T) (stepN b q.1 m.2) = none := by
              cases e : lkD (leastL T) (stepN b q.1 m.2) with
              | none => rfl
              | some v => rw [e] at z; cases z
            rw [bad m hmem (by unfold badM; rw [z1])]
          · rw [lkD_dKv, Option.isSome_map] at z
            obtain ⟨v, z1⟩ : ∃ v, lkD (leastL T) (stepN b q.1 m.2) = some v := by
              cases e : lkD (leastL T) (stepN b q.1 m.2) with
              | none => rw [e] at z; cases z
              | some v => exact ⟨v, rfl⟩
            refine xss_one (xs_if (bb := m.1 && decide (q.2 ≤ v)) (xt_and2 ((xt_cmp (xc_eq (xe_ixT (xe_var C.toCxt 6 rfl) xe_int (show atI _ _ = some (dS (kindS m.1)) from rfl)) xe_str rfl)).is (kind_eq m.1)) fun _ => xt_cmp (xc_ge (xe_dget C.toCxt 3 rfl (xe_var C.toCxt 7 rfl) (by rw [lkD_dKv, z1]; rfl)) (xe_var C.toCxt 5 rfl))) (fun y => xss_one (xs_ret xe_bl ?_)) fun y => xss_nil ⟨_, .keep (.keep (.keep (.keep (.keep (.keep (.drop (.drop .nil))))))), ?_, rfl⟩)
            · rw [bad m hmem (by unfold badM; rw [z1]; exact y)]
            · rw [take_snoc hm]
              intro m' hm'
              rcases List.mem_append.mp hm' with u | u
              · exact hb m' u
              · rw [List.mem_singleton.mp u]
                unfold badM
                rw [z1]
                exact y
      · rintro G1 ⟨hb, rfl⟩
        rw [List.length_map, List.take_length] at hb
        refine ⟨_, .keep (.keep (.keep (.keep (.drop (.drop (.keep (.keep .nil))))))), ?_, rfl⟩
        rw [take_snoc hq]
        intro q' hq'
        rcases List.mem_append.mp hq' with u | u
        · exact hgood q' u
        · rw [List.mem_singleton.mp u]
          exact List.all_eq_true.mpr fun m hm => by rw [hb m hm]; rfl
    · rintro G1 ⟨hgood, rfl⟩
      unfold dTab at hgood
      rw [List.length_map, List.take_length] at hgood
      refine xss_one (xs_ret xe_bl ?_)
      unfold goodB
      rw [q0, Bool.true_and, List.all_eq_true.mpr hgood]
end
end DL

namespace DL

abbrev Kvs := List (Sv × Int)
def lk (kvs : Kvs) (s : Sv) : Int := (lkD kvs s).getD 0
structure NS where
  R : List Sv
  nu : Kvs
  wa : Kvs
  gr : Kvs
def maxP (i j : Int) : Int := if j > i then j else i
def nsSrc (st : Sv) (x : NS) (src : Sv) : NS :=
  if lk x.wa src - 1 = 0 then ⟨x.R ++ [src], putS x.nu src (maxP (lk x.gr src) (lk x.nu st + 1)), putS x.wa src (lk x.wa src - 1), putS x.gr src (maxP (lk x.gr src) (lk x.nu st + 1))⟩
  else ⟨x.R, x.nu, putS x.wa src (lk x.wa src - 1), putS x.gr src (maxP (lk x.gr src) (lk x.nu st + 1))⟩
def nsF (srcs : Sv → List Sv) : Nat → NS → Nat → NS
  | 0, x, _ => x
  | n + 1, x, p => match x.R[p]? with
    | none => x
    | some st => nsF srcs n ((srcs st).foldl (nsSrc st) x) (p + 1)
def srcsOf (ss : List Sv) (tg : Sv → List Sv) (t : Sv) : List Sv := ss.flatMap fun s => ((tg s).filter fun u => decide (u = t)).map fun _ => s

theorem lk_put (kvs : Kvs) (s t : Sv) (v : Int) : lk (putS kvs s v) t = if t = s then v else lk kvs t := by
  unfold lk
  rw [lkD_put]
  split <;> rfl
theorem lkD_key {kvs : Kvs} {s : Sv} (h : s ∈ kvs.map (·.1)) : lkD kvs s = some (lk kvs s) := by
  unfold lk
  cases e : lkD kvs s with
  | none => exact absurd h (lkD_none.mp e)
  | some v => rfl
theorem put_keys {kvs : Kvs} {s : Sv} (v : Int) (h : s ∈ kvs.map (·.1)) : (putS kvs s v).map (·.1) = kvs.map (·.1) := putS_keys v (lkD_key h)
theorem put_new {kvs : Kvs} {s : Sv} (v : Int) (h : s ∉ kvs.map (·.1)) : (putS kvs s v).map (·.1) = kvs.map (·.1) ++ [s] := by
  rw [putS_new v (lkD_none.mpr h), List.map_append]
  rfl
theorem cnt_eq {l : List Sv} {p q : Sv → Bool} (h : ∀ t ∈ l, p t = q t) : (l.filter p).length = (l.filter q).length := by
  rw [List.filter_congr h]
theorem cnt_one {st : Sv} {p q : Sv → Bool} : ∀ {l : List Sv}, l.Nodup → st ∈ l → p st = true → (∀ t ∈ l, q t = (p t && !decide (t = st))) → (l.filter q).length + 1 = (l.filter p).length
  | [], _, h, _, _ => by cases h
  | x :: l, nd, h, hp, hq => by
    obtain ⟨n1, n2⟩ := List.nodup_cons.mp nd
    have hx := hq x List.mem_cons_self
    by_cases e : x = st
    · subst e
      have e1 : q x = false := by rw [hx]; simp
      rw [List.filter_cons, List.filter_cons, if_neg (by rw [e1]; exact Bool.false_ne_true), if_pos hp, List.length_cons]
      rw [cnt_eq fun t ht => ?_]
      rw [hq t (List.mem_cons_of_mem _ ht), decide_eq_false (fun z => n1 (by rw [← z]; exact ht))]
      simp
    · have h2 : st ∈ l := (List.mem_cons.mp h).resolve_left (fun z => e z.symm)
      have ih := cnt_one n2 h2 hp fun t ht => hq t (List.mem_cons_of_mem _ ht)
      have e1 : q x = p x := by rw [hx, decide_eq_false e]; simp
      rw [List.filter_cons, List.filter_cons, e1]
      split
      · rw [List.length_cons, List.length_cons, ih]
      · exact ih
/-- what is so between two turns; pr s t: the step from s to t is counted -/
structure NI (ss : List Sv) (tg : Sv → List Sv) (pr : Sv → Sv → Bool) (x : NS) : Prop where
  rn : x.R.Nodup
  rs : ∀ s ∈ x.R, s ∈ ss
  kn : x.nu.map (·.1) = x.R
  kw : x.wa.map (·.1) = ss
  kg : x.gr.map (·.1) = ss
  pin : ∀ s ∈ ss, ∀ t ∈ tg s, pr s t = true → t ∈ x.R
  wa : ∀ s ∈ ss, lk x.wa s = (((tg s).filter fun t => !pr s t).length : Int)
  gr : ∀ s ∈ ss, ∀ t ∈ tg s, pr s t = true → lk x.nu t + 1 ≤ lk x.gr s
  ri : ∀ s ∈ ss, s ∈ x.R ↔ ∀ t ∈ tg s, pr s t = true
  lt : ∀ s ∈ x.R, ∀ t ∈ tg s, lk x.nu t < lk x.nu s
  nn : ∀ s ∈ x.R, 0 ≤ lk x.nu s
theorem NI.same {ss : List Sv} {tg : Sv → List Sv} {pr pr' : Sv → Sv → Bool} {x : NS} (h : NI ss tg pr x) (e : ∀ s ∈ ss, ∀ t ∈ tg s, pr' s t = pr s t) : NI ss tg pr' x where
  rn := h.rn
  rs := h.rs
  kn := h.kn
  kw := h.kw
  kg := h.kg
  pin := fun s hs t ht q => h.pin s hs t ht (by rw [← e s hs t ht]; exact q)
  wa := fun s hs => by rw [h.wa s hs, cnt_eq (q := fun t => !pr' s t) fun t ht => by rw [e s hs t ht]]
  gr := fun s hs t ht q => h.gr s hs t ht (by rw [← e s hs t ht]; exact q)
  ri := fun s hs => by
    rw [h.ri s hs]
    exact ⟨fun z t ht => by rw [e s hs t ht]; exact z t ht, fun z t ht => by rw [← e s hs t ht]; exact z t ht⟩
  lt := h.lt
  nn := h.nn
theorem maxP_l (i j : Int) : i ≤ maxP i j := by unfold maxP; split <;> omega
theorem maxP_r (i j : Int) : j ≤ maxP i j := by unfold maxP; split <;> omega
theorem NI.src {ss : List Sv} {tg : Sv → List Sv} {pr pr' : Sv → Sv → Bool} {x : NS} {st src : Sv} (hnd : ∀ s ∈ ss, (tg s).Nodup) (h : NI ss tg pr x) (hst : st ∈ x.R) (hs : src ∈ ss) (ht : st ∈ tg src) (hp : pr src st = false)
    (hq : ∀ s t, pr' s t = (pr s t || (decide (s = src) && decide (t = st)))) : NI ss tg pr' (nsSrc st x src) ∧ ∃ r, (nsSrc st x src).R = x.R ++ r := by
  have hsr : src ∉ x.R := fun z => by
    have := (h.ri src hs).mp z st ht
    rw [hp] at this; cases this
  have nuo : ∀ v t, t ∈ x.R → lk (putS x.nu src v) t = lk x.nu t := fun v t z => by
    rw [lk_put, if_neg fun e => hsr (by rw [← e]; exact z)]
  have pro : ∀ s t, s ≠ src → pr' s t = pr s t := fun s t n => by rw [hq, decide_eq_false n]; simp
  have prs : ∀ t, pr' src t = (pr src t || decide (t = st)) := fun t => by rw [hq, decide_eq_true rfl]; simp
  have cn : ((tg src).filter fun t => !pr' src t).length + 1 = ((tg src).filter fun t => !pr src t).length := cnt_one (hnd src hs) ht (by rw [hp]; rfl) fun t _ => by rw [prs, Bool.not_or]
  have wsrc : lk x.wa src - 1 = (((tg src).filter fun t => !pr' src t).length : Int) := by rw [h.wa src hs, ← cn]; omega
  have wa2 : ∀ s ∈ ss, lk (putS x.wa src (lk x.wa src - 1)) s = (((tg s).filter fun t => !pr' s t).length : Int) := fun s z => by
    rw [lk_put]
    by_cases e : s = src
    · rw [if_pos e, wsrc, e]
    · rw [if_neg e, h.wa s z, cnt_eq (q := fun t => !pr' s t) fun t _ => by rw [pro s t e]]
  have kw2 : (putS x.wa src (lk x.wa src - 1)).map (·.1) = ss := by rw [put_keys _ (by rw [h.kw]; exact hs), h.kw]
  have kg2 : ∀ v, (putS x.gr src v).map (·.1) = ss := fun v => by rw [put_keys _ (by rw [h.kg]; exact hs), h.kg]
  have pin2 : ∀ s ∈ ss, ∀ t ∈ tg s, pr' s t = true → t ∈ x.R := fun s z t zt q => by
    rw [hq] at q
    rcases Bool.or_eq_true_iff.mp q with q | q
    · exact h.pin s z t zt q
    · obtain ⟨_, e2⟩ := Bool.and_eq_true_iff.mp q
      rw [of_decide_eq_true e2]; exact hst
  have gr2 : ∀ s ∈ ss, ∀ t ∈ tg s, pr' s t = true → lk x.nu t + 1 ≤ lk (putS x.gr src (maxP (lk x.gr src) (lk x.nu st + 1))) s := fun s z t zt q => by
    rw [lk_put]
    by_cases e : s = src
    · subst e
      rw [if_pos rfl]
      rw [prs] at q
      rcases Bool.or_eq_true_iff.mp q with q | q
      · exact Int.le_trans (h.gr s z t zt q) (maxP_l _ _)
      · rw [of_decide_eq_true q]; exact maxP_r _ _
    · rw [if_neg e]
      rw [pro s t e] at q
      exact h.gr s z t zt q
  unfold nsSrc
  by_cases hw : lk x.wa src - 1 = 0
  · rw [if_pos hw]
    have all : ∀ t ∈ tg src, pr' src t = true := fun t zt => by
      rw [wsrc] at hw
      have e0 : (tg src).filter (fun t => !pr' src t) = [] := List.eq_nil_of_length_eq_zero (by omega)
      have := List.filter_eq_nil_iff.mp e0 t zt
      simpa using this
    refine ⟨⟨List.nodup_append.mpr ⟨h.rn, by simp, fun a ha c hc e => ?_⟩, fun s z => ?_, ?_, kw2, kg2 _, fun s z t zt q => List.mem_append_left _ (pin2 s z t zt q), wa2, fun s z t zt q => ?_, fun s z => ?_, fun s z t zt => ?_, fun s z => ?_⟩, [src], rfl⟩
    · rw [List.mem_singleton.mp hc] at e
      exact hsr (by rw [← e]; exact ha)
    · rcases List.mem_append.mp z with z | z
      · exact h.rs s z
      · rw [List.mem_singleton.mp z]; exact hs
    · show (putS x.nu src _).map (·.1) = _
      rw [put_new _ (by rw [h.kn]; exact hsr), h.kn]
    · show lk (putS x.nu src _) t + 1 ≤ _
      rw [nuo _ t (pin2 s z t zt q)]
      exact gr2 s z t zt q
    · show s ∈ x.R ++ [src] ↔ _
      by_cases e : s = src
      · subst e
        exact ⟨fun _ => all, fun _ => List.mem_append_right _ (by simp)⟩
      · rw [List.mem_append, List.mem_singleton, h.ri s z]
        refine ⟨fun y t zt => ?_, fun y => .inl fun t zt => ?_⟩
        · rw [pro s t e]
          exact (y.resolve_right e) t zt
        · rw [← pro s t e]; exact y t zt
    · show lk (putS x.nu src _) t < lk (putS x.nu src _) s
      rcases List.mem_append.mp z with z | z
      · have ps := (h.ri s (h.rs s z)).mp z t zt
        rw [nuo _ t (h.pin s (h.rs s z) t zt ps), nuo _ s z]
        exact h.lt s z t zt
      · have e := List.mem_singleton.mp z
        subst e
        have pt := all t zt
        rw [nuo _ t (pin2 s hs t zt pt), lk_put, if_pos rfl]
        rw [prs] at pt
        rcases Bool.or_eq_true_iff.mp pt with q | q
        · have a1 := h.gr s hs t zt q
          have a2 := maxP_l (lk x.gr s) (lk x.nu st + 1)
          omega
        · rw [of_decide_eq_true q]
          have a2 := maxP_r (lk x.gr s) (lk x.nu st + 1)
          omega
    · show 0 ≤ lk (putS x.nu src _) s
      rcases List.mem_append.mp z with z | z
      · rw [nuo _ s z]
        exact h.nn s z
      · rw [List.mem_singleton.mp z, lk_put, if_pos rfl]
        have a1 := h.nn st hst
        have a2 := maxP_r (lk x.gr src) (lk x.nu st + 1)
        omega
  · rw [if_neg hw]
    refine ⟨⟨h.rn, h.rs, h.kn, kw2, kg2 _, pin2, wa2, gr2, fun s z => ?_, h.lt, h.nn⟩, [], by rw [List.append_nil]⟩
    by_cases e : s = src
    · subst e
      refine ⟨fun y => absurd y hsr, fun y => ?_⟩
      exfalso
      rw [wsrc] at hw
      refine hw ?_
      have e0 : (tg s).filter (fun t => !pr' s t) = [] := List.filter_eq_nil_iff.mpr fun t zt => by rw [y t zt]; decide
      rw [e0]
      rfl
    · show s ∈ x.R ↔ _
      rw [h.ri s z]
      exact ⟨fun y t zt => by rw [pro s t e]; exact y t zt, fun y t zt => by rw [← pro s t e]; exact y t zt⟩
/-- the sources of a state, some counted -/
def prL (P L : List Sv) (st : Sv) (s t : Sv) : Bool := decide (t ∈ P) || (decide (s ∈ L) && decide (t = st))
theorem NI.srcs {ss : List Sv} {tg : Sv → List Sv} {P : List Sv} {st : Sv} (hnd : ∀ s ∈ ss, (tg s).Nodup) (hP : st ∉ P) : ∀ (L M : List Sv) (x : NS), (M ++ L).Nodup → (∀ s ∈ L, s ∈ ss ∧ st ∈ tg s) → st ∈ x.R → NI ss tg (prL P M st) x →
    NI ss tg (prL P (M ++ L) st) (L.foldl (nsSrc st) x) ∧ ∃ r, (L.foldl (nsSrc st) x).R = x.R ++ r
  | [], M, x, _, _, _, h => by rw [List.append_nil]; exact ⟨h, [], by rw [List.append_nil]; rfl⟩
  | src :: L, M, x, nd, hL, hst, h => by
    obtain ⟨h1, h2⟩ := hL src List.mem_cons_self
    have nM : src ∉ M := fun z => (List.nodup_append.mp nd).2.2 src z src List.mem_cons_self rfl
    have e : M ++ src :: L = (M ++ [src]) ++ L := by rw [List.append_assoc]; rfl
    obtain ⟨a1, r1, a2⟩ := NI.src (pr' := prL P (M ++ [src]) st) hnd h hst h1 h2 (by unfold prL; rw [decide_eq_false hP, decide_eq_false nM]; rfl) fun s t => by
      unfold prL
      rw [Bool.or_assoc]
      congr 1
      by_cases z : s ∈ M
      · simp [z]
      · by_cases z2 : s = src
        · simp [z2]
        · simp [z, z2]
    rw [e] at nd ⊢
    obtain ⟨b1, r2, b2⟩ := NI.srcs hnd hP L (M ++ [src]) (nsSrc st x src) nd (fun s z => hL s (List.mem_cons_of_mem _ z)) (by rw [a2]; exact List.mem_append_left _ hst) a1
    exact ⟨b1, r1 ++ r2, by rw [List.foldl_cons, b2, a2, List.append_assoc]⟩
theorem srcs_mem {ss : List Sv} {tg : Sv → List Sv} {s t : Sv} : s ∈ srcsOf ss tg t ↔ s ∈ ss ∧ t ∈ tg s := by
  unfold srcsOf
  rw [List.mem_flatMap]
  constructor
  · rintro ⟨u, hu, h⟩
    obtain ⟨y, hy, rfl⟩ := List.mem_map.mp h
    obtain ⟨y1, y2⟩ := List.mem_filter.mp hy
    have := of_decide_eq_true y2
    subst this
    exact ⟨hu, y1⟩
  · rintro ⟨h1, h2⟩
    exact ⟨s, h1, List.mem_map.mpr ⟨t, List.mem_filter.mpr ⟨h2, decide_eq_true rfl⟩, rfl⟩⟩
theorem filter_one {t : Sv} : ∀ {l : List Sv}, l.Nodup → (l.filter fun u => decide (u = t)).length ≤ 1
  | [], _ => by simp
  | x :: l, nd => by
    obtain ⟨n1, n2⟩ := List.nodup_cons.mp nd
    rw [List.filter_cons]
    split
    · rename_i e
      have e := of_decide_eq_true e
      have z : l.filter (fun u => decide (u = t)) = [] := List.filter_eq_nil_iff.mpr fun u hu => by
        simp only [decide_eq_true_eq]
        intro q
        exact n1 (by rw [e, ← q]; exact hu)
      rw [z]
      simp
    · exact filter_one n2
theorem srcs_nodup {tg : Sv → List Sv} {t : Sv} : ∀ {ss : List Sv}, ss.Nodup → (∀ s ∈ ss, (tg s).Nodup) → (srcsOf ss tg t).Nodup
  | [], _, _ => by simp [srcsOf]
  | s :: ss, nd, h => by
    obtain ⟨n1, n2⟩ := List.nodup_cons.mp nd
    have ih := srcs_nodup (t := t) n2 fun u hu => h u (List.mem_cons_of_mem _ hu)
    have e : srcsOf (s :: ss) tg t = (((tg s).filter fun u => decide (u = t)).map fun _ => s) ++ srcsOf ss tg t := by unfold srcsOf; rw [List.flatMap_cons]
    rw [e, List.nodup_append]
    refine ⟨?_, ih, fun a ha c hc q => ?_⟩
    · have l1 := filter_one (t := t) (h s List.mem_cons_self)
      cases hf : (tg s).filter fun u => decide (u = t) with
      | nil => simp
      | cons y r =>
        rw [hf, List.length_cons] at l1
        have : r = [] := List.eq_nil_of_length_eq_zero (by omega)
        rw [this]
        simp
    · obtain ⟨_, _, rfl⟩ := List.mem_map.mp ha
      rw [← q] at hc
      exact n1 (srcs_mem.mp hc).1
/-- a turn of the outer loop -/
theorem NI.turn {ss : List Sv} {tg : Sv → List Sv} {x : NS} {p : Nat} {st : Sv} (hs : ss.Nodup) (hnd : ∀ s ∈ ss, (tg s).Nodup) (h : NI ss tg (fun _ t => decide (t ∈ x.R.take p)) x) (hp : x.R[p]? = some st) :
    NI ss tg (fun _ t => decide (t ∈ ((srcsOf ss tg st).foldl (nsSrc st) x).R.take (p + 1))) ((srcsOf ss tg st).foldl (nsSrc st) x) := by
  have hl := (List.getElem?_eq_some_iff.mp hp).1
  have nP : st ∉ x.R.take p := fun z => by
    have nd := h.rn
    rw [← List.take_append_drop p x.R, List.nodup_append] at nd
    refine nd.2.2 st z st ?_ rfl
    rw [List.drop_eq_getElem_cons hl]
    have := (List.getElem?_eq_some_iff.mp hp).2
    rw [this]
    exact List.mem_cons_self
  obtain ⟨a1, r, a2⟩ := NI.srcs hnd nP (srcsOf ss tg st) [] x (by rw [List.nil_append]; exact srcs_nodup hs hnd) (fun s z => srcs_mem.mp z) (List.mem_of_getElem? hp) (h.same fun s z t zt => by unfold prL; simp)
  rw [List.nil_append] at a1
  refine a1.same fun s z t zt => ?_
  unfold prL
  rw [a2, List.take_append_of_le_length (by omega), take_snoc hp]
  by_cases e : t = st
  · subst e
    rw [decide_eq_true (List.mem_append_right _ (by simp)), decide_eq_true (srcs_mem.mpr ⟨z, zt⟩)]
    simp
  · rw [decide_eq_false e]
    simp [e]
def ns0 (ss : List Sv) (tg : Sv → List Sv) : NS := ⟨ss.filter fun s => (tg s).isEmpty, (ss.filter fun s => (tg s).isEmpty).map fun s => (s, 0), ss.map fun s => (s, ((tg s).length : Int)), ss.map fun s => (s, 0)⟩
theorem lk_map {f : Sv → Int} {s : Sv} : ∀ {ss : List Sv}, s ∈ ss → lk (ss.map fun s => (s, f s)) s = f s
  | [], h => by cases h
  | u :: ss, h => by
    unfold lk
    rw [List.map_cons]
    by_cases e : u = s
    · rw [lkD_pos (p := (u, f u)) e, e]; rfl
    · rw [lkD_neg (p := (u, f u)) e]
      exact lk_map ((List.mem_cons.mp h).resolve_left fun z => e z.symm)
theorem ns0_ok {ss : List Sv} {tg : Sv → List Sv} (hs : ss.Nodup) : NI ss tg (fun _ t => decide (t ∈ (ns0 ss tg).R.take 0)) (ns0 ss tg) where
  rn := hs.sublist List.filter_sublist
  rs := fun s z => (List.mem_filter.mp z).1
  kn := by
    show ((ss.filter fun s => (tg s).isEmpty).map fun s => (s, (0 : Int))).map (·.1) = ss.filter fun s => (tg s).isEmpty
    rw [List.map_map]; exact List.map_id _
  kw := by
    show (ss.map fun s => (s, ((tg s).length : Int))).map (·.1) = ss
    rw [List.map_map]; exact List.map_id _
  kg := by
    show (ss.map fun s => (s, (0 : Int))).map (·.1) = ss
    rw [List.map_map]; exact List.map_id _
  pin := fun s _ t _ q => by rw [List.take_zero] at q; simp at q
  wa := fun s z => by
    show lk (ss.map fun s => (s, ((tg s).length : Int))) s = _
    rw [lk_map z, List.filter_eq_self.mpr fun t _ => by simp]
  gr := fun s _ t _ q => by rw [List.take_zero] at q; simp at q
  ri := fun s z => by
    show s ∈ ss.filter (fun s => (tg s).isEmpty) ↔ _
    rw [List.mem_filter]
    constructor
    · rintro ⟨_, e⟩ t ht
      rw [List.isEmpty_iff.mp e] at ht
      cases ht
    · intro y
      refine ⟨z, ?_⟩
      cases e : tg s with
      | nil => rfl
      | cons t r =>
        have := y t (by rw [e]; exact List.mem_cons_self)
        rw [List.take_zero] at this
        simp at this
  lt := fun s z t zt => by
    have e := List.isEmpty_iff.mp (List.mem_filter.mp z).2
    rw [e] at zt
    cases zt
  nn := fun s z => by
    show 0 ≤ lk ((ss.filter fun s => (tg s).isEmpty).map fun s => (s, (0 : Int))) s
    have z : s ∈ ss.filter fun s => (tg s).isEmpty := z
    rw [lk_map (f := fun _ => (0 : Int)) z]
    exact Int.le_refl _
theorem NI.rlen {ss : List Sv} {tg : Sv → List Sv} {pr : Sv → Sv → Bool} {x : NS} (h : NI ss tg pr x) : x.R.length ≤ ss.length := List.Nodup.length_le_of_subset h.rn h.rs
theorem nsF_ok {ss : List Sv} {tg : Sv → List Sv} (hs : ss.Nodup) (hnd : ∀ s ∈ ss, (tg s).Nodup) : ∀ (m p : Nat) (x : NS), ss.length ≤ m + p → NI ss tg (fun _ t => decide (t ∈ x.R.take p)) x →
    NI ss tg (fun _ t => decide (t ∈ (nsF (srcsOf ss tg) m x p).R)) (nsF (srcsOf ss tg) m x p)
  | 0, p, x, hm, h => by
    have := h.rlen
    unfold nsF
    rw [List.take_of_length_le (by omega)] at h
    exact h
  | m + 1, p, x, hm, h => by
    unfold nsF
    cases hp : x.R[p]? with
    | none =>
      have := List.getElem?_eq_none_iff.mp hp
      rw [List.take_of_length_le this] at h
      exact h
    | some st => exact nsF_ok hs hnd m (p + 1) _ (by omega) (h.turn hs hnd hp)
/-- the numbers found -/
def numsN (ss : List Sv) (tg : Sv → List Sv) : Kvs := (nsF (srcsOf ss tg) 64 (ns0 ss tg) 0).nu
theorem nums_good {ss : List Sv} {tg : Sv → List Sv} (hs : ss.Nodup) (hnd : ∀ s ∈ ss, (tg s).Nodup) (hl : ss.length ≤ 64) (he : ¬ (numsN ss tg).length < ss.length) :
    (∀ s ∈ ss, s ∈ (numsN ss tg).map (·.1)) ∧ (∀ s ∈ ss, ∀ t ∈ tg s, lk (numsN ss tg) t < lk (numsN ss tg) s) ∧ ∀ s ∈ ss, 0 ≤ lk (numsN ss tg) s := by
  have h := nsF_ok hs hnd 64 0 (ns0 ss tg) hl (ns0_ok hs)
  unfold numsN at he ⊢
  obtain ⟨x, ex⟩ : ∃ x, x = nsF (srcsOf ss tg) 64 (ns0 ss tg) 0 := ⟨_, rfl⟩
  rw [← ex] at h he ⊢
  have e1 : x.nu.length = x.R.length := by rw [← h.kn, List.length_map]
  have sub : ∀ s ∈ ss, s ∈ x.R := fun s z => by
    refine Classical.byContradiction fun n => ?_
    have := List.Nodup.length_le_of_subset (l₁ := s :: x.R) (l₂ := ss) (List.nodup_cons.mpr ⟨n, h.rn⟩) fun u hu => (List.mem_cons.mp hu).elim (fun q => by rw [q]; exact z) (h.rs u)
    rw [List.length_cons] at this
    omega
  exact ⟨fun s z => by rw [h.kn]; exact sub s z, fun s z => h.lt s (sub s z), fun s z => h.nn s (sub s z)⟩
end DL

namespace DL
open PySem L2

theorem sc31 : FnScope ["board", "states", "state", "sources", "waiting", "ready", "targets", "target", "numbers", "greatest", "at", "source", "_"] ["board", "states"] (defScope (top 31)) := ⟨rfl, rfl, rfl, by decide +kernel, rfl, by decide +kernel, by decide +kernel⟩
theorem sc32 : FnScope ["board", "hurry", "limit", "states", "numbers", "state"] ["board", "hurry", "limit"] (defScope (top 32)) := ⟨rfl, rfl, rfl, by decide +kernel, rfl, by decide +kernel, by decide +kernel⟩

def tgB (b : Bd) (s : Sv) : List Sv := (dueN b s).map (stepN b s)
/-- closed under the moves of relays -/
def ClR (b : Bd) (ss : List Sv) : Prop := ∀ s ∈ ss, ∀ t ∈ tgB b s, t ∈ ss
theorem flip_get (l : List Bool) (i j : Nat) (h : i < l.length) : (flipN l i).getD j false = if j = i then !l.getD i false else l.getD j false := by
  unfold flipN
  rw [List.getD_eq_getElem?_getD, List.getElem?_set]
  by_cases e : i = j
  · subst e
    rw [if_pos rfl, if_pos h, if_pos rfl]
    rfl
  · rw [if_neg e, if_neg (fun z => e z.symm), List.getD_eq_getElem?_getD]
theorem flip_inj {l : List Bool} {i j : Nat} (hi : i < l.length) (hj : j < l.length) (e : flipN l i = flipN l j) : i = j := by
  refine Classical.byContradiction fun n => ?_
  have h1 := flip_get l i i hi
  have h2 := flip_get l j i hj
  rw [e, h2, if_pos rfl, if_neg n] at h1
  cases q : l.getD i false <;> rw [q] at h1 <;> cases h1
theorem nodup_map_inj {α β : Type} {f : α → β} (hf : ∀ x y, f x = f y → x = y) : ∀ {l : List α}, l.Nodup → (l.map f).Nodup
  | [], _ => List.nodup_nil
  | x :: l, h => by
    obtain ⟨n1, n2⟩ := List.nodup_cons.mp h
    rw [List.map_cons]
    refine List.nodup_cons.mpr ⟨fun z => ?_, nodup_map_inj hf n2⟩
    obtain ⟨y, hy, e⟩ := List.mem_map.mp z
    exact n1 (by rw [← hf y x e]; exact hy)
theorem tg_nodup {b : Bd} (ok : b.Ok) {s : Sv} (hs : StOk b s) : (tgB b s).Nodup := by
  have hd : (dueN b s).Nodup := by
    unfold dueN
    refine nodup_map_inj (fun x y e => ?_) (List.nodup_range.sublist List.filter_sublist)
    have e : b.nsw + x = b.nsw + y := e
    omega
  unfold tgB
  have all : ∀ l : List Nat, l.Nodup → (∀ i ∈ l, i < s.1.length) → (l.map (stepN b s)).Nodup := by
    intro l
    induction l with
    | nil => intro _ _; exact List.nodup_nil
    | cons i l ih =>
      intro nd hl
      obtain ⟨n1, n2⟩ := List.nodup_cons.mp nd
      rw [List.map_cons]
      refine List.nodup_cons.mpr ⟨fun z => ?_, ih n2 fun j hj => hl j (List.mem_cons_of_mem _ hj)⟩
      obtain ⟨j, hj, e⟩ := List.mem_map.mp z
      have e2 := flip_inj (hl j (List.mem_cons_of_mem _ hj)) (hl i List.mem_cons_self) (congrArg Prod.fst e)
      exact n1 (by rw [← e2]; exact hj)
  exact all _ hd fun i hi => by rw [show s.1.length = b.mvs.length from hs]; exact due_lt ok i hi
def srcM (ss : List Sv) (S : Sv → List Sv) : List (Sv × List D) := ss.map fun t => (t, (S t).map dSv)
theorem srcM_app (ss : List Sv) (S : Sv → List Sv) (u s : Sv) : appS (srcM ss S) u (dSv s) = srcM ss fun t => if t = u then S t ++ [s] else S t := by
  unfold appS srcM
  rw [List.map_map]
  refine List.map_congr_left fun t _ => ?_
  show (if t = u then (t, (S t).map dSv ++ [dSv s]) else (t, (S t).map dSv)) = (t, (if t = u then S t ++ [s] else S t).map dSv)
  split
  · rw [List.map_append]; rfl
  · rfl
theorem srcM_keys (ss : List Sv) (S : Sv → List Sv) : (srcM ss S).map (·.1) = ss := by
  unfold srcM
  rw [List.map_map]
  exact List.map_id _
theorem lkD_fn {α : Type} (f : Sv → α) {u : Sv} : ∀ {ss : List Sv}, u ∈ ss → lkD (ss.map fun t => (t, f t)) u = some (f u)
  | [], h => by cases h
  | t :: ss, h => by
    rw [List.map_cons]
    by_cases e : t = u
    · rw [lkD_pos (p := (t, f t)) e, e]
    · rw [lkD_neg (p := (t, f t)) e]
      exact lkD_fn f ((List.mem_cons.mp h).resolve_left fun z => e z.symm)
theorem srcM_congr {ss : List Sv} {S S' : Sv → List Sv} (h : ∀ t, S t = S' t) : srcM ss S = srcM ss S' := by
  unfold srcM
  exact List.map_congr_left fun t _ => by rw [h t]
theorem tg_len {b : Bd} (ok : b.Ok) (s : Sv) : (tgB b s).length ≤ 3 := by
  have := due_len (b := b) s
  have := ok.r3
  unfold tgB
  rw [List.length_map]
  omega
theorem srcs_len {b : Bd} (ok : b.Ok) (ss : List Sv) (t : Sv) : (srcsOf ss (tgB b) t).length ≤ ss.length * 3 := by
  refine flatMap_len (fun s => ?_) ss
  rw [List.length_map]
  exact Nat.le_trans (List.length_filter_le _ _) (tg_len ok s)
theorem putS_snoc {α : Type} (f : Sv → α) {ss : List Sv} {j : Nat} {s : Sv} (nd : ss.Nodup) (h : ss[j]? = some s) : putS ((ss.take j).map fun s => (s, f s)) s (f s) = (ss.take (j + 1)).map fun s => (s, f s) := by
  have hl := (List.getElem?_eq_some_iff.mp h).1
  rw [putS_new, take_snoc h, List.map_append]
  · rfl
  · rw [lkD_none, List.map_map]
    intro z
    obtain ⟨y, hy, e⟩ := List.mem_map.mp z
    have e : y = s := e
    subst e
    have nd2 := nd
    rw [← List.take_append_drop j ss, List.nodup_append] at nd2
    refine nd2.2.2 y hy y ?_ rfl
    rw [List.drop_eq_getElem_cons hl]
    have := (List.getElem?_eq_some_iff.mp h).2
    rw [this]
    exact List.mem_cons_self

section
variable {P : Program} {w : World} {K : PySem.W.Frag} {mg : Str → Option Value} {base : Heap} {f Cb Cs : Addr} {fd : FuncData}
def preNums (P : Program) (w : World) (K : PySem.W.Frag) (Cb : Addr) (ds : List D) (d : D) : Prop := ∃ (b : Bd) (ss : List Sv), b.Ok ∧ SvL b ss ∧ ClR b ss ∧ ds = [dBd Cb b, .lst (ss.map dSv)] ∧ d = dSd P w K (dKv (numsN ss (tgB b)))
theorem ok_nums (FR : Kn P w K mg base "relay_steps" 9 (preRel Cb)) (ml : mg "len" = none) (mm : mg "max" = none) (F : FunD K "numbers_of" "numbers_of" (defArgs (top 31)) (defBody (top 31)) (defScope (top 31)) [] [] f fd) :
    FnOk P w K mg base CX0 10 f fd ["board", "states"] (spD K (preNums P w K Cb)) :=
  fn_d F sc31 (fun ds d ⟨b, ss, _, _, _, e, _⟩ => by rw [e]; rfl) fun X C ds d ⟨b, ss, ok, hss, hcl, e1, e2⟩ => by
    subst e1 e2
    obtain ⟨rfl, rfl, rfl⟩ : X.prog = P ∧ X.w = w ∧ X.K = K := ⟨C.eP, C.ew, C.eK⟩
    have l64 := hss.len ok
    have hnd : ∀ s ∈ ss, (tgB b s).Nodup := fun s hs => tg_nodup ok (hss.2 s hs)
    obtain ⟨tg, etg⟩ : ∃ tg, tg = tgB b := ⟨_, rfl⟩
    -- sources
    refine xss_cons (xs_dcl (own := [("state", 2)]) (kvl := srcM ss fun _ => []) C 3 ⟨by decide +kernel, Sv, ss, dSv, fun s => [.im (dBd Cb b), .im (.lst (ss.map dSv)), .im (dSv s), .un, .un, .un, .un, .un, .un, .un, .un, .un, .un], id, fun _ => [], rfl, xi_list (xe_var C.toCxt 1 rfl), by omega, by rw [List.map_id]; exact hss.1, fun X' C' s hs => ⟨xtg_name C' 2, xe_var C' 2 rfl, xn_nil⟩⟩ ?_)
    refine xss_cons (xs_asgM C 4 (xm_dnew C.toCxt) (xss_cons (xs_asgN C 5 xn_nil ?_)))
    refine xss_cons (xs_for C (xi_list (xe_var C.toCxt 1 rfl)) (fun j G1 => G1 = [.im (dBd Cb b), .im (.lst (ss.map dSv)), .un, .mu (mDl X.prog X.w X.K (srcM ss (srcsOf (ss.take j) tg))), .mu (mDict X.prog X.w X.K (dKv ((ss.take j).map fun s => (s, ((tg s).length : Int))))), .ml X.K (((ss.take j).filter fun s => (tg s).isEmpty).map dSv), .un, .un, .un, .un, .un, .un, .un]) rfl ?_ ?_)
    · rintro j d G1 hd rfl
      rw [List.getElem?_map] at hd
      cases hq : ss[j]? with
      | none => rw [hq] at hd; cases hd
      | some s =>
        rw [hq] at hd
        cases hd
        have hmem := List.mem_of_getElem? hq
        have hs := hss.2 s hmem
        have ll := List.length_take_le j ss
        have ll2 := List.length_take_le' j ss
        have rl : (relM b s).length ≤ 3 := by
          have := due_len (b := b) s
          have := ok.r3
          unfold relM
          rw [List.length_map]; omega
        refine ⟨_, _, xtg_name C.toCxt 2, xss_cons (xs_lc (own := [("_", 12), ("target", 7)]) (ds := (tg s).map dSv) C 6 ⟨by decide +kernel, Bool × Nat, relM b s, dStp b s,
          fun m => [.im (dBd Cb b), .im (.lst (ss.map dSv)), .im (dSv s), .mu (mDl X.prog X.w X.K (srcM ss (srcsOf (ss.take j) tg))), .mu (mDict X.prog X.w X.K (dKv ((ss.take j).map fun s => (s, ((tg s).length : Int))))), .ml X.K (((ss.take j).filter fun s => (tg s).isEmpty).map dSv), .un, .im (dSv (stepN b s m.2)), .un, .un, .un, .un, .im (dMo b m)],
          fun _ => true, fun m => dSv (stepN b s m.2), ?_, ?_, ?_, fun X' C' m hm => ⟨⟨[12, 7], fun i hi => hi, xtg_tup C' (xts_cons (xtg_name C' 12) (xts_cons (xtg_name C' 7) xts_nil)) rfl⟩, xf_nil, fun _ => xe_var C' 7 rfl⟩⟩ ?_)⟩
        · rw [List.filter_eq_self.mpr fun _ _ => rfl, etg]
          unfold tgB relM
          rw [List.map_map, List.map_map]; rfl
        · exact xi_list (xe_call C.toCxt FR (xa_cons (xe_var C.toCxt 0 rfl) (xa_cons (xe_var C.toCxt 2 rfl) xa_nil)) ⟨b, s, ok, hs, rfl, rfl⟩)
        · omega
        refine xss_cons (xs_dput C 4 rfl (d := dI ((tg s).length : Int)) ((xe_lenL C.toCxt ml (XE.r (xe_var C.toCxt 6 rfl))).is ?_) (xe_var C.toCxt 2 rfl) ?_ ?_)
        · rw [List.length_map]
        · rw [dKv_len, List.length_map]; omega
        rw [putS_dKv, putS_snoc (fun s => ((tg s).length : Int)) hss.1 hq]
        refine xss_cons (xs_for C (xi_list (xe_var C.toCxt 6 rfl)) (fun i G1 => G1 = [.im (dBd Cb b), .im (.lst (ss.map dSv)), .im (dSv s), .mu (mDl X.prog X.w X.K (srcM ss fun t => srcsOf (ss.take j) tg t ++ ((((tg s).take i).filter fun u => decide (u = t)).map fun _ => s))), .mu (mDict X.prog X.w X.K (dKv ((ss.take (j + 1)).map fun s => (s, ((tg s).length : Int))))), .ml X.K (((ss.take j).filter fun s => (tg s).isEmpty).map dSv), .im (.lst ((tg s).map dSv)), .un, .un, .un, .un, .un, .un]) ?_ ?_ ?_)
        · have e : srcM ss (srcsOf (ss.take j) tg) = srcM ss fun t => srcsOf (ss.take j) tg t ++ ((((tg s).take 0).filter fun u => decide (u = t)).map fun _ => s) := srcM_congr fun t => by rw [List.take_zero, List.filter_nil, List.map_nil, List.append_nil]
          rw [e]
          rfl
        · rintro i d G1 hd rfl
          rw [List.getElem?_map] at hd
          cases hu : (tg s)[i]? with
          | none => rw [hu] at hd; cases hd
          | some u =>
            rw [hu] at hd
            cases hd
            have hus : u ∈ ss := hcl s hmem u (by rw [← etg]; exact List.mem_of_getElem? hu)
            refine ⟨_, _, xtg_name C.toCxt 7, xss_one (xs_dlapp C 3 rfl (xe_var C.toCxt 7 rfl) (xe_var C.toCxt 2 rfl) (lkD_fn _ hus) (by rw [srcM_keys]; exact hss.1) ?_ ⟨_, .keep (.keep (.keep (.keep (.keep (.keep (.keep (.drop (.keep (.keep (.keep (.keep (.keep .nil)))))))))))), ?_⟩)⟩
            · have a1 := srcs_len ok (ss.take j) u
              have a2 := List.length_filter_le (fun v => decide (v = u)) ((tg s).take i)
              have a3 := List.length_take_le' i (tg s)
              have a4 := tg_len ok s
              rw [etg] at a2 a3 ⊢
              rw [List.length_map, List.length_append, List.length_map]
              omega
            · have e : appS (srcM ss fun t => srcsOf (ss.take j) tg t ++ ((((tg s).take i).filter fun u => decide (u = t)).map fun _ => s)) u (dSv s) = srcM ss fun t => srcsOf (ss.take j) tg t ++ ((((tg s).take (i + 1)).filter fun u => decide (u = t)).map fun _ => s) := by
                rw [srcM_app]
                refine srcM_congr fun t => ?_
                rw [take_snoc hu, List.filter_append, List.map_append, List.filter_cons, List.filter_nil]
                by_cases z : t = u
                · subst z
                  rw [if_pos rfl, if_pos (decide_eq_true rfl), List.append_assoc]
                  rfl
                · rw [if_neg z, if_neg (fun y => z (of_decide_eq_true y).symm), List.map_nil, List.append_nil]
              rw [← e]
        · rintro G1 rfl
          have e : (srcM ss fun t => srcsOf (ss.take j) tg t ++ ((((tg s).take ((tg s).map dSv).length).filter fun u => decide (u = t)).map fun _ => s)) = srcM ss (srcsOf (ss.take (j + 1)) tg) := srcM_congr fun t => by
            rw [List.length_map, List.take_length, take_snoc hq]
            unfold srcsOf
            rw [List.flatMap_append, List.flatMap_cons, List.flatMap_nil, List.append_nil]
          rw [e]
          refine xss_one (xs_if (xt_not (xt_list (XE.r (xe_var C.toCxt 6 rfl)))) (fun q => xss_one (xs_app C 5 rfl (xe_var C.toCxt 2 rfl) ?_ ⟨_, .keep (.keep (.drop (.keep (.keep (.keep (.drop (.keep (.keep (.keep (.keep (.keep (.keep .nil)))))))))))), ?_⟩)) fun q => xss_nil ⟨_, .keep (.keep (.drop (.keep (.keep (.keep (.drop (.keep (.keep (.keep (.keep (.keep (.keep .nil)))))))))))), ?_⟩)
          · have := List.length_filter_le (fun s => (tg s).isEmpty) (ss.take j)
            rw [List.length_map]; omega
          · have q2 : (tg s).isEmpty = true := by
              cases z : tg s with
              | nil => rfl
              | cons y r => rw [z] at q; cases q
            have e2 : ((ss.take j).filter fun s => (tg s).isEmpty).map dSv ++ [dSv s] = ((ss.take (j + 1)).filter fun s => (tg s).isEmpty).map dSv := by
              rw [take_snoc hq, List.filter_append, List.map_append, List.filter_cons, if_pos q2]
              rfl
            rw [← e2]
          · have q2 : (tg s).isEmpty = false := by
              cases z : tg s with
              | nil => rw [z] at q; cases q
              | cons y r => rfl
            have e2 : ((ss.take j).filter fun s => (tg s).isEmpty).map dSv = ((ss.take (j + 1)).filter fun s => (tg s).isEmpty).map dSv := by
              rw [take_snoc hq, List.filter_append, List.map_append, List.filter_cons, if_neg (by rw [q2]; exact Bool.false_ne_true), List.filter_nil, List.map_nil, List.append_nil]
            rw [← e2]
    rintro G1 rfl
    rw [List.length_map, List.take_length]
    refine xss_freezeDl C.toCxt 3 rfl ?_
    -- numbers, greatest
    refine xss_cons (xs_dc (own := [("state", 2)]) (kvs := dKv (ns0 ss tg).nu) C 8 ⟨by decide +kernel, Sv, ss.filter fun s => (tg s).isEmpty, dSv, fun s => [.im (dBd Cb b), .im (.lst (ss.map dSv)), .im (dSv s), .mu (mDict X.prog X.w X.K ((srcM ss (srcsOf ss tg)).map fun p => (p.1, D.lst p.2))), .mu (mDict X.prog X.w X.K (dKv (ss.map fun s => (s, ((tg s).length : Int))))), .ml X.K ((ss.filter fun s => (tg s).isEmpty).map dSv), .un, .un, .un, .un, .un, .un, .un], id, fun _ => dI 0, ?_, ?_, ?_, ?_, fun X' C' s hs => ⟨xtg_name C' 2, xe_var C' 2 rfl, xe_int⟩⟩ ?_)
    · unfold dKv ns0; rw [List.map_map]; rfl
    · exact xig_ml C.toCxt 5 rfl
    · have := List.length_filter_le (fun s => (tg s).isEmpty) ss
      omega
    · rw [List.map_id]; exact hss.1.sublist List.filter_sublist
    refine xss_cons (xs_dc (own := [("state", 2)]) (kvs := dKv (ns0 ss tg).gr) C 9 ⟨by decide +kernel, Sv, ss, dSv, fun s => [.im (dBd Cb b), .im (.lst (ss.map dSv)), .im (dSv s), .mu (mDict X.prog X.w X.K ((srcM ss (srcsOf ss tg)).map fun p => (p.1, D.lst p.2))), .mu (mDict X.prog X.w X.K (dKv (ss.map fun s => (s, ((tg s).length : Int))))), .ml X.K ((ss.filter fun s => (tg s).isEmpty).map dSv), .un, .un, .mu (mDict X.prog X.w X.K (dKv (ns0 ss tg).nu)), .un, .un, .un, .un], id, fun _ => dI 0, ?_, ?_, ?_, ?_, fun X' C' s hs => ⟨xtg_name C' 2, xe_var C' 2 rfl, xe_int⟩⟩ ?_)
    · unfold dKv ns0; rw [List.map_map]; rfl
    · exact EvI.g (xi_list (xe_var C.toCxt 1 rfl))
    · omega
    · rw [List.map_id]; exact hss.1
    refine xss_cons (xs_asg C 10 xe_int ?_)
    have hnd' : ∀ s ∈ ss, (tg s).Nodup := by rw [etg]; exact hnd
    rw [← etg]
    refine xss_cons (xs_while C (fun m G1 => ∃ x p, m + p = 64 ∧ NI ss tg (fun _ t => decide (t ∈ x.R.take p)) x ∧ (nsF (srcsOf ss tg) m x p).nu = numsN ss tg ∧
      G1 = [.im (dBd Cb b), .im (.lst (ss.map dSv)), .un, .mu (mDict X.prog X.w X.K ((srcM ss (srcsOf ss tg)).map fun p => (p.1, D.lst p.2))), .mu (mDict X.prog X.w X.K (dKv x.wa)), .ml X.K (x.R.map dSv), .un, .un, .mu (mDict X.prog X.w X.K (dKv x.nu)), .mu (mDict X.prog X.w X.K (dKv x.gr)), .im (dI (p : Int)), .un, .un]) 64
      ⟨ns0 ss tg, 0, rfl, ns0_ok hss.1, rfl, rfl⟩ ?_)
    rintro m G1 ⟨x, p, hm, hx, hf, rfl⟩
    have rl := hx.rlen
    refine ⟨_, xt_cmp (xc_lt (xe_var C.toCxt 10 rfl) (xe_lenL C.toCxt ml (xr_var C.toCxt 5 rfl))), fun q => ?_, fun q => ?_⟩
    · have q := of_decide_eq_true q
      rw [List.length_map] at q
      have hp : p < x.R.length := by omega
      obtain ⟨m', rfl⟩ : ∃ m', m = m' + 1 := ⟨m - 1, by omega⟩
      obtain ⟨st, hst⟩ : ∃ st, x.R[p]? = some st := ⟨_, List.getElem?_eq_getElem hp⟩
      have hstR := List.mem_of_getElem? hst
      have hsts := hx.rs st hstR
      unfold nsF at hf
      rw [hst] at hf
      have hf : (nsF (srcsOf ss tg) m' ((srcsOf ss tg st).foldl (nsSrc st) x) (p + 1)).nu = numsN ss tg := hf
      have nP : st ∉ x.R.take p := fun z => by
        have nd := hx.rn
        rw [← List.take_append_drop p x.R, List.nodup_append] at nd
        refine nd.2.2 st z st ?_ rfl
        rw [List.drop_eq_getElem_cons hp]
        have := (List.getElem?_eq_some_iff.mp hst).2
        rw [this]
        exact List.mem_cons_self
      refine xss_cons (xs_asg C 2 (d := dSv st) (xe_ixL (xr_var C.toCxt 5 rfl) (xe_var C.toCxt 10 rfl) (by rw [atI_nat, List.getElem?_map, hst]; rfl)) ?_)
      refine xss_cons (xs_aug C 10 rfl xe_int ?_)
      refine xss_one (xs_for C (xi_list (ds := (srcsOf ss tg st).map dSv) (xe_dget C.toCxt 3 rfl (xe_var C.toCxt 2 rfl) ?_)) (fun j G1 => ∃ y, y = ((srcsOf ss tg st).take j).foldl (nsSrc st) x ∧ G1 = [.im (dBd Cb b), .im (.lst (ss.map dSv)), .im (dSv st), .mu (mDict X.prog X.w X.K ((srcM ss (srcsOf ss tg)).map fun p => (p.1, D.lst p.2))), .mu (mDict X.prog X.w X.K (dKv y.wa)), .ml X.K (y.R.map dSv), .un, .un, .mu (mDict X.prog X.w X.K (dKv y.nu)), .mu (mDict X.prog X.w X.K (dKv y.gr)), .im (dI ((p : Int) + 1)), .un, .un])
        ⟨x, rfl, rfl⟩ ?_ ?_)
      · unfold srcM
        rw [List.map_map]
        exact lkD_fn (fun t => D.lst ((srcsOf ss tg t).map dSv)) hsts
      · rintro j d G1 hd ⟨y, ey, rfl⟩
        rw [List.getElem?_map] at hd
        cases hq : (srcsOf ss tg st)[j]? with
        | none => rw [hq] at hd; cases hd
        | some src =>
          rw [hq] at hd
          cases hd
          obtain ⟨h1, h2⟩ := srcs_mem.mp (List.mem_of_getElem? hq)
          have sn := srcs_nodup (t := st) hss.1 hnd'
          obtain ⟨hy, r, er⟩ := NI.srcs (st := st) hnd' nP ((srcsOf ss tg st).take j) [] x (by rw [List.nil_append]; exact sn.sublist (List.take_sublist _ _)) (fun s z => srcs_mem.mp (List.mem_of_mem_take z)) hstR (hx.same fun s z t zt => by unfold prL; simp)
          rw [← ey] at hy er
          have kst : st ∈ y.nu.map (·.1) := by rw [hy.kn, er]; exact List.mem_append_left _ hstR
          have kgs : src ∈ y.gr.map (·.1) := by rw [hy.kg]; exact h1
          have kws : src ∈ y.wa.map (·.1) := by rw [hy.kw]; exact h1
          have gl : y.gr.length ≤ 64 := by
            have := congrArg List.length hy.kg
            rw [List.length_map] at this; omega
          have wl : y.wa.length ≤ 64 := by
            have := congrArg List.length hy.kw
            rw [List.length_map] at this; omega
          have yl := hy.rlen
          have nl : y.nu.length ≤ 64 := by
            have := congrArg List.length hy.kn
            rw [List.length_map] at this; omega
          have next : ((srcsOf ss tg st).take (j + 1)).foldl (nsSrc st) x = nsSrc st y src := by
            rw [take_snoc hq, List.foldl_append, ← ey]; rfl
          obtain ⟨g, eg⟩ : ∃ g, g = maxP (lk y.gr src) (lk y.nu st + 1) := ⟨_, rfl⟩
          obtain ⟨wv, ew⟩ : ∃ wv, wv = lk y.wa src - 1 := ⟨_, rfl⟩
          refine ⟨_, _, xtg_name C.toCxt 11, xss_cons (xs_dput C 9 rfl (d := dI g) ((xe_max2 C.toCxt mm (xe_dget C.toCxt 9 rfl (xe_var C.toCxt 11 rfl) (by rw [lkD_dKv, lkD_key kgs]; rfl)) (xe_add (xe_dget C.toCxt 8 rfl (xe_var C.toCxt 2 rfl) (by rw [lkD_dKv, lkD_key kst]; rfl)) xe_int)).is (by rw [eg]; rfl)) (xe_var C.toCxt 11 rfl) (by rw [dKv_len]; omega) ?_)⟩
          rw [putS_dKv]
          refine xss_cons (xs_daug C 4 rfl xe_int (xe_var C.toCxt 11 rfl) (m := lk y.wa src) (by rw [lkD_dKv, lkD_key kws]; rfl) (by rw [dKv_len]; omega) ?_)
          rw [putS_dKv, ← ew]
          refine xss_one (xs_if ((xt_cmp (xc_eq (u := .int wv) (xe_dget C.toCxt 4 rfl (xe_var C.toCxt 11 rfl) (by rw [lkD_dKv, lkD_put, if_pos rfl]; rfl)) xe_int rfl)).is (d' := decide (wv = 0)) ?_) (fun z => ?_) fun z => xss_nil ⟨_, .keep (.keep (.keep (.keep (.keep (.keep (.keep (.keep (.keep (.keep (.keep (.drop (.keep .nil)))))))))))), _, rfl, ?_⟩)
          · exact decide_eq_decide.mpr ⟨fun q => V.int.inj q, fun q => by rw [q]⟩
          · have z := of_decide_eq_true z
            refine xss_cons (xs_dput C 8 rfl (d := dI g) (xe_dget C.toCxt 9 rfl (xe_var C.toCxt 11 rfl) (by rw [lkD_dKv, lkD_put, if_pos rfl]; rfl)) (xe_var C.toCxt 11 rfl) (by rw [dKv_len]; omega) ?_)
            rw [putS_dKv]
            refine xss_one (xs_app C 5 rfl (xe_var C.toCxt 11 rfl) (by rw [List.length_map]; omega) ⟨_, .keep (.keep (.keep (.keep (.keep (.keep (.keep (.keep (.keep (.keep (.keep (.drop (.keep .nil)))))))))))), _, rfl, ?_⟩)
            rw [next]
            unfold nsSrc
            rw [← ew, if_pos z, ← eg]
            simp only [List.map_append, List.map_cons, List.map_nil]
          · have z := of_decide_eq_false z
            rw [next]
            unfold nsSrc
            rw [← ew, if_neg z, ← eg]
      · rintro G1 ⟨y, ey, rfl⟩
        rw [List.length_map, List.take_length] at ey
        have ht := hx.turn hss.1 hnd' hst
        rw [← ey] at ht hf
        exact ⟨m', by omega, _, .keep (.keep (.drop (.keep (.keep (.keep (.keep (.keep (.keep (.keep (.keep (.keep (.keep .nil)))))))))))), y, p + 1, by omega, ht, hf, rfl⟩
    · have q := of_decide_eq_false q
      rw [List.length_map] at q
      have e : nsF (srcsOf ss tg) m x p = x := by
        cases m with
        | zero => rfl
        | succ m =>
          unfold nsF
          rw [List.getElem?_eq_none (by omega)]
      rw [e] at hf
      rw [← hf]
      exact xss_freezeD C.toCxt 8 rfl (xss_one (xs_ret (xe_var C.toCxt 8 rfl) rfl))
def ranksN (ss : List Sv) (tg : Sv → List Sv) : Option (List (Sv × Int)) := if (numsN ss tg).length < ss.length then none else some (ss.map fun s => (s, lk (numsN ss tg) s))
def dRk : Option (List (Sv × Int)) → D
  | none => dN
  | some T => .lst (dTab T)
def preRanks (Cb : Addr) (ds : List D) (d : D) : Prop := ∃ (b : Bd) (h : Nat), b.Ok ∧ ClR b (exploreN b h) ∧ ds = [dBd Cb b, dI (h : Int), dI 3000] ∧ d = dRk (ranksN (exploreN b h) (tgB b))
theorem ok_ranks {dvs : List V} {kws : List (Str × V)} (c : SeC K Cs) (FE : KnK P w K mg base "explore" 11 1 ["hurry", "limit"] [] (preEx Cb Cs)) (FN : Kn P w K mg base "numbers_of" 10 (preNums P w K Cb)) (ml : mg "len" = none)
    (F : FunD K "ranks" "ranks" (defArgs (top 32)) (defBody (top 32)) (defScope (top 32)) dvs kws f fd) : FnOk P w K mg base CX0 12 f fd ["board", "hurry", "limit"] (spD K (preRanks Cb)) :=
  fn_d F sc32 (fun ds d ⟨b, h, _, _, e, _⟩ => by rw [e]; rfl) fun X C ds d ⟨b, h, ok, hcl, e1, e2⟩ => by
    subst e1 e2
    obtain ⟨rfl, rfl, rfl⟩ : X.prog = P ∧ X.w = w ∧ X.K = K := ⟨C.eP, C.ew, C.eK⟩
    have hss := explore_ok b h
    have l64 := hss.len ok
    have hnd : ∀ s ∈ exploreN b h, (tgB b s).Nodup := fun s hs => tg_nodup ok (hss.2 s hs)
    refine xss_cons (xs_asg C 3 (d := .lst ((exploreN b h).map dSv)) (xe_fld C.toCxt (xe_callK C.toCxt FE (xa_cons (xe_var C.toCxt 0 rfl) xa_nil) (xk_cons (xe_var C.toCxt 1 rfl) (xk_cons (xe_var C.toCxt 2 rfl) xk_nil)) rfl rfl ⟨b, h, ok, rfl, rfl⟩) c.c c.n2 rfl) ?_)
    refine xss_cons (xs_asg C 4 (d := dSd X.prog X.w X.K (dKv (numsN (exploreN b h) (tgB b)))) (xe_call C.toCxt FN (xa_cons (xe_var C.toCxt 0 rfl) (xa_cons (xe_var C.toCxt 3 rfl) xa_nil)) ⟨b, _, ok, hss, hcl, rfl, rfl⟩) ?_)
    refine xss_cons (xs_if ((xt_cmp (xc_lt (xe_alen C.toCxt ml (xe_var C.toCxt 4 rfl)) (xe_lenL C.toCxt ml (XE.r (xe_var C.toCxt 3 rfl))))).is (d' := decide ((numsN (exploreN b h) (tgB b)).length < (exploreN b h).length)) ?_) (fun q => xss_one (xs_ret xe_non ?_)) fun q => xss_nil ?_)
    · rw [dKv_len, List.length_map]
      exact decide_eq_decide.mpr Int.ofNat_lt
    · unfold ranksN
      rw [if_pos (of_decide_eq_true q)]
      rfl
    have q := of_decide_eq_false q
    obtain ⟨keys, _⟩ := nums_good hss.1 hnd l64 q
    refine xss_one (xs_ret (XN.toE (xn_lc (own := [("state", 5)]) (ds := (exploreN b h).map fun s => .tup [dSv s, dI (lk (numsN (exploreN b h) (tgB b)) s)]) C.toCxt ⟨by decide +kernel, Sv, exploreN b h, dSv, fun s => [.im (dBd Cb b), .im (dI (h : Int)), .im (dI 3000), .im (.lst ((exploreN b h).map dSv)), .im (dSd X.prog X.w X.K (dKv (numsN (exploreN b h) (tgB b)))), .im (dSv s)], fun _ => true, fun s => .tup [dSv s, dI (lk (numsN (exploreN b h) (tgB b)) s)], ?_, ?_, ?_, fun X' C' s hs => ⟨⟨[5], fun i hi => hi, xtg_name C' 5⟩, xf_nil, fun _ => xe_tup2 (xe_var C' 5 rfl) ?_⟩⟩)) ?_)
    · rw [List.filter_eq_self.mpr fun _ _ => rfl]
    · exact xi_list (xe_var C.toCxt 3 rfl)
    · omega
    · have e := C'.eP
      have e2 := C'.ew
      have e3 := C'.eK
      exact xe_aget C' (xe_var C' 4 rfl) (xe_var C' 5 rfl) (by rw [lkD_dKv, lkD_key (keys s hs)]; rfl)
    · unfold ranksN
      rw [if_neg q]
      show D.lst _ = D.lst (dTab _)
      unfold dTab
      rw [List.map_map]
      rfl
end
end DL

namespace DL
open PySem L2

theorem sc39 : FnScope ["names", "least", "most", "number", "name"] ["names", "least", "most"] (defScope (top 39)) := ⟨rfl, rfl, rfl, by decide +kernel, rfl, by decide +kernel, by decide +kernel⟩
theorem sc40 : FnScope ["one", "other", "nodes"] ["one", "other", "nodes"] (defScope (top 40)) := ⟨rfl, rfl, rfl, by decide +kernel, rfl, by decide +kernel, by decide +kernel⟩
theorem sc41 : FnScope ["loads", "nodes", "name", "one", "other"] ["loads", "nodes"] (defScope (top 41)) := ⟨rfl, rfl, rfl, by decide +kernel, rfl, by decide +kernel, by decide +kernel⟩
theorem sc42 : FnScope ["contact", "nodes", "movers", "one", "other", "mover", "when", "way"] ["contact", "nodes", "movers"] (defScope (top 42)) := ⟨rfl, rfl, rfl, by decide +kernel, rfl, by decide +kernel, by decide +kernel⟩
theorem sc43_5 : FnScope ["self", "nodes", "lamps", "switches", "relays", "contacts", "movers", "contact", "relay", "lamp"] ["self", "nodes", "lamps", "switches", "relays", "contacts"] (defScope (inClass (top 43) 5)) := ⟨rfl, rfl, rfl, by decide +kernel, rfl, by decide +kernel, by decide +kernel⟩
theorem sc43_6 : FnScope ["text", "char"] ["text"] (defScope (inClass (top 43) 6)) := ⟨rfl, rfl, rfl, by decide +kernel, rfl, by decide +kernel, by decide +kernel⟩

/-- what a name of the module holds -/
def KnV (mg : Str → Option Value) (x : Str) (v : V) : Prop := ∃ u, mg x = some u ∧ RelV v u
def KnT (K : PySem.W.Frag) (mg : Str → Option Value) (x : Str) (xs : List V) : Prop := ∃ q, mg x = some (.ref q) ∧ ∀ H, SqT K H q xs
abbrev charsS : Str := "abcdefghijklmnopqrstuvwxyz0123456789"

theorem inV_str_not {x : Str} : ∀ {l : List Str}, x ∉ l → inV (V.str x) (l.map V.str) = false
  | [], _ => rfl
  | y :: l, h => by
    have ih := inV_str_not (x := x) (l := l) fun z => h (List.mem_cons_of_mem _ z)
    have n : ¬ y = x := fun z => h (by rw [z]; exact List.mem_cons_self)
    unfold inV at ih ⊢
    rw [List.map_cons, List.any_cons, ih]
    simp [eqV, n]
theorem enumD_str (xs : List Str) : enumD (xs.map dS) = (List.range xs.length).map fun i => .tup [dI (i : Int), dS (xs.getD i ⟨#[]⟩)] := enumD_nat dS xs ⟨#[]⟩

section
variable {P : Program} {w : World} {K : PySem.W.Frag} {mg : Str → Option Value} {base : Heap} {f Cb : Addr} {fd : FuncData}
def preName (ds : List D) (d : D) : Prop := ∃ x : Str, okName x = true ∧ ds = [dS x] ∧ d = dB true
theorem okName_len {x : Str} (h : okName x = true) : 1 ≤ x.length ∧ x.length ≤ 12 := by
  unfold okName at h
  simp only [Bool.and_eq_true, decide_eq_true_eq] at h
  exact h.1
theorem ok_name (ml : mg "len" = none) (ma : mg "all" = none) (V1 : KnV mg "MOST_NAME_CHARS" (.int 12)) (V2 : KnV mg "NAME_CHARS" (.str charsS)) (F : FunD K "is_name" "Board.is_name" (defArgs (inClass (top 43) 6)) (defBody (inClass (top 43) 6)) (defScope (inClass (top 43) 6)) [] [] f fd) :
    FnOk P w K mg base CX0 1 f fd ["text"] (spD K preName) :=
  fn_d F sc43_6 (fun ds d ⟨x, _, e, _⟩ => by rw [e]; rfl) fun X C ds d ⟨x, hx, e1, e2⟩ => by
    subst e1 e2
    obtain ⟨u1, v1, v1'⟩ := V1
    obtain ⟨u2, v2, v2'⟩ := V2
    obtain ⟨l1, l2⟩ := okName_len hx
    refine xss_cons (xs_if (bb := false) ((xt_not (xt_chain xe_int (xe_lenS C.toCxt ml (xe_var C.toCxt 0 rfl) (by omega)) (xe_glob C.toCxt v1 v1'))).is ?_) (fun q => nomatch q) fun _ => xss_nil ?_)
    · rw [decide_eq_true (by omega), decide_eq_true (by omega)]; rfl
    refine xss_one (xs_ret (xe_all C.toCxt (bs := x.cps.toList.map fun c => decide (c ∈ charsS.cps.toList)) ma (XN.r (xn_lc (own := [("char", 1)]) C.toCxt ⟨by decide +kernel, Nat, x.cps.toList, fun c => dS ⟨#[c]⟩, fun c => [.im (dS x), .im (dS ⟨#[c]⟩)], fun _ => true, fun c => dB (decide (c ∈ charsS.cps.toList)), ?_, ?_, ?_, fun X' C' c hc => ⟨⟨[1], fun i hi => hi, xtg_name C' 1⟩, xf_nil, fun _ => xe_cmp (xc_inC (xe_var C' 1 rfl) (xe_glob C' v2 v2'))⟩⟩))) ?_)
    · rw [List.filter_eq_self.mpr fun _ _ => rfl, List.map_map]; rfl
    · exact xi_str (xe_var C.toCxt 0 rfl)
    · rw [Array.length_toList]
      have : x.cps.size = x.length := rfl
      omega
    · unfold okName at hx
      simp only [Bool.and_eq_true] at hx
      have h3 := hx.2
      show dB _ = dB true
      congr 2
      rw [List.all_map]
      exact h3
def preNames (ds : List D) (d : D) : Prop := ∃ (xs : List Str) (i j : Int), xs.Nodup ∧ (∀ x ∈ xs, okName x = true) ∧ i ≤ xs.length ∧ (xs.length : Int) ≤ j ∧ j ≤ 100 ∧ ds = [.lst (xs.map dS), dI i, dI j] ∧ d = dB true
theorem ok_names (FN : KnS P w K mg base "Board" "is_name" 1 preName) (ml : mg "len" = none) (me : mg "enumerate" = none) (F : FunD K "are_names" "are_names" (defArgs (top 39)) (defBody (top 39)) (defScope (top 39)) [] [] f fd) :
    FnOk P w K mg base CX0 2 f fd ["names", "least", "most"] (spD K preNames) :=
  fn_d F sc39 (fun ds d ⟨xs, i, j, _, _, _, _, _, e, _⟩ => by rw [e]; rfl) fun X C ds d ⟨xs, lo, hi, nd, hv, h1, h2, h3, e1, e2⟩ => by
    subst e1 e2
    refine xss_cons (xs_if (bb := false) ((xt_not (xt_chain (xe_var C.toCxt 1 rfl) (xe_lenL C.toCxt ml (XE.r (xe_var C.toCxt 0 rfl))) (xe_var C.toCxt 2 rfl))).is ?_) (fun q => nomatch q) fun _ => xss_nil ?_)
    · rw [List.length_map, decide_eq_true h1, decide_eq_true h2]; rfl
    refine xss_cons (xs_for C (XI.is (xi_enumL C.toCxt me (xe_var C.toCxt 0 rfl)) (enumD_str xs)) (fun j G1 => G1 = [.im (.lst (xs.map dS)), .im (dI lo), .im (dI hi), .un, .un]) rfl ?_ ?_)
    · rintro j d G1 hd rfl
      have hj : j < xs.length := by
        have := (List.getElem?_eq_some_iff.mp hd).1
        rwa [List.length_map, List.length_range] at this
      rw [List.getElem?_map, List.getElem?_range hj] at hd
      cases hd
      have hx : okName (xs.getD j ⟨#[]⟩) = true := by rw [getD_el _ hj]; exact hv _ (List.getElem_mem hj)
      have hn : xs.getD j ⟨#[]⟩ ∉ xs.take j := by
        rw [getD_el _ hj]
        intro z
        rw [← List.take_append_drop j xs, List.nodup_append] at nd
        refine nd.2.2 _ z _ ?_ rfl
        rw [List.drop_eq_getElem_cons hj]
        exact List.mem_cons_self
      refine ⟨_, _, xtg_tup C.toCxt (xts_cons (xtg_name C.toCxt 3) (xts_cons (xtg_name C.toCxt 4) xts_nil)) rfl, xss_one (xs_if (bb := false) ((xt_or2 (c := false) (xt_not (c := true) (xt_val (xe_smeth C.toCxt FN (xa_cons (xe_var C.toCxt 4 rfl) xa_nil) ⟨_, hx, rfl, rfl⟩)))
        fun _ => (xt_cmp (xc_inL (vs := (xs.take j).map V.str) (xe_var C.toCxt 4 rfl) (XN.r ((xn_slL (XE.r (xe_var C.toCxt 0 rfl)) xo_none (xo_some (xe_var C.toCxt 3 rfl))).is ?_)) rfl ?_)).is (inV_str_not hn))) (fun q => nomatch q) fun _ => xss_nil ⟨_, .keep (.keep (.keep (.drop (.drop .nil)))), rfl⟩)⟩
      · rw [cutD_lo _ _ (by rw [List.length_map]; omega), ← List.map_take, List.map_map]; rfl
      · exact flat_s id (xs.take j)
    · rintro G1 rfl
      exact xss_one (xs_ret xe_bl rfl)
def preBtw (ds : List D) (d : D) : Prop := ∃ (b : Bd) (i j : Nat), b.Ok ∧ i < b.nod.length ∧ j < b.nod.length ∧ i ≠ j ∧ ds = [dS (b.nm i), dS (b.nm j), .lst (dNs b (List.range b.nod.length))] ∧ d = dB true
theorem ok_btw (F : FunD K "is_between" "is_between" (defArgs (top 40)) (defBody (top 40)) (defScope (top 40)) [] [] f fd) : FnOk P w K mg base CX0 1 f fd ["one", "other", "nodes"] (spD K preBtw) :=
  fn_d F sc40 (fun ds d ⟨b, i, j, _, _, _, _, e, _⟩ => by rw [e]; rfl) fun X C ds d ⟨b, i, j, ok, hi, hj, hij, e1, e2⟩ => by
    subst e1 e2
    refine xss_one (xs_ret (xe_and3 (xe_cmp (xc_inL (vs := (List.range b.nod.length).map fun i => V.str (b.nm i)) (xe_var C.toCxt 0 rfl) (XE.r (xe_var C.toCxt 2 rfl)) rfl (flat_s b.nm _))) (fun _ => xe_cmp (xc_inL (vs := (List.range b.nod.length).map fun i => V.str (b.nm i)) (xe_var C.toCxt 1 rfl) (XE.r (xe_var C.toCxt 2 rfl)) rfl (flat_s b.nm _))) fun _ _ => xe_cmp (xc_ne (xe_var C.toCxt 0 rfl) (xe_var C.toCxt 1 rfl) rfl)) ?_)
    rw [inV_nm ok.nn hi fun k hk => List.mem_range.mp hk, inV_nm ok.nn hj fun k hk => List.mem_range.mp hk, nm_eq ok.nn hi hj, decide_eq_true (List.mem_range.mpr hi), decide_eq_true (List.mem_range.mpr hj), decide_eq_false hij]
    rfl
def dLd (b : Bd) (q : Str × Nat × Nat) : D := .tup [dS q.1, dS (b.nm q.2.1), dS (b.nm q.2.2)]
def preLoads (ds : List D) (d : D) : Prop := ∃ (b : Bd) (l : List (Str × Nat × Nat)), b.Ok ∧ (∀ q ∈ l, q.2.1 < b.nod.length ∧ q.2.2 < b.nod.length ∧ q.2.1 ≠ q.2.2) ∧ ds = [.lst (l.map (dLd b)), .lst (dNs b (List.range b.nod.length))] ∧ d = dB true
theorem ok_loads (FB : Kn P w K mg base "is_between" 1 preBtw) (F : FunD K "are_loads" "are_loads" (defArgs (top 41)) (defBody (top 41)) (defScope (top 41)) [] [] f fd) : FnOk P w K mg base CX0 2 f fd ["loads", "nodes"] (spD K preLoads) :=
  fn_d F sc41 (fun ds d ⟨b, l, _, _, e, _⟩ => by rw [e]; rfl) fun X C ds d ⟨b, l, ok, hl, e1, e2⟩ => by
    subst e1 e2
    refine xss_cons (xs_for C (xi_list (xe_var C.toCxt 0 rfl)) (fun j G1 => G1 = [.im (.lst (l.map (dLd b))), .im (.lst (dNs b (List.range b.nod.length))), .un, .un, .un]) rfl ?_ ?_)
    · rintro j d G1 hd rfl
      rw [List.getElem?_map] at hd
      cases hq : l[j]? with
      | none => rw [hq] at hd; cases hd
      | some q =>
        rw [hq] at hd
        cases hd
        obtain ⟨h1, h2, h3⟩ := hl q (List.mem_of_getElem? hq)
        exact ⟨_, _, xtg_tup C.toCxt (xts_cons (xtg_name C.toCxt 2) (xts_cons (xtg_name C.toCxt 3) (xts_cons (xtg_name C.toCxt 4) xts_nil))) rfl, xss_one (xs_if (bb := false) (xt_not (c := true) (xt_val (xe_call C.toCxt FB (xa_cons (xe_var C.toCxt 3 rfl) (xa_cons (xe_var C.toCxt 4 rfl) (xa_cons (xe_var C.toCxt 1 rfl) xa_nil))) ⟨b, _, _, ok, h1, h2, h3, rfl, rfl⟩))) (fun q => nomatch q) fun _ => xss_nil ⟨_, .keep (.keep (.drop (.drop (.drop .nil)))), rfl⟩)⟩
    · rintro G1 rfl
      exact xss_one (xs_ret xe_bl rfl)
def preCt (ds : List D) (d : D) : Prop := ∃ (b : Bd) (c : Cn), b.Ok ∧ c ∈ b.con ∧ ds = [dCon b c, .lst (dNs b (List.range b.nod.length)), .lst (dMs b (List.range b.mvs.length))] ∧ d = dB true
theorem whens_in (k : Bool) : inV (V.str (whenS k)) [V.str "make", V.str "break"] = true := by cases k <;> decide
theorem ways_in (k : Bool) : inV (V.str (wayS k)) [V.str "both", V.str "forward"] = true := by cases k <;> decide
theorem ok_ct (FB : Kn P w K mg base "is_between" 1 preBtw) (T1 : KnT K mg "WHENS" [V.str "make", V.str "break"]) (T2 : KnT K mg "WAYS" [V.str "both", V.str "forward"]) (F : FunD K "is_contact" "is_contact" (defArgs (top 42)) (defBody (top 42)) (defScope (top 42)) [] [] f fd) :
    FnOk P w K mg base CX0 2 f fd ["contact", "nodes", "movers"] (spD K preCt) :=
  fn_d F sc42 (fun ds d ⟨b, c, _, _, e, _⟩ => by rw [e]; rfl) fun X C ds d ⟨b, c, ok, hc, e1, e2⟩ => by
    subst e1 e2
    obtain ⟨q1, t1, t1'⟩ := T1
    obtain ⟨q2, t2, t2'⟩ := T2
    obtain ⟨h1, h2, h3, h4, h5⟩ := ok.ce c hc
    refine xss_cons (xs_asgG (xe_var C.toCxt 0 rfl) (xtg_tup C.toCxt (xts_cons (xtg_name C.toCxt 3) (xts_cons (xtg_name C.toCxt 4) (xts_cons (xtg_name C.toCxt 5) (xts_cons (xtg_name C.toCxt 6) (xts_cons (xtg_name C.toCxt 7) xts_nil))))) rfl) ?_)
    refine xss_cons (xs_if (bb := false) (xt_or3 (c := false) (d := false) (f := false) (xt_not (c := true) (xt_val (xe_call C.toCxt FB (xa_cons (xe_var C.toCxt 3 rfl) (xa_cons (xe_var C.toCxt 4 rfl) (xa_cons (xe_var C.toCxt 1 rfl) xa_nil))) ⟨b, _, _, ok, h1, h2, h3, rfl, rfl⟩)))
      (fun _ => (xt_cmp (xc_niG (xe_var C.toCxt 6 rfl) (xe_globT C.toCxt t1 t1') rfl rfl)).is (by rw [whens_in]; rfl)) fun _ _ => (xt_cmp (xc_niG (xe_var C.toCxt 7 rfl) (xe_globT C.toCxt t2 t2') rfl rfl)).is (by rw [ways_in]; rfl)) (fun q => nomatch q) fun _ => xss_nil ?_)
    by_cases hm : c.mv < b.mvs.length
    · refine xss_cons (xs_if (xt_cmp (xc_isN ((xe_var C.toCxt 5 rfl).is (dMv_some hm)) xe_non (fun z => nomatch z) fun z => nomatch z)) (fun q => nomatch q) fun _ => xss_nil ?_)
      refine xss_one (xs_ret (xe_cmp (xc_inL (vs := (List.range b.mvs.length).map fun i => V.str (b.mn i)) ((xe_var C.toCxt 5 rfl).is (dMv_some hm)) (XE.r (xe_var C.toCxt 2 rfl)) rfl (flat_s b.mn _))) ?_)
      rw [inV_mn ok.mm hm fun k hk => List.mem_range.mp hk, decide_eq_true (List.mem_range.mpr hm)]
    · refine xss_cons (xs_if (xt_cmp (xc_isN' ((xe_var C.toCxt 5 rfl).is (dMv_none hm)) xe_non)) (fun _ => xss_one (xs_ret (xe_cmp (xc_eq (xe_var C.toCxt 6 rfl) xe_str rfl)) ?_)) fun q => nomatch q)
      rw [when_eq, h5 (by omega)]

theorem putD_len (f : Str) (d : D) : ∀ fs : List (Str × D), (putD f d fs).length ≤ fs.length + 1
  | [] => Nat.le_refl _
  | (g, e) :: r => by
    show (if g = f then (g, d) :: r else (g, e) :: putD f d r).length ≤ _
    have := putD_len f d r
    split
    · rw [List.length_cons, List.length_cons]; omega
    · rw [List.length_cons, List.length_cons]; omega
def preBoard (ds : List D) (fs : List (Str × D)) : Prop := ∃ b : Bd, b.Ok ∧ ds = [.lst (b.nod.map dS), .lst b.lams, .lst ((b.mvs.take b.nsw).map dS), .lst b.rels, .lst (b.con.map (dCon b))] ∧ fs = b.fs
theorem putD_lt {f : Str} {d : D} {fs : List (Str × D)} {n : Nat} (h : fs.length < n) : (putD f d fs).length < n + 1 := by
  have := putD_len f d fs
  omega
theorem rels_ld (b : Bd) : b.rels = ((List.range b.rel.length).map fun k => (b.mn (b.nsw + k), b.rel.getD k (0, 0))).map (dLd b) := by unfold Bd.rels; rw [List.map_map]; rfl
theorem lams_ld (b : Bd) : b.lams = ((List.range b.lam.length).map fun k => (b.lmn.getD k ⟨#[]⟩, b.lam.getD k (0, 0))).map (dLd b) := by unfold Bd.lams; rw [List.map_map]; rfl
theorem ok_board {dvs : List V} {kws : List (Str × V)} (B : BdC K Cb) (FN : Kn P w K mg base "are_names" 2 preNames) (FL : Kn P w K mg base "are_loads" 2 preLoads) (FC : Kn P w K mg base "is_contact" 2 preCt) (ml : mg "len" = none) (mt : mg "tuple" = none) (mi : mg "list" = none)
    (M1 : KnC K mg "Board" "MOST_NODES" (.int 16)) (M2 : KnC K mg "Board" "MOST_SWITCHES" (.int 6)) (M3 : KnC K mg "Board" "MOST_RELAYS" (.int 8)) (M4 : KnC K mg "Board" "MOST_LAMPS" (.int 8)) (M5 : KnC K mg "Board" "MOST_CONTACTS" (.int 40))
    (F : FunD K "__init__" "Board.__init__" (defArgs (inClass (top 43) 5)) (defBody (inClass (top 43) 5)) (defScope (inClass (top 43) 5)) dvs kws f fd) : FnOk P w K mg base CX0 3 f fd ["self", "nodes", "lamps", "switches", "relays", "contacts"] (spI K Cb preBoard) :=
  fn_i F sc43_5 (fun ds fs ⟨b, _, e, _⟩ => by rw [e]; rfl) fun X C ds fs y dx ⟨b, ok, e1, e2⟩ => by
    subst e1 e2
    obtain rfl : X.K = K := C.eK
    have n2 := ok.n2
    have n6 := ok.n6
    have s2 := ok.s2
    have r3 := ok.r3
    have sw := ok.sw
    have la1 := ok.l1
    have la2 := ok.l2
    have ll := ok.ll
    have c8 := ok.c8
    refine xss_cons (xs_if (bb := false) ((xt_or2 (c := false) (xt_not (c := true) (xt_val (xe_call C.toCxt FN (xa_cons (xe_var C.toCxt 1 rfl) (xa_cons xe_int (xa_cons (xe_cval C.toCxt M1) xa_nil))) ⟨b.nod, 2, 16, ok.nn, ok.nv, by omega, by omega, by omega, rfl, rfl⟩)))
      fun _ => (xt_cmp (xc_gt (xe_lenL C.toCxt ml (XE.r (xe_var C.toCxt 3 rfl))) (xe_cval C.toCxt M2))).is (d' := false) ?_)) (fun q => nomatch q) fun _ => xss_nil ?_)
    · rw [List.length_map, List.length_take]; exact decide_eq_false (by omega)
    refine xss_cons (xs_asg C 6 (d := .lst (b.mvs.map dS)) ((XN.toE (xn_cat (XN.r (xn_listL C.toCxt mi (XE.r (xe_var C.toCxt 3 rfl)))) (XN.r (xn_lc (own := [("relay", 8)]) (ds := (List.range b.rel.length).map fun k => dS (b.mn (b.nsw + k))) C.toCxt ⟨by decide +kernel, Nat, List.range b.rel.length, dRel b,
      fun k => [.mu (mObj X.K y Cb dx []), .im (.lst (b.nod.map dS)), .im (.lst b.lams), .im (.lst ((b.mvs.take b.nsw).map dS)), .im (.lst b.rels), .im (.lst (b.con.map (dCon b))), .un, .un, .im (dRel b k), .un], fun _ => true, fun k => dS (b.mn (b.nsw + k)), ?_, ?_, ?_, fun X' C' k hk => ⟨⟨[8], fun i hi => hi, xtg_name C' 8⟩, xf_nil, fun _ => xe_ixT (xe_var C' 8 rfl) xe_int (show atI _ _ = some (dS (b.mn (b.nsw + k))) from rfl)⟩⟩)) ?_)).is ?_) ?_)
    · rw [List.filter_eq_self.mpr fun _ _ => rfl]
    · exact xi_list (xe_var C.toCxt 4 rfl)
    · rw [List.length_range]; omega
    · rw [List.length_map, List.length_map, List.length_take, List.length_range]; omega
    · rw [mvs_split ok]
    refine xss_cons (xs_if (bb := false) ((xt_or2 (c := false) (xt_not (c := true) (xt_val (xe_call C.toCxt FN (xa_cons (xe_var C.toCxt 6 rfl) (xa_cons xe_int (xa_cons (xe_add (xe_cval C.toCxt M2) (xe_cval C.toCxt M3)) xa_nil))) ⟨b.mvs, 0, 6 + 8, ok.mm, ok.mv, by omega, by omega, by omega, rfl, rfl⟩)))
      fun _ => (xt_cmp (xc_gt (xe_lenL C.toCxt ml (XE.r (xe_var C.toCxt 4 rfl))) (xe_cval C.toCxt M3))).is (d' := false) ?_)) (fun q => nomatch q) fun _ => xss_nil ?_)
    · unfold Bd.rels; rw [List.length_map, List.length_range]; exact decide_eq_false (by omega)
    refine xss_cons (xs_if (bb := false) (xt_not (c := true) (xt_val (xe_call C.toCxt FN (xa_cons (XN.toE (xn_lc (own := [("lamp", 9)]) (ds := b.lmn.map dS) C.toCxt ⟨by decide +kernel, Nat, List.range b.lam.length, dLam b,
      fun k => [.mu (mObj X.K y Cb dx []), .im (.lst (b.nod.map dS)), .im (.lst b.lams), .im (.lst ((b.mvs.take b.nsw).map dS)), .im (.lst b.rels), .im (.lst (b.con.map (dCon b))), .im (.lst (b.mvs.map dS)), .un, .un, .im (dLam b k)], fun _ => true, fun k => dS (b.lmn.getD k ⟨#[]⟩), ?_, ?_, ?_, fun X' C' k hk => ⟨⟨[9], fun i hi => hi, xtg_name C' 9⟩, xf_nil, fun _ => xe_ixT (xe_var C' 9 rfl) xe_int (show atI _ _ = some (dS (b.lmn.getD k ⟨#[]⟩)) from rfl)⟩⟩)) (xa_cons xe_int (xa_cons (xe_cval C.toCxt M4) xa_nil))) ⟨b.lmn, 1, 8, ok.ln, ok.lv, by omega, by omega, by omega, rfl, rfl⟩))) (fun q => nomatch q) fun _ => xss_nil ?_)
    · rw [List.filter_eq_self.mpr fun _ _ => rfl, ← ll]
      conv => lhs; rw [← range_getD b.lmn ⟨#[]⟩]
      rw [List.map_map]
      rfl
    · exact xi_list (xe_var C.toCxt 2 rfl)
    · rw [List.length_range]; omega
    refine xss_cons (xs_if (bb := false) (xt_or2 (c := false) (d := false) (xt_not (c := true) (xt_val (xe_call C.toCxt FL (xa_cons (xe_var C.toCxt 4 rfl) (xa_cons (xe_var C.toCxt 1 rfl) xa_nil)) ⟨b, _, ok, ?_, by rw [rels_ld, nod_dNs], rfl⟩)))
      fun _ => xt_not (c := true) (xt_val (xe_call C.toCxt FL (xa_cons (xe_var C.toCxt 2 rfl) (xa_cons (xe_var C.toCxt 1 rfl) xa_nil)) ⟨b, _, ok, ?_, by rw [lams_ld, nod_dNs], rfl⟩))) (fun q => nomatch q) fun _ => xss_nil ?_)
    · intro q hq
      obtain ⟨k, hk, rfl⟩ := List.mem_map.mp hq
      have hk := List.mem_range.mp hk
      show (b.rel.getD k (0, 0)).1 < _ ∧ (b.rel.getD k (0, 0)).2 < _ ∧ _
      rw [getD_el _ hk]
      exact ok.re _ (List.getElem_mem hk)
    · intro q hq
      obtain ⟨k, hk, rfl⟩ := List.mem_map.mp hq
      have hk := List.mem_range.mp hk
      show (b.lam.getD k (0, 0)).1 < _ ∧ (b.lam.getD k (0, 0)).2 < _ ∧ _
      rw [getD_el _ hk]
      exact ok.le _ (List.getElem_mem hk)
    refine xss_cons (xs_if (bb := false) ((xt_cmp (xc_gt (xe_lenL C.toCxt ml (XE.r (xe_var C.toCxt 5 rfl))) (xe_cval C.toCxt M5))).is ?_) (fun q => nomatch q) fun _ => xss_nil ?_)
    · rw [List.length_map]; exact decide_eq_false (by omega)
    refine xss_cons (xs_for C (xi_list (xe_var C.toCxt 5 rfl)) (fun j G1 => G1 = [.mu (mObj X.K y Cb dx []), .im (.lst (b.nod.map dS)), .im (.lst b.lams), .im (.lst ((b.mvs.take b.nsw).map dS)), .im (.lst b.rels), .im (.lst (b.con.map (dCon b))), .im (.lst (b.mvs.map dS)), .un, .un, .un]) rfl ?_ ?_)
    · rintro j d G1 hd rfl
      rw [List.getElem?_map] at hd
      cases hq : b.con[j]? with
      | none => rw [hq] at hd; cases hd
      | some c =>
        rw [hq] at hd
        cases hd
        exact ⟨_, _, xtg_name C.toCxt 7, xss_one (xs_if (bb := false) (xt_not (c := true) (xt_val (xe_call C.toCxt FC (xa_cons (xe_var C.toCxt 7 rfl) (xa_cons (xe_var C.toCxt 1 rfl) (xa_cons (xe_var C.toCxt 6 rfl) xa_nil))) ⟨b, c, ok, List.mem_of_getElem? hq, by rw [nod_dNs, mvs_dMs], rfl⟩))) (fun q => nomatch q) fun _ => xss_nil ⟨_, .keep (.keep (.keep (.keep (.keep (.keep (.keep (.drop (.keep (.keep .nil))))))))), rfl⟩)⟩
    rintro G1 rfl
    refine xss_cons (xs_fldO C 0 rfl (xe_tupL C.toCxt mt (XE.r (xe_var C.toCxt 1 rfl))) B.c B.n1 (by decide) ?_)
    refine xss_cons (xs_fldO C 0 rfl (xe_tupL C.toCxt mt (XE.r (xe_var C.toCxt 3 rfl))) B.c B.n2 (by have a1 := putD_len "nodes" (D.tup (b.nod.map dS)) []; simp only [List.length_nil] at a1; omega) ?_)
    refine xss_cons (xs_fldO C 0 rfl (xe_tupL C.toCxt mt (XN.r (xn_lc (own := [("relay", 8)]) (ds := b.rels) C.toCxt ⟨by decide +kernel, Nat, List.range b.rel.length, dRel b, _, fun _ => true, dRel b, ?_, ?_, ?_, fun X' C' k hk => ⟨⟨[8], fun i hi => hi, xtg_name C' 8⟩, xf_nil, fun _ => xe_tupT C' mt (xe_var C' 8 rfl)⟩⟩))) B.c B.n3 (putD_lt (n := 999) (putD_lt (n := 998) (by decide))) ?_)
    · rw [List.filter_eq_self.mpr fun _ _ => rfl]; rfl
    · exact xi_list (xe_var C.toCxt 4 rfl)
    · rw [List.length_range]; omega
    refine xss_cons (xs_fldO C 0 rfl (xe_tupL C.toCxt mt (XN.r (xn_lc (own := [("lamp", 9)]) (ds := b.lams) C.toCxt ⟨by decide +kernel, Nat, List.range b.lam.length, dLam b, _, fun _ => true, dLam b, ?_, ?_, ?_, fun X' C' k hk => ⟨⟨[9], fun i hi => hi, xtg_name C' 9⟩, xf_nil, fun _ => xe_tupT C' mt (xe_var C' 9 rfl)⟩⟩))) B.c B.n4 (putD_lt (n := 999) (putD_lt (n := 998) (putD_lt (n := 997) (by decide)))) ?_)
    · rw [List.filter_eq_self.mpr fun _ _ => rfl]; rfl
    · exact xi_list (xe_var C.toCxt 2 rfl)
    · rw [List.length_range]; omega
    refine xss_one (xs_fldO C 0 rfl (xe_tupL C.toCxt mt (XN.r (xn_lc (own := [("contact", 7)]) (ds := b.con.map (dCon b)) C.toCxt ⟨by decide +kernel, Cn, b.con, dCon b, _, fun _ => true, dCon b, ?_, ?_, ?_, fun X' C' k hk => ⟨⟨[7], fun i hi => hi, xtg_name C' 7⟩, xf_nil, fun _ => xe_tupT C' mt (xe_var C' 7 rfl)⟩⟩))) B.c B.n5 (putD_lt (n := 999) (putD_lt (n := 998) (putD_lt (n := 997) (putD_lt (n := 996) (by decide))))) ?_)
    · rw [List.filter_eq_self.mpr fun _ _ => rfl]
    · exact xi_list (xe_var C.toCxt 5 rfl)
    · omega
    · rfl
end
end DL

namespace DL

inductive Rch (ps : List (Nat × Nat)) (st : Nat) : Nat → Prop
  | refl : Rch ps st st
  | step {x y : Nat} : Rch ps st x → (x, y) ∈ ps → Rch ps st y
theorem Rch.closed {ps : List (Nat × Nat)} {st : Nat} {f : Nat → Prop} (h0 : f st) (hc : ∀ x y, f x → (x, y) ∈ ps → f y) {i : Nat} (h : Rch ps st i) : f i := by
  induction h with
  | refl => exact h0
  | step _ hp ih => exact hc _ _ ih hp

theorem grow_mem {x : Nat} {f : List Nat} {p : Nat × Nat} {i : Nat} : i ∈ grow1 x f p ↔ i ∈ f ∨ (p.1 = x ∧ i = p.2) := by
  unfold grow1
  split
  · rename_i e
    simp only [Bool.and_eq_true, decide_eq_true_eq, Bool.not_eq_true', decide_eq_false_iff_not] at e
    rw [List.mem_append, List.mem_singleton]
    exact ⟨fun h => h.imp id fun z => ⟨e.1, z⟩, fun h => h.imp id fun z => z.2⟩
  · rename_i e
    simp only [Bool.and_eq_true, decide_eq_true_eq, Bool.not_eq_true', decide_eq_false_iff_not, not_and, Classical.not_not] at e
    exact ⟨.inl, fun h => h.elim id fun z => by rw [z.2]; exact e z.1⟩
theorem fold_mem {x : Nat} {i : Nat} : ∀ {ps : List (Nat × Nat)} {f : List Nat}, i ∈ ps.foldl (grow1 x) f ↔ i ∈ f ∨ (x, i) ∈ ps
  | [], f => by simp
  | p :: ps, f => by
    rw [List.foldl_cons, fold_mem, grow_mem, List.mem_cons]
    constructor
    · rintro ((h | ⟨h1, h2⟩) | h)
      · exact .inl h
      · exact .inr (.inl (by rw [← h1, h2]))
      · exact .inr (.inr h)
    · rintro (h | h | h)
      · exact .inl (.inl h)
      · exact .inl (.inr ⟨by rw [← h], by rw [← h]⟩)
      · exact .inr h
theorem reachF_mem {n : Nat} {ps : List (Nat × Nat)} {st : Nat} (hp : PrOk n ps) : ∀ (m : Nat) (f : List Nat) (p : Nat), n ≤ m + p → NdL n f → st ∈ f → (∀ i ∈ f, Rch ps st i) → (∀ x ∈ f.take p, ∀ y, (x, y) ∈ ps → y ∈ f) →
    ∀ i, i ∈ reachF ps m f p ↔ Rch ps st i := by
  have fin : ∀ (f : List Nat) (p : Nat), f.length ≤ p → st ∈ f → (∀ i ∈ f, Rch ps st i) → (∀ x ∈ f.take p, ∀ y, (x, y) ∈ ps → y ∈ f) → ∀ i, i ∈ f ↔ Rch ps st i := fun f p hl h0 hr hc i => by
    rw [List.take_of_length_le hl] at hc
    exact ⟨hr i, fun h => h.closed (f := (· ∈ f)) h0 fun x y hx hp => hc x hx y hp⟩
  intro m
  induction m with
  | zero =>
    intro f p hm hf h0 hr hc i
    have := hf.len
    exact fin f p (by omega) h0 hr hc i
  | succ m ih =>
    intro f p hm hf h0 hr hc i
    unfold reachF
    cases q : f[p]? with
    | none => exact fin f p (List.getElem?_eq_none_iff.mp q) h0 hr hc i
    | some x =>
      have hx := List.mem_of_getElem? q
      have hl := (List.getElem?_eq_some_iff.mp q).1
      obtain ⟨r, er⟩ := fold_pre x ps f
      refine ih _ (p + 1) (by omega) (hf.fold hp) (fold_mem.mpr (.inl h0)) (fun i hi => ?_) (fun z hz y hy => ?_) i
      · rcases fold_mem.mp hi with h | h
        · exact hr i h
        · exact (hr x hx).step h
      · rw [er, List.take_append_of_le_length (by omega), take_snoc q] at hz
        rcases List.mem_append.mp hz with h | h
        · exact fold_mem.mpr (.inl (hc z h y hy))
        · rw [List.mem_singleton.mp h] at hy
          exact fold_mem.mpr (.inr hy)
theorem reachN_mem {n : Nat} {ps : List (Nat × Nat)} {st : Nat} (hp : PrOk n ps) (hs : st < n) (i : Nat) : i ∈ reachN n ps st ↔ Rch ps st i :=
  reachF_mem hp n [st] 0 (by omega) ⟨by simp, fun i hi => by rw [List.mem_singleton.mp hi]; exact hs⟩ (by simp) (fun i hi => by rw [List.mem_singleton.mp hi]; exact .refl) (fun x hx => by cases hx) i

def g1 (r : List Bool) (x : Nat) : Bool := r.getD x false
/-- both ends of a contact, seen ahead or back -/
def e1 (ah : Bool) (c : Cn) : Nat := if ah then c.a else c.b
def e2 (ah : Bool) (c : Cn) : Nat := if ah then c.b else c.a
def lA (ah : Bool) (q : List Bool × Bool) (c : Cn) : List Bool × Bool := if (g1 q.1 (e1 ah c) && !g1 q.1 (e2 ah c)) = true then (q.1.set (e2 ah c) true, true) else q
def lB (ah : Bool) (q : List Bool × Bool) (c : Cn) : List Bool × Bool := if (c.both && (g1 q.1 (e2 ah c) && !g1 q.1 (e1 ah c))) = true then (q.1.set (e1 ah c) true, true) else q
def lAB (ah : Bool) (q : List Bool × Bool) (c : Cn) : List Bool × Bool := lB ah (lA ah q c) c
def lRound (cs : List Cn) (ah : Bool) (r : List Bool) : List Bool × Bool := cs.foldl (lAB ah) (r, false)
def lawF (cs : List Cn) (ah : Bool) : Nat → List Bool → List Bool
  | 0, r => r
  | n + 1, r => if (lRound cs ah r).2 = true then lawF cs ah n (lRound cs ah r).1 else (lRound cs ah r).1
def lawR (n : Nat) (cs : List Cn) (st : Nat) (ah : Bool) : List Bool := lawF cs ah n ((List.replicate n false).set st true)
def cnt (r : List Bool) : Nat := (r.filter id).length
theorem g1_set {r : List Bool} {x y : Nat} (h : x < r.length) : g1 (r.set x true) y = (decide (y = x) || g1 r y) := by
  unfold g1
  rw [List.getD_eq_getElem?_getD, List.getElem?_set]
  by_cases e : x = y
  · subst e
    rw [if_pos rfl, if_pos h]
    simp
  · rw [if_neg e, ← List.getD_eq_getElem?_getD, decide_eq_false (fun z => e z.symm)]
    simp
theorem cnt_set : ∀ {r : List Bool} {x : Nat}, x < r.length → g1 r x = false → cnt (r.set x true) = cnt r + 1
  | [], _, h, _ => by simp at h
  | c :: r, 0, _, h => by
    have h : c = false := h
    subst h
    rfl
  | c :: r, x + 1, hl, h => by
    have ih := cnt_set (r := r) (x := x) (by simpa using hl) h
    unfold cnt at ih ⊢
    rw [List.set_cons_succ, List.filter_cons, List.filter_cons]
    split
    · rw [List.length_cons, List.length_cons, ih]
    · exact ih
theorem cnt_le (r : List Bool) : cnt r ≤ r.length := List.length_filter_le _ _
/-- what a turn keeps -/
structure LI (n : Nat) (r0 : List Bool) (q : List Bool × Bool) : Prop where
  len : q.1.length = n
  up : ∀ x, g1 r0 x = true → g1 q.1 x = true
  same : q.2 = false → q.1 = r0
  more : q.2 = true → cnt r0 + 1 ≤ cnt q.1
  le : cnt r0 ≤ cnt q.1
theorem LI.set {n : Nat} {r0 : List Bool} {q : List Bool × Bool} (h : LI n r0 q) {x : Nat} (hx : x < n) (hf : g1 q.1 x = false) : LI n r0 (q.1.set x true, true) := by
  have hl : x < q.1.length := by rw [h.len]; exact hx
  refine ⟨by rw [List.length_set]; exact h.len, fun y hy => ?_, (fun z => by cases z), fun _ => ?_, ?_⟩
  · show g1 (q.1.set x true) y = true
    rw [g1_set hl, h.up y hy, Bool.or_true]
  · show _ ≤ cnt (q.1.set x true)
    rw [cnt_set hl hf]
    have := h.le
    omega
  · show _ ≤ cnt (q.1.set x true)
    rw [cnt_set hl hf]
    have := h.le
    omega
def CnOk (n : Nat) (cs : List Cn) : Prop := ∀ c ∈ cs, c.a < n ∧ c.b < n
theorem ends_ok {n : Nat} {c : Cn} (h : c.a < n ∧ c.b < n) (ah : Bool) : e1 ah c < n ∧ e2 ah c < n := by
  unfold e1 e2
  cases ah
  · exact ⟨h.2, h.1⟩
  · exact h
theorem LI.lA {n : Nat} {r0 : List Bool} {q : List Bool × Bool} (h : LI n r0 q) {c : Cn} (hc : c.a < n ∧ c.b < n) (ah : Bool) : LI n r0 (lA ah q c) := by
  unfold DL.lA
  split
  · rename_i e
    simp only [Bool.and_eq_true, Bool.not_eq_true'] at e
    exact h.set (ends_ok hc ah).2 e.2
  · exact h
theorem LI.lB {n : Nat} {r0 : List Bool} {q : List Bool × Bool} (h : LI n r0 q) {c : Cn} (hc : c.a < n ∧ c.b < n) (ah : Bool) : LI n r0 (lB ah q c) := by
  unfold DL.lB
  split
  · rename_i e
    simp only [Bool.and_eq_true, Bool.not_eq_true'] at e
    exact h.set (ends_ok hc ah).1 e.2.2
  · exact h
theorem LI.fold {n : Nat} {r0 : List Bool} {ah : Bool} : ∀ {cs : List Cn} {q : List Bool × Bool}, LI n r0 q → CnOk n cs → LI n r0 (cs.foldl (lAB ah) q)
  | [], q, h, _ => h
  | c :: cs, q, h, hc => by
    have hc1 := hc c List.mem_cons_self
    rw [List.foldl_cons]
    exact LI.fold ((h.lA hc1 ah).lB hc1 ah) fun d hd => hc d (List.mem_cons_of_mem _ hd)
theorem LI.refl {n : Nat} {r : List Bool} (h : r.length = n) : LI n r (r, false) := ⟨h, fun _ z => z, fun _ => rfl, (fun z => by cases z), Nat.le_refl _⟩
/-- the pairs of a contact -/
def prs (ah : Bool) (c : Cn) : List (Nat × Nat) := if c.both then [(e1 ah c, e2 ah c), (e2 ah c, e1 ah c)] else [(e1 ah c, e2 ah c)]
theorem prs_a {ah : Bool} {c : Cn} : (e1 ah c, e2 ah c) ∈ prs ah c := by unfold prs; split <;> simp
theorem prs_b {ah : Bool} {c : Cn} (h : c.both = true) : (e2 ah c, e1 ah c) ∈ prs ah c := by unfold prs; rw [if_pos h]; simp
/-- all that is true is reached -/
theorem sound_AB {n : Nat} {ps : List (Nat × Nat)} {st : Nat} {ah : Bool} {c : Cn} (hc : c.a < n ∧ c.b < n) (hp : ∀ p ∈ prs ah c, p ∈ ps) {q : List Bool × Bool} (hl : q.1.length = n) (hs : ∀ x, g1 q.1 x = true → Rch ps st x) :
    (lAB ah q c).1.length = n ∧ ∀ x, g1 (lAB ah q c).1 x = true → Rch ps st x := by
  obtain ⟨h1, h2⟩ := ends_ok hc ah
  have a : (lA ah q c).1.length = n ∧ ∀ x, g1 (lA ah q c).1 x = true → Rch ps st x := by
    unfold lA
    split
    · rename_i e
      simp only [Bool.and_eq_true, Bool.not_eq_true'] at e
      refine ⟨by rw [List.length_set]; exact hl, fun x hx => ?_⟩
      have hx : g1 (q.1.set (e2 ah c) true) x = true := hx
      rw [g1_set (by rw [hl]; exact h2)] at hx
      rcases Bool.or_eq_true_iff.mp hx with z | z
      · rw [of_decide_eq_true z]
        exact (hs _ e.1).step (hp _ prs_a)
      · exact hs x z
    · exact ⟨hl, hs⟩
  unfold lAB lB
  split
  · rename_i e
    simp only [Bool.and_eq_true, Bool.not_eq_true'] at e
    refine ⟨by rw [List.length_set]; exact a.1, fun x hx => ?_⟩
    have hx : g1 ((lA ah q c).1.set (e1 ah c) true) x = true := hx
    rw [g1_set (by rw [a.1]; exact h1)] at hx
    rcases Bool.or_eq_true_iff.mp hx with z | z
    · rw [of_decide_eq_true z]
      exact (a.2 _ e.2.1).step (hp _ (prs_b e.1))
    · exact a.2 x z
  · exact a
theorem sound_fold {n : Nat} {ps : List (Nat × Nat)} {st : Nat} {ah : Bool} : ∀ {cs : List Cn} {q : List Bool × Bool}, CnOk n cs → (∀ c ∈ cs, ∀ p ∈ prs ah c, p ∈ ps) → q.1.length = n → (∀ x, g1 q.1 x = true → Rch ps st x) →
    (cs.foldl (lAB ah) q).1.length = n ∧ ∀ x, g1 (cs.foldl (lAB ah) q).1 x = true → Rch ps st x
  | [], q, _, _, hl, hs => ⟨hl, hs⟩
  | c :: cs, q, hc, hp, hl, hs => by
    obtain ⟨h1, h2⟩ := sound_AB (hc c List.mem_cons_self) (hp c List.mem_cons_self) hl hs
    rw [List.foldl_cons]
    exact sound_fold (fun d hd => hc d (List.mem_cons_of_mem _ hd)) (fun d hd => hp d (List.mem_cons_of_mem _ hd)) h1 h2
/-- a turn without growth: all is closed -/
theorem still_AB {ah : Bool} {q : List Bool × Bool} {c : Cn} (h : (lAB ah q c).2 = false) : lAB ah q c = q ∧ q.2 = false ∧ (g1 q.1 (e1 ah c) = true → g1 q.1 (e2 ah c) = true) ∧ (c.both = true → g1 q.1 (e2 ah c) = true → g1 q.1 (e1 ah c) = true) := by
  unfold lAB at h ⊢
  by_cases z : (c.both && (g1 (lA ah q c).1 (e2 ah c) && !g1 (lA ah q c).1 (e1 ah c))) = true
  · unfold lB at h
    rw [if_pos z] at h
    cases h
  · have eB : lB ah (lA ah q c) c = lA ah q c := if_neg z
    rw [eB] at h ⊢
    by_cases y : (g1 q.1 (e1 ah c) && !g1 q.1 (e2 ah c)) = true
    · unfold lA at h
      rw [if_pos y] at h
      cases h
    · have eA : lA ah q c = q := if_neg y
      rw [eA] at h z ⊢
      refine ⟨rfl, h, fun h1 => ?_, fun hb h2 => ?_⟩
      · cases w : g1 q.1 (e2 ah c) with
        | true => rfl
        | false => rw [h1, w] at y; exact absurd rfl y
      · cases w : g1 q.1 (e1 ah c) with
        | true => rfl
        | false => rw [hb, h2, w] at z; exact absurd rfl z
theorem still_fold {ah : Bool} : ∀ {cs : List Cn} {q : List Bool × Bool}, (cs.foldl (lAB ah) q).2 = false → cs.foldl (lAB ah) q = q ∧ ∀ c ∈ cs, (g1 q.1 (e1 ah c) = true → g1 q.1 (e2 ah c) = true) ∧ (c.both = true → g1 q.1 (e2 ah c) = true → g1 q.1 (e1 ah c) = true)
  | [], q, h => ⟨rfl, fun c hc => (by cases hc)⟩
  | c :: cs, q, h => by
    rw [List.foldl_cons] at h ⊢
    obtain ⟨h1, h2⟩ := still_fold h
    rw [h1] at h
    obtain ⟨a1, a2, a3, a4⟩ := still_AB h
    rw [a1] at h1 h2
    rw [a1]
    exact ⟨h1, fun d hd => (List.mem_cons.mp hd).elim (fun z => by rw [z]; exact ⟨a3, a4⟩) (h2 d)⟩
theorem lawF_len {n : Nat} {cs : List Cn} {ah : Bool} (hc : CnOk n cs) : ∀ (m : Nat) (r : List Bool), r.length = n → (lawF cs ah m r).length = n
  | 0, r, h => h
  | m + 1, r, h => by
    have li := LI.fold (ah := ah) (LI.refl h) hc
    unfold lawF
    split
    · exact lawF_len hc m _ li.len
    · exact li.len
theorem lawF_ok {n : Nat} {cs : List Cn} {ps : List (Nat × Nat)} {st : Nat} {ah : Bool} (hc : CnOk n cs) (hp : ∀ c ∈ cs, ∀ p ∈ prs ah c, p ∈ ps) (hq : ∀ p ∈ ps, ∃ c ∈ cs, p ∈ prs ah c) : ∀ (m : Nat) (r : List Bool), r.length = n → g1 r st = true → (∀ x, g1 r x = true → Rch ps st x) → n + 1 ≤ m + cnt r →
    ∀ x, g1 (lawF cs ah m r) x = true ↔ Rch ps st x
  | 0, r, hl, h0, hs, hm => by
    have := cnt_le r
    omega
  | m + 1, r, hl, h0, hs, hm => by
    have li := LI.fold (ah := ah) (LI.refl hl) hc
    obtain ⟨s1, s2⟩ := sound_fold (q := (r, false)) hc hp hl hs
    unfold lawF
    by_cases e : (lRound cs ah r).2 = true
    · rw [if_pos e]
      have := li.more e
      exact lawF_ok hc hp hq m _ s1 (li.up _ h0) s2 (by unfold lRound; omega)
    · rw [if_neg e]
      have e' : (cs.foldl (lAB ah) (r, false)).2 = false := by simpa [lRound] using e
      obtain ⟨t1, t2⟩ := still_fold e'
      unfold lRound
      rw [t1]
      intro x
      refine ⟨hs x, fun h => h.closed (f := fun x => g1 r x = true) h0 fun u v hu hv => ?_⟩
      obtain ⟨c, hcm, hpc⟩ := hq _ hv
      obtain ⟨t3, t4⟩ := t2 c hcm
      unfold prs at hpc
      split at hpc
      · rename_i hb
        rcases (by simpa using hpc : (u = e1 ah c ∧ v = e2 ah c) ∨ (u = e2 ah c ∧ v = e1 ah c)) with ⟨z1, z2⟩ | ⟨z1, z2⟩
        · rw [z2]; exact t3 (by rw [← z1]; exact hu)
        · rw [z2]; exact t4 hb (by rw [← z1]; exact hu)
      · obtain ⟨z1, z2⟩ := (by simpa using hpc : u = e1 ah c ∧ v = e2 ah c)
        rw [z2]; exact t3 (by rw [← z1]; exact hu)
theorem g1_rep (n : Nat) (x : Nat) : g1 (List.replicate n false) x = false := by
  unfold g1
  rw [List.getD_eq_getElem?_getD, List.getElem?_replicate]
  split <;> rfl
theorem lawR_ok {n : Nat} {cs : List Cn} {ps : List (Nat × Nat)} {st : Nat} {ah : Bool} (hs : st < n) (hc : CnOk n cs) (hp : ∀ c ∈ cs, ∀ p ∈ prs ah c, p ∈ ps) (hq : ∀ p ∈ ps, ∃ c ∈ cs, p ∈ prs ah c) (x : Nat) : g1 (lawR n cs st ah) x = true ↔ Rch ps st x := by
  have hl : st < (List.replicate n false).length := by rw [List.length_replicate]; exact hs
  have g0 : ∀ y, g1 ((List.replicate n false).set st true) y = decide (y = st) := fun y => by rw [g1_set hl, g1_rep, Bool.or_false]
  refine lawF_ok hc hp hq n _ (by rw [List.length_set, List.length_replicate]) (by rw [g0]; exact decide_eq_true rfl) (fun y hy => ?_) ?_ x
  · rw [g0] at hy
    rw [of_decide_eq_true hy]
    exact .refl
  · rw [cnt_set hl (g1_rep n st)]
    omega
end DL

namespace DL
open PySem L2

theorem sc45 : FnScope ["_law_cell", "_law_many", "_law_row_here", "_law_rest", "_law_k", "_law_mixed"] ["_law_cell", "_law_many"] (defScope (top 45)) := ⟨rfl, rfl, rfl, by decide +kernel, rfl, by decide +kernel, by decide +kernel⟩
theorem sc46 : FnScope ["_law_script", "_law_many", "_law_cells", "_law_each", "_law_numbers_here", "_law_cell", "_law_number"] ["_law_script", "_law_many"] (defScope (top 46)) := ⟨rfl, rfl, rfl, by decide +kernel, rfl, by decide +kernel, by decide +kernel⟩
theorem sc47 : FnScope ["_law_numbers_here", "_law_at", "_law_count"] ["_law_numbers_here", "_law_at", "_law_count"] (defScope (top 47)) := ⟨rfl, rfl, rfl, by decide +kernel, rfl, by decide +kernel, by decide +kernel⟩
theorem sc48 : FnScope ["_law_seed", "_law_k", "_law_letters", "_law_size", "_law_word_here", "_law_cut", "_law_j"] ["_law_seed", "_law_k"] (defScope (top 48)) := ⟨rfl, rfl, rfl, by decide +kernel, rfl, by decide +kernel, by decide +kernel⟩
theorem sc49 : FnScope ["_law_seed", "_law_count", "_law_k"] ["_law_seed", "_law_count"] (defScope (top 49)) := ⟨rfl, rfl, rfl, by decide +kernel, rfl, by decide +kernel, by decide +kernel⟩
theorem sc50 : FnScope ["_law_numbers_here", "_law_at", "_law_count", "_law_one", "_law_other"] ["_law_numbers_here", "_law_at", "_law_count"] (defScope (top 50)) := ⟨rfl, rfl, rfl, by decide +kernel, rfl, by decide +kernel, by decide +kernel⟩

def dNat (l : List Nat) : List D := l.map fun (n : Nat) => dI (n : Int)
theorem dI_eq {i j : Int} (h : i = j) : dI i = dI j := by rw [h]
theorem dNat_at {l : List Nat} {i : Nat} (h : i < l.length) : atI (dNat l) (i : Int) = some (dI ((l.getD i 0 : Nat) : Int)) := atI_map (fun (n : Nat) => dI (n : Int)) 0 h
theorem dNat_snoc (l : List Nat) (n : Nat) : dNat (l ++ [n]) = dNat l ++ [dI (n : Int)] := by unfold dNat; rw [List.map_append]; rfl
theorem dNat_len (l : List Nat) : (dNat l).length = l.length := List.length_map _
theorem int_eq (a b : Nat) : decide (V.int (a : Int) = V.int (b : Int)) = decide (a = b) := decide_eq_decide.mpr ⟨fun e => Int.ofNat.inj (V.int.inj e), fun e => by rw [e]⟩
def absI (c : Int) : Int := if c < 0 then -c else c
theorem absI_nn (c : Int) : 0 ≤ absI c := by unfold absI; split <;> omega
def bigI (c : Int) : Bool := decide ((10 : Int) ^ (18 : Int).toNat ≤ absI c)
def restK (c : Int) : Nat → Int
  | 0 => absI c
  | k + 1 => if bigI c = true then restK c k / 1009 else restK c k
def mixA (c : Int) (k : Nat) : Int := ((restK c k * 48271 + ((k : Int) + 1) * 69621) % 2147483647 * 16807 + 271 * ((k : Int) + 3)) % 2147483629
def rowK (c : Int) (k : Nat) : Nat := if bigI c = true then (restK c k % 1009).toNat else (mixA c k % 1009).toNat
def rowN (c : Int) (m : Nat) : List Nat := (List.range m).map (rowK c)
theorem mod_nn (i : Int) : ((i % 1009).toNat : Int) = i % 1009 := Int.toNat_of_nonneg (Int.emod_nonneg _ (by decide))
def eachN (L : Nat) : Nat := 1 + 76 / (if 1 < L then L else 1)
theorem eachN_le (L : Nat) : eachN L ≤ 77 := by
  unfold eachN
  have := Nat.div_le_self 76 (if 1 < L then L else 1)
  omega
def flatN (ns : List Int) : List Nat := (ns.take 63).flatMap fun c => rowN c (eachN (ns.take 63).length)
def numL (ns : List Int) : List Nat := (flatN ns ++ List.replicate (76 - (flatN ns).length) 0).take 76
theorem numL_len (ns : List Int) : (numL ns).length = 76 := by
  unfold numL
  rw [List.length_take, List.length_append, List.length_replicate]
  omega
theorem flatN_len (ns : List Int) : (flatN ns).length ≤ 4851 := by
  have h1 := flatMap_len (f := fun c => rowN c (eachN (ns.take 63).length)) (n := 77) (fun c => by unfold rowN; rw [List.length_map, List.length_range]; exact eachN_le _) (ns.take 63)
  have h2 := List.length_take_le 63 ns
  unfold flatN
  omega
def pk (l : List Nat) (i c : Nat) : Nat := l.getD i 0 % c
theorem pk_lt {l : List Nat} {i c : Nat} (h : 0 < c) : pk l i c < c := Nat.mod_lt _ h
def lettersL : List Nat := (Str.ofString "abcdefghij").cps.toList
def tailL : List Nat := (Str.ofString "klmnopqrstuvwxyz0123456789").cps.toList
def wSize (s k : Nat) : Nat := (s * 7 + 5 * k + s / 11) % 12
def wChar (s k j : Nat) : Nat := lettersL.getD ((s + 3 * k + j * (1 + s % 7)) % 10) 0
def wBody (s k : Nat) : List Nat := (List.range (wSize s k)).map (wChar s k)
def wCut (s k : Nat) : Nat := (s + k) % (wSize s k + 1)
def wordN (s k : Nat) : Str := SX.S ((wBody s k).take (wCut s k) ++ [tailL.getD k 0] ++ (wBody s k).drop (wCut s k))
def namesN (s n : Nat) : List Str := (List.range n).map (wordN s)
theorem join_one : ∀ l : List Nat, TL.joinL [] (l.map fun c => [c]) = l
  | [] => rfl
  | [_] => rfl
  | x :: y :: r => by
    show [x] ++ ([] ++ TL.joinL [] ((y :: r).map fun c => [c])) = _
    rw [join_one (y :: r)]
    rfl
theorem cutS_lo (l : List Nat) (i : Nat) (h : i ≤ l.length) : cutS (SX.S l) none (some (i : Int)) = SX.S (l.take i) := by
  unfold cutS
  rw [SX.S_len, HT.sIx_none, HT.sIx_nat, Nat.min_eq_left h]
  simp [SX.S]
theorem cutS_hi (l : List Nat) (i : Nat) (h : i ≤ l.length) : cutS (SX.S l) (some (i : Int)) none = SX.S (l.drop i) := by
  unfold cutS
  rw [SX.S_len, HT.sIx_none, HT.sIx_nat, Nat.min_eq_left h]
  have e : (l.drop i).take (l.length - i) = l.drop i := List.take_of_length_le (by rw [List.length_drop]; omega)
  simp [SX.S]
  exact e
def endO (x one o : Nat) : Nat := if x % 3 = 1 ∧ one ≠ 1 then 1 else if one ≤ o then o + 1 else o
def endsN (l : List Nat) (i c : Nat) : Nat × Nat := (pk l i c, endO (l.getD (i + 1) 0 / 3) (pk l i c) (pk l (i + 1) (c - 1)))
theorem endO_ok {x one o c : Nat} (hc : 2 ≤ c) (h1 : one < c) (h2 : o < c - 1) : endO x one o < c ∧ one ≠ endO x one o := by
  unfold endO
  by_cases h : x % 3 = 1 ∧ one ≠ 1
  · rw [if_pos h]; exact ⟨by omega, h.2⟩
  · rw [if_neg h]
    by_cases h3 : one ≤ o
    · rw [if_pos h3]; omega
    · rw [if_neg h3]; omega
def dE (p : Nat × Nat) : D := .tup [dI (p.1 : Int), dI (p.2 : Int)]
theorem ends_ok2 {l : List Nat} {i c : Nat} (h : 2 ≤ c) : (endsN l i c).1 < c ∧ (endsN l i c).2 < c ∧ (endsN l i c).1 ≠ (endsN l i c).2 := by
  have h1 := pk_lt (l := l) (i := i) (c := c) (by omega)
  have h2 := pk_lt (l := l) (i := i + 1) (c := c - 1) (by omega)
  obtain ⟨h3, h4⟩ := endO_ok (x := l.getD (i + 1) 0 / 3) h h1 h2
  exact ⟨h1, h3, h4⟩

section
variable {P : Program} {w : World} {K : PySem.W.Frag} {mg : Str → Option Value} {base : Heap} {f : Addr} {fd : FuncData}
def preRow (ds : List D) (d : D) : Prop := ∃ (c : Int) (m : Nat), m ≤ 1000 ∧ ds = [dI c, dI (m : Int)] ∧ d = .lst (dNat (rowN c m))
theorem ok_row (ma : mg "abs" = none) (mr : mg "range" = none) (mi : mg "int" = none) (F : FunD K "_law_row" "_law_row" (defArgs (top 45)) (defBody (top 45)) (defScope (top 45)) [] [] f fd) : FnOk P w K mg base CX0 1 f fd ["_law_cell", "_law_many"] (spD K preRow) :=
  fn_d F sc45 (fun ds d ⟨c, m, _, e, _⟩ => by rw [e]; rfl) fun X C ds d ⟨c, m, hm, e1, e2⟩ => by
    subst e1 e2
    obtain rfl : X.K = K := C.eK
    refine xss_cons (xs_asgN C 2 xn_nil (xss_cons (xs_asg C 3 (d := dI (absI c)) (xe_abs C.toCxt ma (xe_var C.toCxt 0 rfl)) ?_)))
    refine xss_cons (xs_for C (xi_range C.toCxt mr (xe_var C.toCxt 1 rfl) (by omega) (by omega)) (fun j G1 => G1 = [.im (dI c), .im (dI (m : Int)), .ml X.K (dNat (rowN c j)), .im (dI (restK c j)), .un, .un]) rfl ?_ ?_)
    · rintro j d G1 hd rfl
      have hj : j < m := by
        have := (List.getElem?_eq_some_iff.mp hd).1
        unfold rngD at this
        rw [List.length_map, List.length_range] at this
        omega
      unfold rngD at hd
      rw [List.getElem?_map, List.getElem?_range (by omega)] at hd
      cases hd
      have row1 : rowN c (j + 1) = rowN c j ++ [rowK c j] := by unfold rowN; rw [List.range_succ, List.map_append]; rfl
      have rl : (rowN c j).length = j := by unfold rowN; rw [List.length_map, List.length_range]
      refine ⟨_, _, xtg_name C.toCxt 4, xss_one (xs_if (bb := bigI c) (xt_cmp (xc_ge (xe_abs C.toCxt ma (xe_var C.toCxt 0 rfl)) (xe_pow xe_int xe_int ⟨by decide, by decide, by decide⟩))) (fun q => ?_) fun q => ?_)⟩
      · refine xss_cons (xs_app C 2 rfl ((xe_mod (xe_intI C.toCxt mi (xe_var C.toCxt 3 rfl)) xe_int (by decide)).is (dI_eq (mod_nn _).symm)) (by rw [dNat_len, rl]; omega) ?_)
        refine xss_one (xs_asg C 3 (xe_fdiv (xe_var C.toCxt 3 rfl) xe_int ⟨by decide, by decide⟩) ⟨_, .keep (.keep (.keep (.keep (.drop (.keep .nil))))), ?_⟩)
        have r1 : restK c (j + 1) = restK c j / 1009 := if_pos q
        rw [row1, dNat_snoc, r1]
        unfold rowK
        rw [if_pos q]
      · have nq : ¬ bigI c = true := by rw [q]; exact Bool.false_ne_true
        refine xss_cons (xs_asg C 5 (xe_mod (xe_intI C.toCxt mi (xe_add (xe_mul (xe_var C.toCxt 3 rfl) xe_int (.inr ⟨by decide, by decide⟩)) (xe_mul (xe_add (xe_var C.toCxt 4 rfl) xe_int) xe_int (.inr ⟨by decide, by decide⟩)))) xe_int (by decide)) ?_)
        refine xss_cons (xs_asg C 5 (d := dI (mixA c j)) (xe_mod (xe_intI C.toCxt mi (xe_add (xe_mul (xe_var C.toCxt 5 rfl) xe_int (.inr ⟨by decide, by decide⟩)) (xe_mul xe_int (xe_add (xe_var C.toCxt 4 rfl) xe_int) (.inl ⟨by decide, by decide⟩)))) xe_int (by decide)) ?_)
        refine xss_one (xs_app C 2 rfl ((xe_mod (xe_intI C.toCxt mi (xe_var C.toCxt 5 rfl)) xe_int (by decide)).is (dI_eq (mod_nn _).symm)) (by rw [dNat_len, rl]; omega) ⟨_, .keep (.keep (.keep (.keep (.drop (.drop .nil))))), ?_⟩)
        have r1 : restK c (j + 1) = restK c j := if_neg nq
        rw [row1, dNat_snoc, r1]
        unfold rowK
        rw [if_neg nq]
    · rintro G1 rfl
      unfold rngD
      rw [List.length_map, List.length_range, Int.toNat_natCast]
      exact xss_freeze 2 rfl (xss_one (xs_ret (xe_var C.toCxt 2 rfl) rfl))
def preNumb (ds : List D) (d : D) : Prop := ∃ ns : List Int, ns.length ≤ 63 ∧ ds = [.sq (ns.map V.int), dI 76] ∧ d = .lst (dNat (numL ns))
theorem ok_numb (FR : Kn P w K mg base "_law_row" 1 preRow) (mm : mg "max" = none) (ml : mg "len" = none) (F : FunD K "_law_numbers" "_law_numbers" (defArgs (top 46)) (defBody (top 46)) (defScope (top 46)) [] [] f fd) :
    FnOk P w K mg base CX0 2 f fd ["_law_script", "_law_many"] (spD K preNumb) :=
  fn_d F sc46 (fun ds d ⟨ns, _, e, _⟩ => by rw [e]; rfl) fun X C ds d ⟨ns, hn, e1, e2⟩ => by
    subst e1 e2
    obtain rfl : X.K = K := C.eK
    have fl := flatN_len ns
    have tl := List.length_take_le 63 ns
    obtain ⟨L, eL⟩ : ∃ L, L = (ns.take 63).length := ⟨_, rfl⟩
    refine xss_cons (xs_asg C 2 (d := .lst ((ns.take 63).map dI)) ((XN.toE (xn_slQ (xe_var C.toCxt 0 rfl) xo_none (xo_some xe_int))).is ?_) ?_)
    · unfold cutV
      rw [List.length_map, HT.sIx_none, show (some (63 : Int)) = some ((63 : Nat) : Int) from rfl, HT.sIx_nat, List.drop_zero, Nat.sub_zero, ← List.map_take, List.map_map]
      rw [Nat.min_eq_right hn, List.take_length, List.take_of_length_le hn]
      rfl
    refine xss_cons (xs_asg C 3 (d := dI ((eachN L : Nat) : Int)) ((xe_add xe_int (xe_fdiv (xe_var C.toCxt 1 rfl) (xe_max2 C.toCxt mm xe_int (xe_lenL C.toCxt ml (XE.r (xe_var C.toCxt 2 rfl)))) ?_)).is (dI_eq ?_)) ?_)
    · rw [List.length_map, ← eL]
      constructor <;> (split <;> omega)
    · rw [List.length_map, ← eL]
      unfold eachN
      by_cases h : 1 < L
      · rw [if_pos (by omega), if_pos h]
        rw [Int.natCast_add, Int.natCast_ediv]
        rfl
      · rw [if_neg (by omega), if_neg h]
        rfl
    refine xss_cons (xs_asgN C 4 xn_nil ?_)
    refine xss_cons (xs_for C (xi_list (xe_var C.toCxt 2 rfl)) (fun j G1 => G1 = [.im (.sq (ns.map V.int)), .im (dI 76), .im (.lst ((ns.take 63).map dI)), .im (dI ((eachN L : Nat) : Int)), .ml X.K (dNat (((ns.take 63).take j).flatMap fun c => rowN c (eachN L))), .un, .un]) rfl ?_ ?_)
    · rintro j d G1 hd rfl
      rw [List.getElem?_map] at hd
      cases hq : (ns.take 63)[j]? with
      | none => rw [hq] at hd; cases hd
      | some c =>
        rw [hq] at hd
        cases hd
        have el := eachN_le L
        have fl2 := flatMap_len (f := fun c => rowN c (eachN L)) (n := 77) (fun c => by unfold rowN; rw [List.length_map, List.length_range]; exact el) ((ns.take 63).take j)
        have tl2 := List.length_take_le' j (ns.take 63)
        refine ⟨_, _, xtg_name C.toCxt 5, xss_one (xs_for C (xi_list (xe_call C.toCxt FR (xa_cons (xe_var C.toCxt 5 rfl) (xa_cons (xe_var C.toCxt 3 rfl) xa_nil)) ⟨c, eachN L, by omega, rfl, rfl⟩))
          (fun i G1 => G1 = [.im (.sq (ns.map V.int)), .im (dI 76), .im (.lst ((ns.take 63).map dI)), .im (dI ((eachN L : Nat) : Int)), .ml X.K (dNat ((((ns.take 63).take j).flatMap fun c => rowN c (eachN L)) ++ (rowN c (eachN L)).take i)), .im (dI c), .un]) ?_ ?_ ?_)⟩
        · rw [List.take_zero, List.append_nil]; rfl
        · rintro i d G1 hd rfl
          unfold dNat at hd
          rw [List.getElem?_map] at hd
          cases hv : (rowN c (eachN L))[i]? with
          | none => rw [hv] at hd; cases hd
          | some v =>
            rw [hv] at hd
            cases hd
            refine ⟨_, _, xtg_name C.toCxt 6, xss_one (xs_app C 4 rfl (xe_var C.toCxt 6 rfl) ?_ ⟨_, .keep (.keep (.keep (.keep (.keep (.keep (.drop .nil)))))), ?_⟩)⟩
            · have := List.length_take_le' i (rowN c (eachN L))
              have rl : (rowN c (eachN L)).length = eachN L := by unfold rowN; rw [List.length_map, List.length_range]
              rw [dNat_len, List.length_append]; omega
            · rw [take_snoc hv, ← List.append_assoc, dNat_snoc]
        · rintro G1 rfl
          refine ⟨_, .keep (.keep (.keep (.keep (.keep (.drop (.keep .nil)))))), ?_⟩
          rw [dNat_len, List.take_length, take_snoc hq, List.flatMap_append, List.flatMap_cons, List.flatMap_nil, List.append_nil]
    rintro G1 rfl
    rw [List.length_map, List.take_length]
    have ef : ((ns.take 63).flatMap fun c => rowN c (eachN L)) = flatN ns := by unfold flatN; rw [eL]
    rw [ef]
    refine xss_cons (xs_while C (fun m G1 => ∃ j, m + j = 76 - (flatN ns).length ∧ G1 = [.im (.sq (ns.map V.int)), .im (dI 76), .im (.lst ((ns.take 63).map dI)), .im (dI ((eachN L : Nat) : Int)), .ml X.K (dNat (flatN ns ++ List.replicate j 0)), .un, .un]) (76 - (flatN ns).length) ⟨0, rfl, by rw [List.replicate_zero, List.append_nil]⟩ ?_)
    rintro m G1 ⟨j, hj, rfl⟩
    have ll : (dNat (flatN ns ++ List.replicate j 0)).length = (flatN ns).length + j := by rw [dNat_len, List.length_append, List.length_replicate]
    refine ⟨_, xt_cmp (xc_lt (xe_lenL C.toCxt ml (xr_var C.toCxt 4 rfl)) (xe_var C.toCxt 1 rfl)), fun q => ?_, fun q => ?_⟩
    · have q := of_decide_eq_true q
      rw [ll] at q
      refine xss_one (xs_app C 4 rfl xe_int (by rw [ll]; omega) ⟨m - 1, by omega, _, Wk.refl _, j + 1, by omega, ?_⟩)
      rw [List.replicate_succ', ← List.append_assoc, dNat_snoc]
      rfl
    · have q := of_decide_eq_false q
      rw [ll] at q
      refine xss_one (xs_ret (XN.toE (xn_slL (xr_var C.toCxt 4 rfl) xo_none (xo_some (xe_var C.toCxt 1 rfl)))) ?_)
      show D.lst _ = D.lst _
      congr 1
      rw [show (76 : Int) = ((76 : Nat) : Int) from rfl, cutD_lo _ _ (by rw [ll]; omega)]
      unfold numL dNat
      rw [← List.map_take]
      congr 1
      by_cases h : (flatN ns).length ≤ 76
      · have : j = 76 - (flatN ns).length := by omega
        rw [this]
      · have e0 : 76 - (flatN ns).length = 0 := by omega
        have ej : j = 0 := by omega
        rw [ej, e0]
def prePick (ds : List D) (d : D) : Prop := ∃ (l : List Nat) (i c : Nat), i < l.length ∧ 0 < c ∧ ds = [.lst (dNat l), dI (i : Int), dI (c : Int)] ∧ d = dI ((pk l i c : Nat) : Int)
theorem ok_pick (mi : mg "int" = none) (F : FunD K "_law_pick" "_law_pick" (defArgs (top 47)) (defBody (top 47)) (defScope (top 47)) [] [] f fd) : FnOk P w K mg base CX0 1 f fd ["_law_numbers_here", "_law_at", "_law_count"] (spD K prePick) :=
  fn_d F sc47 (fun ds d ⟨l, i, c, _, _, e, _⟩ => by rw [e]; rfl) fun X C ds d ⟨l, i, c, hi, hc, e1, e2⟩ => by
    subst e1 e2
    refine xss_one (xs_ret (xe_mod (xe_intI C.toCxt mi (xe_ixL (XE.r (xe_var C.toCxt 0 rfl)) (xe_var C.toCxt 1 rfl) (dNat_at hi))) (xe_var C.toCxt 2 rfl) (by omega)) ?_)
    unfold pk
    show dI _ = dI _
    rw [Int.natCast_emod]
def preWord (ds : List D) (d : D) : Prop := ∃ s k : Nat, k < 26 ∧ ds = [dI (s : Int), dI (k : Int)] ∧ d = dS (wordN s k)
theorem ok_word (mi : mg "int" = none) (mr : mg "range" = none) (F : FunD K "_law_word" "_law_word" (defArgs (top 48)) (defBody (top 48)) (defScope (top 48)) [] [] f fd) : FnOk P w K mg base CX0 1 f fd ["_law_seed", "_law_k"] (spD K preWord) :=
  fn_d F sc48 (fun ds d ⟨s, k, _, e, _⟩ => by rw [e]; rfl) fun X C ds d ⟨s, k, hk, e1, e2⟩ => by
    subst e1 e2
    have sz : wSize s k < 12 := Nat.mod_lt _ (by decide)
    have bl : (wBody s k).length = wSize s k := by unfold wBody; rw [List.length_map, List.length_range]
    have ct : wCut s k ≤ wSize s k := by have := Nat.mod_lt (s + k) (show 0 < wSize s k + 1 by omega); unfold wCut; omega
    refine xss_cons (xs_asg C 2 (d := dS "abcdefghij") xe_str ?_)
    refine xss_cons (xs_asg C 3 (d := dI ((wSize s k : Nat) : Int)) ((xe_mod (xe_intI C.toCxt mi (xe_add (xe_add (xe_mul (xe_var C.toCxt 0 rfl) xe_int (.inr ⟨by decide, by decide⟩)) (xe_mul xe_int (xe_var C.toCxt 1 rfl) (.inl ⟨by decide, by decide⟩))) (xe_fdiv (xe_var C.toCxt 0 rfl) xe_int ⟨by decide, by decide⟩))) xe_int (by decide)).is (dI_eq (by unfold wSize; omega))) ?_)
    refine xss_cons (xs_asg C 4 (d := dS (SX.S (wBody s k))) ((xe_join (ys := (wBody s k).map fun c => SX.S [c]) xe_str (XN.r (xn_lc (own := [("_law_j", 6)]) (ds := ((wBody s k).map fun c => SX.S [c]).map dS) C.toCxt ⟨by decide +kernel, Nat, List.range (wSize s k), fun (j : Nat) => dI (j : Int),
      fun j => [.im (dI (s : Int)), .im (dI (k : Int)), .im (dS "abcdefghij"), .im (dI ((wSize s k : Nat) : Int)), .un, .un, .im (dI (j : Int))], fun _ => true, fun j => dS ⟨#[wChar s k j]⟩, ?_, ?_, ?_, fun X' C' j hj => ⟨⟨[6], fun i hi => hi, xtg_name C' 6⟩, xf_nil, fun _ =>
        xe_ixS (xe_var C' 2 rfl) ((xe_mod (xe_intI C' mi (xe_add (xe_add (xe_var C' 0 rfl) (xe_mul xe_int (xe_var C' 1 rfl) (.inl ⟨by decide, by decide⟩))) (xe_mul (xe_var C' 6 rfl) (xe_add xe_int (xe_mod (xe_intI C' mi (xe_var C' 0 rfl)) xe_int (by decide))) (.inl ?_)))) xe_int (by decide)).is (dI_eq (?_ : _ = (((s + 3 * k + j * (1 + s % 7)) % 10 : Nat) : Int)))) (by decide) ?_⟩⟩)) ?_).is ?_) ?_)
    · rw [List.filter_eq_self.mpr fun _ _ => rfl]
      unfold wBody
      rw [List.map_map, List.map_map]
      rfl
    · exact XI.is (xi_range C.toCxt mr (xe_var C.toCxt 3 rfl) (by omega) (by omega)) (by unfold rngD; rw [Int.toNat_natCast])
    · rw [List.length_range]; omega
    · have := List.mem_range.mp hj
      omega
    · push_cast
      rfl
    · have h10 : (s + 3 * k + j * (1 + s % 7)) % 10 < 10 := Nat.mod_lt _ (by decide)
      have hl : lettersL.length = 10 := by decide +kernel
      show atI lettersL _ = some _
      rw [atI_nat]
      unfold wChar
      rw [getD_el _ (by omega), List.getElem?_eq_getElem (by omega)]
    · rw [List.map_map, List.length_map, bl]
      have e : ((wBody s k).map ((fun x : Str => x.length) ∘ fun c => SX.S [c])).sum ≤ (wBody s k).length := by
        generalize wBody s k = l
        induction l with
        | nil => exact Nat.le_refl _
        | cons x l ih =>
          rw [List.map_cons, List.sum_cons, List.length_cons]
          have : ((fun x : Str => x.length) ∘ fun c => SX.S [c]) x = 1 := rfl
          omega
      have e2 : (Str.ofString "").length = 0 := by decide
      rw [e2]
      omega
    · show dS _ = dS _
      have e := SX.join_S [] ((wBody s k).map fun c => [c])
      rw [join_one, List.map_map] at e
      exact congrArg dS e
    refine xss_cons (xs_asg C 5 (d := dI ((wCut s k : Nat) : Int)) ((xe_mod (xe_intI C.toCxt mi (xe_add (xe_var C.toCxt 0 rfl) (xe_var C.toCxt 1 rfl))) (xe_add (xe_var C.toCxt 3 rfl) xe_int) (by omega)).is (dI_eq (by unfold wCut; push_cast; rfl))) ?_)
    have tl : tailL.length = 26 := by decide +kernel
    refine xss_one (xs_ret (d := dS (SX.S ((wBody s k).take (wCut s k)) ++ SX.S [tailL.getD k 0] ++ SX.S ((wBody s k).drop (wCut s k)))) (xe_addS (xe_addS ((xe_slS (xe_var C.toCxt 4 rfl) xo_none (xo_some (xe_var C.toCxt 5 rfl)) ?_).is (congrArg dS (cutS_lo _ _ (by omega)))) (xe_ixS (c := tailL.getD k 0) xe_str (xe_var C.toCxt 1 rfl) (by decide) ?_) ?_) ((xe_slS (xe_var C.toCxt 4 rfl) (xo_some (xe_var C.toCxt 5 rfl)) xo_none ?_).is (congrArg dS (cutS_hi _ _ (by omega)))) ?_) ?_)
    · rw [SX.S_len]; omega
    · show atI tailL _ = some _
      rw [atI_nat, getD_el _ (by omega), List.getElem?_eq_getElem (by omega)]
    · rw [SX.S_len, List.length_take]
      show _ + 1 ≤ _
      omega
    · rw [SX.S_len]; omega
    · rw [SX.S_cat, SX.S_len, SX.S_len, List.length_append, List.length_take, List.length_drop, List.length_singleton]
      omega
    · rw [SX.S_cat, SX.S_cat]
      rfl
def preNms (ds : List D) (d : D) : Prop := ∃ s n : Nat, n ≤ 26 ∧ ds = [dI (s : Int), dI (n : Int)] ∧ d = .lst ((namesN s n).map dS)
theorem ok_nms (mr : mg "range" = none) (FW : Kn P w K mg base "_law_word" 1 preWord) (F : FunD K "_law_names" "_law_names" (defArgs (top 49)) (defBody (top 49)) (defScope (top 49)) [] [] f fd) : FnOk P w K mg base CX0 2 f fd ["_law_seed", "_law_count"] (spD K preNms) :=
  fn_d F sc49 (fun ds d ⟨s, n, _, e, _⟩ => by rw [e]; rfl) fun X C ds d ⟨s, n, hn, e1, e2⟩ => by
    subst e1 e2
    refine xss_one (xs_ret (XN.toE (xn_lc (own := [("_law_k", 2)]) C.toCxt ⟨by decide +kernel, Nat, List.range n, fun (j : Nat) => dI (j : Int), fun j => [.im (dI (s : Int)), .im (dI (n : Int)), .im (dI (j : Int))], fun _ => true, fun j => dS (wordN s j), ?_, ?_, ?_, fun X' C' j hj => ⟨⟨[2], fun i hi => hi, xtg_name C' 2⟩, xf_nil, fun _ => xe_call C' FW (xa_cons (xe_var C' 0 rfl) (xa_cons (xe_var C' 2 rfl) xa_nil)) ⟨s, j, ?_, rfl, rfl⟩⟩⟩)) rfl)
    · rw [List.filter_eq_self.mpr fun _ _ => rfl]
      unfold namesN
      rw [List.map_map]
      rfl
    · exact XI.is (xi_range C.toCxt mr (xe_var C.toCxt 1 rfl) (by omega) (by omega)) (by unfold rngD; rw [Int.toNat_natCast])
    · rw [List.length_range]; omega
    · have := List.mem_range.mp hj
      omega
def preEnds (ds : List D) (d : D) : Prop := ∃ (l : List Nat) (i c : Nat), i + 1 < l.length ∧ 2 ≤ c ∧ ds = [.lst (dNat l), dI (i : Int), dI (c : Int)] ∧ d = dE (endsN l i c)
theorem ok_ends (mi : mg "int" = none) (FP : Kn P w K mg base "_law_pick" 1 prePick) (F : FunD K "_law_ends" "_law_ends" (defArgs (top 50)) (defBody (top 50)) (defScope (top 50)) [] [] f fd) : FnOk P w K mg base CX0 2 f fd ["_law_numbers_here", "_law_at", "_law_count"] (spD K preEnds) :=
  fn_d F sc50 (fun ds d ⟨l, i, c, _, _, e, _⟩ => by rw [e]; rfl) fun X C ds d ⟨l, i, c, hi, hc, e1, e2⟩ => by
    subst e1 e2
    have i1 : ((i : Int) + 1) = ((i + 1 : Nat) : Int) := by omega
    refine xss_cons (xs_asg C 3 (d := dI ((pk l i c : Nat) : Int)) (xe_call C.toCxt FP (xa_cons (xe_var C.toCxt 0 rfl) (xa_cons (xe_var C.toCxt 1 rfl) (xa_cons (xe_var C.toCxt 2 rfl) xa_nil))) ⟨l, i, c, by omega, by omega, rfl, rfl⟩) ?_)
    refine xss_cons (xs_asg C 4 (d := dI ((pk l (i + 1) (c - 1) : Nat) : Int)) (xe_call C.toCxt FP (xa_cons (xe_var C.toCxt 0 rfl) (xa_cons ((xe_add (xe_var C.toCxt 1 rfl) xe_int).is (dI_eq i1)) (xa_cons ((xe_sub (xe_var C.toCxt 2 rfl) xe_int).is (dI_eq (show (c : Int) - 1 = ((c - 1 : Nat) : Int) by omega))) xa_nil))) ⟨l, i + 1, c - 1, hi, by omega, rfl, rfl⟩) ?_)
    refine xss_cons (xs_if ((xt_and2 (c := decide ((l.getD (i + 1) 0 / 3) % 3 = 1)) (d := !decide (pk l i c = 1)) ((xt_cmp (xc_eq (xe_mod (xe_intI C.toCxt mi (xe_fdiv (xe_ixL (XE.r (xe_var C.toCxt 0 rfl)) ((xe_add (xe_var C.toCxt 1 rfl) xe_int).is (dI_eq i1)) (dNat_at hi)) xe_int ⟨by decide, by decide⟩)) xe_int (by decide)) xe_int rfl)).is ?_)
      fun _ => (xt_cmp (xc_ne (xe_var C.toCxt 3 rfl) xe_int rfl)).is (by rw [show (1 : Int) = ((1 : Nat) : Int) from rfl, int_eq]))) (fun q => xss_one (xs_asg C 4 xe_int ?_)) fun q => xss_one (xs_if (xt_cmp (xc_ge (xe_var C.toCxt 4 rfl) (xe_var C.toCxt 3 rfl))) (fun q2 => xss_one (xs_asg C 4 (xe_add (xe_var C.toCxt 4 rfl) xe_int) ?_)) fun q2 => xss_nil ?_))
    · refine decide_eq_decide.mpr ⟨fun e => ?_, fun e => congrArg V.int (by omega)⟩
      have e := V.int.inj e
      omega
    · have q1 : (l.getD (i + 1) 0 / 3) % 3 = 1 ∧ pk l i c ≠ 1 := by simpa using q
      refine xss_one (xs_ret (xe_tup2 (xe_var C.toCxt 3 rfl) (xe_var C.toCxt 4 rfl)) ?_)
      unfold dE endsN endO
      rw [if_pos q1]
      rfl
    · have q1 : ¬ ((l.getD (i + 1) 0 / 3) % 3 = 1 ∧ pk l i c ≠ 1) := by simpa using q
      have q2 := of_decide_eq_true q2
      refine xss_one (xs_ret (xe_tup2 (xe_var C.toCxt 3 rfl) (xe_var C.toCxt 4 rfl)) ?_)
      unfold dE endsN endO
      rw [if_neg q1, if_pos (by omega)]
      rfl
    · have q1 : ¬ ((l.getD (i + 1) 0 / 3) % 3 = 1 ∧ pk l i c ≠ 1) := by simpa using q
      have q2 := of_decide_eq_false q2
      refine xss_one (xs_ret (xe_tup2 (xe_var C.toCxt 3 rfl) (xe_var C.toCxt 4 rfl)) ?_)
      unfold dE endsN endO
      rw [if_neg q1, if_neg (by omega)]
end
end DL

namespace DL
open PySem L2

theorem sc51 : FnScope ["_law_numbers_here", "_law_at", "_law_count", "_law_movers", "_law_ends_here", "_law_mover", "_law_both", "_law_makes"] ["_law_numbers_here", "_law_at", "_law_count", "_law_movers"] (defScope (top 51)) := ⟨rfl, rfl, rfl, by decide +kernel, rfl, by decide +kernel, by decide +kernel⟩
theorem sc52 : FnScope ["_law_numbers_here", "_law_at", "_law_seed", "_law_count", "_law_switches", "_law_movers", "_law_k", "_law_relays", "_law_lamps", "_law_contacts", "_law_nodes"] ["_law_numbers_here", "_law_at"] (defScope (top 52)) := ⟨rfl, rfl, rfl, by decide +kernel, rfl, by decide +kernel, by decide +kernel⟩
theorem sc53 : FnScope ["_law_board_here", "_law_contact_here", "_law_mover", "_law_when"] ["_law_board_here", "_law_contact_here"] (defScope (top 53)) := ⟨rfl, rfl, rfl, by decide +kernel, rfl, by decide +kernel, by decide +kernel⟩
theorem sc54 : FnScope ["_law_board_here", "_law_nodes", "_law_relays", "_law_lamps", "_law_contacts", "_law_k", "_law_contact_here"] ["_law_board_here"] (defScope (top 54)) := ⟨rfl, rfl, rfl, by decide +kernel, rfl, by decide +kernel, by decide +kernel⟩

def cnN (l : List Nat) (i c m : Nat) : Cn := ⟨(endsN l i c).1, (endsN l i c).2, pk l (i + 2) (m + 1), decide (pk l (i + 2) (m + 1) = m) || decide ((l.getD (i + 3) 0 / 3) % 2 = 0), decide (pk l (i + 3) 3 < 2)⟩
def dC (c : Cn) : D := .tup [dI (c.a : Int), dI (c.b : Int), dI (c.mv : Int), dB c.wn, dB c.both]
def dLB (b : Bd) : D := .tup [.lst (b.nod.map dS), .lst (b.mvs.map dS), dI (b.nsw : Int), .lst (b.rel.map dE), .lst (b.lmn.map dS), .lst (b.lam.map dE), .lst (b.con.map dC)]
def cntB (l : List Nat) : Nat := 2 + pk l 0 5
def swB (l : List Nat) : Nat := pk l 1 3
def mvB (l : List Nat) : Nat := swB l + pk l 2 4
def lmB (l : List Nat) : Nat := 1 + pk l 3 2
def boardN (l : List Nat) : Bd where
  nod := namesN (l.getD 5 0) (cntB l)
  mvs := namesN (l.getD 5 0 + l.getD 6 0) (mvB l)
  nsw := swB l
  rel := (List.range (pk l 2 4)).map fun k => endsN l (7 + 2 * k) (cntB l)
  lmn := namesN (l.getD 5 0 + 1) (lmB l)
  lam := (List.range (lmB l)).map fun k => endsN l (13 + 2 * k) (cntB l)
  con := (List.range (pk l 4 9)).map fun k => cnN l (17 + 4 * k) (cntB l) (mvB l)
theorem names_len (s n : Nat) : (namesN s n).length = n := by unfold namesN; rw [List.length_map, List.length_range]
def isLow (c : Nat) : Bool := decide (97 ≤ c) && decide (c ≤ 106)
theorem letter_low {i : Nat} (h : i < 10) : isLow (lettersL.getD i 0) = true := by
  have all : ∀ i : Fin 10, isLow (lettersL.getD i.val 0) = true := by decide +kernel
  exact all ⟨i, h⟩
theorem tail_high {k : Nat} (h : k < 26) : isLow (tailL.getD k 0) = false := by
  have all : ∀ i : Fin 26, isLow (tailL.getD i.val 0) = false := by decide +kernel
  exact all ⟨k, h⟩
theorem tail_inj {j k : Nat} (hj : j < 26) (hk : k < 26) (e : tailL.getD j 0 = tailL.getD k 0) : j = k := by
  have all : ∀ i j : Fin 26, tailL.getD i.val 0 = tailL.getD j.val 0 → i = j := by decide +kernel
  exact congrArg Fin.val (all ⟨j, hj⟩ ⟨k, hk⟩ e)
theorem body_low (s k : Nat) : ∀ c ∈ wBody s k, isLow c = true := fun c hc => by
  obtain ⟨j, _, rfl⟩ := List.mem_map.mp hc
  exact letter_low (Nat.mod_lt _ (by decide))
theorem filter_low {l : List Nat} (h : ∀ c ∈ l, isLow c = true) : l.filter (fun c => !isLow c) = [] := List.filter_eq_nil_iff.mpr fun c hc => by rw [h c hc]; decide
theorem word_high {s k : Nat} (hk : k < 26) : (wordN s k).cps.toList.filter (fun c => !isLow c) = [tailL.getD k 0] := by
  have h := body_low s k
  show (((wBody s k).take (wCut s k) ++ [tailL.getD k 0] ++ (wBody s k).drop (wCut s k)).toArray.toList).filter _ = _
  rw [List.toList_toArray, List.filter_append, List.filter_append, filter_low fun c hc => h c (List.mem_of_mem_take hc), filter_low fun c hc => h c (List.mem_of_mem_drop hc), List.filter_cons, tail_high hk]
  rfl
theorem word_inj {s j k : Nat} (hj : j < 26) (hk : k < 26) (e : wordN s j = wordN s k) : j = k := by
  have h1 := word_high (s := s) hj
  rw [e, word_high hk] at h1
  exact tail_inj hj hk (List.cons.inj h1).1.symm
theorem low_ok {c : Nat} (h : isLow c = true) : c ∈ charsS.cps.toList := by
  unfold isLow at h
  simp only [Bool.and_eq_true, decide_eq_true_eq] at h
  have all : ∀ i : Fin 10, (i.val + 97) ∈ charsS.cps.toList := by decide +kernel
  have := all ⟨c - 97, by omega⟩
  have e : c - 97 + 97 = c := by omega
  rw [← e]
  exact this
theorem tail_ok {k : Nat} (h : k < 26) : tailL.getD k 0 ∈ charsS.cps.toList := by
  have all : ∀ i : Fin 26, tailL.getD i.val 0 ∈ charsS.cps.toList := by decide +kernel
  exact all ⟨k, h⟩
theorem word_ok {s k : Nat} (hk : k < 26) : okName (wordN s k) = true := by
  have h := body_low s k
  have sz : wSize s k < 12 := Nat.mod_lt _ (by decide)
  have bl : (wBody s k).length = wSize s k := by unfold wBody; rw [List.length_map, List.length_range]
  have ln : (wordN s k).length = wSize s k + 1 := by
    unfold wordN
    rw [SX.S_len, List.length_append, List.length_append, List.length_take, List.length_drop, List.length_singleton, bl]
    have : wCut s k ≤ wSize s k := by have := Nat.mod_lt (s + k) (show 0 < wSize s k + 1 by omega); unfold wCut; omega
    omega
  unfold okName
  rw [ln, decide_eq_true (by omega), decide_eq_true (by omega), Bool.true_and, Bool.true_and]
  refine List.all_eq_true.mpr fun c hc => decide_eq_true ?_
  have hc : c ∈ (wBody s k).take (wCut s k) ++ [tailL.getD k 0] ++ (wBody s k).drop (wCut s k) := by
    have e : (wordN s k).cps.toList = (wBody s k).take (wCut s k) ++ [tailL.getD k 0] ++ (wBody s k).drop (wCut s k) := List.toList_toArray
    rw [← e]; exact hc
  rcases List.mem_append.mp hc with z | z
  · rcases List.mem_append.mp z with z | z
    · exact low_ok (h c (List.mem_of_mem_take z))
    · rw [List.mem_singleton.mp z]; exact tail_ok hk
  · exact low_ok (h c (List.mem_of_mem_drop z))
theorem names_nodup {s n : Nat} (h : n ≤ 26) : (namesN s n).Nodup := by
  have all : ∀ l : List Nat, l.Nodup → (∀ i ∈ l, i < 26) → (l.map (wordN s)).Nodup := by
    intro l
    induction l with
    | nil => intro _ _; exact List.nodup_nil
    | cons i l ih =>
      intro nd hl
      obtain ⟨n1, n2⟩ := List.nodup_cons.mp nd
      rw [List.map_cons]
      refine List.nodup_cons.mpr ⟨fun z => ?_, ih n2 fun j hj => hl j (List.mem_cons_of_mem _ hj)⟩
      obtain ⟨j, hj, e⟩ := List.mem_map.mp z
      exact n1 (by rw [← word_inj (hl j (List.mem_cons_of_mem _ hj)) (hl i List.mem_cons_self) e]; exact hj)
  exact all _ List.nodup_range fun i hi => by have := List.mem_range.mp hi; omega
theorem names_ok {s n : Nat} (h : n ≤ 26) : ∀ x ∈ namesN s n, okName x = true := fun x hx => by
  obtain ⟨k, hk, rfl⟩ := List.mem_map.mp hx
  have := List.mem_range.mp hk
  exact word_ok (by omega)
theorem board_ok (l : List Nat) : (boardN l).Ok := by
  have a0 := pk_lt (l := l) (i := 0) (c := 5) (by decide)
  have a1 := pk_lt (l := l) (i := 1) (c := 3) (by decide)
  have a2 := pk_lt (l := l) (i := 2) (c := 4) (by decide)
  have a3 := pk_lt (l := l) (i := 3) (c := 2) (by decide)
  have a4 := pk_lt (l := l) (i := 4) (c := 9) (by decide)
  have nl : (boardN l).nod.length = cntB l := names_len _ _
  have ml : (boardN l).mvs.length = mvB l := names_len _ _
  have rl : (boardN l).rel.length = pk l 2 4 := by show (List.map _ _).length = _; rw [List.length_map, List.length_range]
  have kl : (boardN l).lam.length = lmB l := by show (List.map _ _).length = _; rw [List.length_map, List.length_range]
  have ll : (boardN l).lmn.length = lmB l := names_len _ _
  have cl : (boardN l).con.length = pk l 4 9 := by show (List.map _ _).length = _; rw [List.length_map, List.length_range]
  have hc : 2 ≤ cntB l := by unfold cntB; omega
  have ms : (boardN l).nsw = swB l := rfl
  refine ⟨names_nodup ?_, ?_, ?_, names_ok ?_, names_nodup ?_, names_ok ?_, ?_, ?_, ?_, fun r hr => ?_, ?_, ?_, ?_, names_nodup ?_, names_ok ?_, fun r hr => ?_, ?_, fun c hcm => ?_⟩
  · unfold cntB; omega
  · rw [nl]; exact hc
  · rw [nl]; unfold cntB; omega
  · unfold cntB; omega
  · unfold mvB swB; omega
  · unfold mvB swB; omega
  · rw [ms, rl, ml]; rfl
  · rw [ms]; unfold swB; omega
  · rw [rl]; omega
  · obtain ⟨k, _, rfl⟩ := List.mem_map.mp hr
    rw [nl]; exact ends_ok2 hc
  · rw [ll, kl]
  · rw [kl]; unfold lmB; omega
  · rw [kl]; unfold lmB; omega
  · unfold lmB; omega
  · unfold lmB; omega
  · obtain ⟨k, _, rfl⟩ := List.mem_map.mp hr
    rw [nl]; exact ends_ok2 hc
  · rw [cl]; omega
  · obtain ⟨k, _, rfl⟩ := List.mem_map.mp hcm
    rw [nl, ml]
    obtain ⟨h1, h2, h3⟩ := ends_ok2 (l := l) (i := 17 + 4 * k) hc
    have h4 := pk_lt (l := l) (i := 17 + 4 * k + 2) (c := mvB l + 1) (by omega)
    refine ⟨h1, h2, h3, ?_, fun e => ?_⟩
    · show pk l (17 + 4 * k + 2) (mvB l + 1) ≤ _
      omega
    · have e : pk l (17 + 4 * k + 2) (mvB l + 1) = mvB l := e
      show (decide (pk l (17 + 4 * k + 2) (mvB l + 1) = mvB l) || _) = true
      rw [decide_eq_true e]
      rfl

section
variable {P : Program} {w : World} {K : PySem.W.Frag} {mg : Str → Option Value} {base : Heap} {f Cb : Addr} {fd : FuncData}
def preCont (ds : List D) (d : D) : Prop := ∃ (l : List Nat) (i c m : Nat), i + 3 < l.length ∧ 2 ≤ c ∧ ds = [.lst (dNat l), dI (i : Int), dI (c : Int), dI (m : Int)] ∧ d = dC (cnN l i c m)
theorem ok_cont (mi : mg "int" = none) (FE : Kn P w K mg base "_law_ends" 2 preEnds) (FP : Kn P w K mg base "_law_pick" 1 prePick) (F : FunD K "_law_contact" "_law_contact" (defArgs (top 51)) (defBody (top 51)) (defScope (top 51)) [] [] f fd) :
    FnOk P w K mg base CX0 3 f fd ["_law_numbers_here", "_law_at", "_law_count", "_law_movers"] (spD K preCont) :=
  fn_d F sc51 (fun ds d ⟨l, i, c, m, _, _, e, _⟩ => by rw [e]; rfl) fun X C ds d ⟨l, i, c, m, hi, hc, e1, e2⟩ => by
    subst e1 e2
    have i2 : ((i : Int) + 2) = ((i + 2 : Nat) : Int) := by omega
    have i3 : ((i : Int) + 3) = ((i + 3 : Nat) : Int) := by omega
    refine xss_cons (xs_asg C 4 (d := dE (endsN l i c)) (xe_call C.toCxt FE (xa_cons (xe_var C.toCxt 0 rfl) (xa_cons (xe_var C.toCxt 1 rfl) (xa_cons (xe_var C.toCxt 2 rfl) xa_nil))) ⟨l, i, c, by omega, hc, rfl, rfl⟩) ?_)
    refine xss_cons (xs_asg C 5 (d := dI ((pk l (i + 2) (m + 1) : Nat) : Int)) (xe_call C.toCxt FP (xa_cons (xe_var C.toCxt 0 rfl) (xa_cons ((xe_add (xe_var C.toCxt 1 rfl) xe_int).is (dI_eq i2)) (xa_cons ((xe_add (xe_var C.toCxt 3 rfl) xe_int).is (dI_eq (show (m : Int) + 1 = ((m + 1 : Nat) : Int) by omega))) xa_nil))) ⟨l, i + 2, m + 1, by omega, by omega, rfl, rfl⟩) ?_)
    refine xss_cons (xs_asg C 6 (d := dB (decide (pk l (i + 3) 3 < 2))) ((xe_cmp (xc_lt (xe_call (d := dI ((pk l (i + 3) 3 : Nat) : Int)) C.toCxt FP (xa_cons (xe_var C.toCxt 0 rfl) (xa_cons ((xe_add (xe_var C.toCxt 1 rfl) xe_int).is (dI_eq i3)) (xa_cons xe_int xa_nil))) ⟨l, i + 3, 3, hi, by decide, rfl, rfl⟩) xe_int)).is ?_) ?_)
    · exact congrArg dB (decide_eq_decide.mpr ⟨fun h => by omega, fun h => by omega⟩)
    refine xss_cons (xs_asg C 7 (d := dB (decide (pk l (i + 2) (m + 1) = m) || decide ((l.getD (i + 3) 0 / 3) % 2 = 0))) (xe_or2 ((xe_cmp (xc_eq (xe_var C.toCxt 5 rfl) (xe_var C.toCxt 3 rfl) rfl)).is ?_) fun _ => (xe_cmp (xc_eq (xe_mod (xe_intI C.toCxt mi (xe_fdiv (xe_ixL (XE.r (xe_var C.toCxt 0 rfl)) ((xe_add (xe_var C.toCxt 1 rfl) xe_int).is (dI_eq i3)) (dNat_at hi)) xe_int ⟨by decide, by decide⟩)) xe_int (by decide)) xe_int rfl)).is ?_) ?_)
    · exact congrArg dB (int_eq _ _)
    · refine congrArg dB (decide_eq_decide.mpr ⟨fun e => ?_, fun e => congrArg V.int (by omega)⟩)
      have e := V.int.inj e
      omega
    exact xss_one (xs_ret (xe_tup (xa_cons (xe_ixT (xe_var C.toCxt 4 rfl) xe_int (show atI _ _ = some (dI _) from rfl)) (xa_cons (xe_ixT (xe_var C.toCxt 4 rfl) xe_int (show atI _ _ = some (dI _) from rfl)) (xa_cons (xe_var C.toCxt 5 rfl) (xa_cons (xe_var C.toCxt 7 rfl) (xa_cons (xe_var C.toCxt 6 rfl) xa_nil))))) (by simp)) rfl)
def preLBoard (ds : List D) (d : D) : Prop := ∃ l : List Nat, l.length = 76 ∧ ds = [.lst (dNat l), dI 0] ∧ d = dLB (boardN l)
theorem ok_lboard (mi : mg "int" = none) (mr : mg "range" = none) (ml : mg "len" = none) (FP : Kn P w K mg base "_law_pick" 1 prePick) (FN : Kn P w K mg base "_law_names" 2 preNms) (FE : Kn P w K mg base "_law_ends" 2 preEnds) (FC : Kn P w K mg base "_law_contact" 3 preCont)
    (F : FunD K "_law_board" "_law_board" (defArgs (top 52)) (defBody (top 52)) (defScope (top 52)) [] [] f fd) : FnOk P w K mg base CX0 4 f fd ["_law_numbers_here", "_law_at"] (spD K preLBoard) :=
  fn_d F sc52 (fun ds d ⟨l, _, e, _⟩ => by rw [e]; rfl) fun X C ds d ⟨l, hl, e1, e2⟩ => by
    subst e1 e2
    obtain rfl : X.K = K := C.eK
    have a0 := pk_lt (l := l) (i := 0) (c := 5) (by decide)
    have a1 := pk_lt (l := l) (i := 1) (c := 3) (by decide)
    have a2 := pk_lt (l := l) (i := 2) (c := 4) (by decide)
    have a3 := pk_lt (l := l) (i := 3) (c := 2) (by decide)
    have a4 := pk_lt (l := l) (i := 4) (c := 9) (by decide)
    have hc : 2 ≤ cntB l := by unfold cntB; omega
    have hc6 : cntB l ≤ 6 := by unfold cntB; omega
    have hm5 : mvB l ≤ 5 := by unfold mvB swB; omega
    have hms : mvB l = swB l + pk l 2 4 := rfl
    have hl2 : lmB l ≤ 2 := by unfold lmB; omega
    have hl1 : 1 ≤ lmB l := by unfold lmB; omega
    refine xss_cons (xs_asg C 2 (d := dI ((l.getD 5 0 : Nat) : Int)) (xe_intI C.toCxt mi (xe_ixL (XE.r (xe_var C.toCxt 0 rfl)) ((xe_add (xe_var C.toCxt 1 rfl) xe_int).is (show dI (0 + 5) = dI ((5 : Nat) : Int) from rfl)) (dNat_at (by omega)))) ?_)
    refine xss_cons (xs_asg C 3 (d := dI ((cntB l : Nat) : Int)) ((xe_add xe_int (xe_call (d := dI ((pk l 0 5 : Nat) : Int)) C.toCxt FP (xa_cons (xe_var C.toCxt 0 rfl) (xa_cons (xe_var C.toCxt 1 rfl) (xa_cons xe_int xa_nil))) ⟨l, 0, 5, by omega, by decide, rfl, rfl⟩)).is (dI_eq (by unfold cntB; omega))) ?_)
    refine xss_cons (xs_asg C 4 (d := dI ((swB l : Nat) : Int)) (xe_call C.toCxt FP (xa_cons (xe_var C.toCxt 0 rfl) (xa_cons ((xe_add (xe_var C.toCxt 1 rfl) xe_int).is (show dI (0 + 1) = dI ((1 : Nat) : Int) from rfl)) (xa_cons xe_int xa_nil))) ⟨l, 1, 3, by omega, by decide, rfl, rfl⟩) ?_)
    refine xss_cons (xs_asg C 5 (d := .lst ((boardN l).mvs.map dS)) (xe_call C.toCxt FN (xa_cons ((xe_add (xe_var C.toCxt 2 rfl) (xe_intI C.toCxt mi (xe_ixL (XE.r (xe_var C.toCxt 0 rfl)) ((xe_add (xe_var C.toCxt 1 rfl) xe_int).is (show dI (0 + 6) = dI ((6 : Nat) : Int) from rfl)) (dNat_at (by omega))))).is (dI_eq (Int.natCast_add _ _).symm))
      (xa_cons ((xe_add (xe_var C.toCxt 4 rfl) (xe_call (d := dI ((pk l 2 4 : Nat) : Int)) C.toCxt FP (xa_cons (xe_var C.toCxt 0 rfl) (xa_cons ((xe_add (xe_var C.toCxt 1 rfl) xe_int).is (show dI (0 + 2) = dI ((2 : Nat) : Int) from rfl)) (xa_cons xe_int xa_nil))) ⟨l, 2, 4, by omega, by decide, rfl, rfl⟩)).is (dI_eq (show _ = ((mvB l : Nat) : Int) by omega))) xa_nil)) ⟨_, mvB l, by omega, rfl, rfl⟩) ?_)
    have mvl : (boardN l).mvs.length = mvB l := names_len _ _
    refine xss_cons (xs_lc (own := [("_law_k", 6)]) (ds := (boardN l).rel.map dE) C 7 ⟨by decide +kernel, Nat, List.range (pk l 2 4), fun (j : Nat) => dI (j : Int), fun j => [.im (.lst (dNat l)), .im (dI 0), .im (dI ((l.getD 5 0 : Nat) : Int)), .im (dI ((cntB l : Nat) : Int)), .im (dI ((swB l : Nat) : Int)), .im (.lst ((boardN l).mvs.map dS)), .im (dI (j : Int)), .un, .un, .un, .un], fun _ => true, fun j => dE (endsN l (7 + 2 * j) (cntB l)), ?_, ?_, ?_, fun X' C' j hj => ⟨⟨[6], fun i hi => hi, xtg_name C' 6⟩, xf_nil, fun _ =>
      xe_call C' FE (xa_cons (xe_var C' 0 rfl) (xa_cons ((xe_add (xe_add (xe_var C' 1 rfl) xe_int) (xe_mul xe_int (xe_var C' 6 rfl) (.inl ⟨by decide, by decide⟩))).is (dI_eq (show (0 : Int) + 7 + 2 * (j : Int) = ((7 + 2 * j : Nat) : Int) by omega))) (xa_cons (xe_var C' 3 rfl) xa_nil))) ⟨l, 7 + 2 * j, cntB l, ?_, hc, rfl, rfl⟩⟩⟩ ?_)
    · rw [List.filter_eq_self.mpr fun _ _ => rfl]
      unfold boardN
      rw [List.map_map]; rfl
    · refine XI.is (xi_range (n := ((pk l 2 4 : Nat) : Int)) C.toCxt mr ((xe_sub (xe_lenL C.toCxt ml (XE.r (xe_var C.toCxt 5 rfl))) (xe_var C.toCxt 4 rfl)).is (dI_eq ?_)) (by omega) (by omega)) (by unfold rngD; rw [Int.toNat_natCast])
      rw [List.length_map, mvl]; omega
    · rw [List.length_range]; omega
    · have := List.mem_range.mp hj
      omega
    refine xss_cons (xs_lc (own := [("_law_k", 6)]) (ds := (boardN l).lam.map dE) C 8 ⟨by decide +kernel, Nat, List.range (lmB l), fun (j : Nat) => dI (j : Int), fun j => [.im (.lst (dNat l)), .im (dI 0), .im (dI ((l.getD 5 0 : Nat) : Int)), .im (dI ((cntB l : Nat) : Int)), .im (dI ((swB l : Nat) : Int)), .im (.lst ((boardN l).mvs.map dS)), .im (dI (j : Int)), .im (.lst ((boardN l).rel.map dE)), .un, .un, .un], fun _ => true, fun j => dE (endsN l (13 + 2 * j) (cntB l)), ?_, ?_, ?_, fun X' C' j hj => ⟨⟨[6], fun i hi => hi, xtg_name C' 6⟩, xf_nil, fun _ =>
      xe_call C' FE (xa_cons (xe_var C' 0 rfl) (xa_cons ((xe_add (xe_add (xe_var C' 1 rfl) xe_int) (xe_mul xe_int (xe_var C' 6 rfl) (.inl ⟨by decide, by decide⟩))).is (dI_eq (show (0 : Int) + 13 + 2 * (j : Int) = ((13 + 2 * j : Nat) : Int) by omega))) (xa_cons (xe_var C' 3 rfl) xa_nil))) ⟨l, 13 + 2 * j, cntB l, ?_, hc, rfl, rfl⟩⟩⟩ ?_)
    · rw [List.filter_eq_self.mpr fun _ _ => rfl]
      unfold boardN
      rw [List.map_map]; rfl
    · exact XI.is (xi_range (n := ((lmB l : Nat) : Int)) C.toCxt mr ((xe_add xe_int (xe_call (d := dI ((pk l 3 2 : Nat) : Int)) C.toCxt FP (xa_cons (xe_var C.toCxt 0 rfl) (xa_cons ((xe_add (xe_var C.toCxt 1 rfl) xe_int).is (show dI (0 + 3) = dI ((3 : Nat) : Int) from rfl)) (xa_cons xe_int xa_nil))) ⟨l, 3, 2, by omega, by decide, rfl, rfl⟩)).is (dI_eq (by unfold lmB; omega))) (by omega) (by omega)) (by unfold rngD; rw [Int.toNat_natCast])
    · rw [List.length_range]; omega
    · have := List.mem_range.mp hj
      omega
    refine xss_cons (xs_asgN C 9 xn_nil ?_)
    have laml : (boardN l).lam.length = lmB l := by show (List.map _ _).length = _; rw [List.length_map, List.length_range]
    refine xss_cons (xs_for C (XI.is (xi_range (n := ((pk l 4 9 : Nat) : Int)) C.toCxt mr (xe_call C.toCxt FP (xa_cons (xe_var C.toCxt 0 rfl) (xa_cons ((xe_add (xe_var C.toCxt 1 rfl) xe_int).is (show dI (0 + 4) = dI ((4 : Nat) : Int) from rfl)) (xa_cons xe_int xa_nil))) ⟨l, 4, 9, by omega, by decide, rfl, rfl⟩) (by omega) (by omega)) (show _ = (List.range (pk l 4 9)).map fun (j : Nat) => dI (j : Int) by unfold rngD; rw [Int.toNat_natCast]))
      (fun j G1 => G1 = [.im (.lst (dNat l)), .im (dI 0), .im (dI ((l.getD 5 0 : Nat) : Int)), .im (dI ((cntB l : Nat) : Int)), .im (dI ((swB l : Nat) : Int)), .im (.lst ((boardN l).mvs.map dS)), .un, .im (.lst ((boardN l).rel.map dE)), .im (.lst ((boardN l).lam.map dE)), .ml X.K (((List.range j).map fun k => cnN l (17 + 4 * k) (cntB l) (mvB l)).map dC), .un]) rfl ?_ ?_)
    · rintro j d G1 hd rfl
      have hj : j < pk l 4 9 := by
        have := (List.getElem?_eq_some_iff.mp hd).1
        rwa [List.length_map, List.length_range] at this
      rw [List.getElem?_map, List.getElem?_range hj] at hd
      cases hd
      refine ⟨_, _, xtg_name C.toCxt 6, xss_one (xs_app C 9 rfl (d := dC (cnN l (17 + 4 * j) (cntB l) (mvB l))) (xe_call C.toCxt FC (xa_cons (xe_var C.toCxt 0 rfl) (xa_cons ((xe_add (xe_add (xe_var C.toCxt 1 rfl) xe_int) (xe_mul xe_int (xe_var C.toCxt 6 rfl) (.inl ⟨by decide, by decide⟩))).is (dI_eq (show (0 : Int) + 17 + 4 * (j : Int) = ((17 + 4 * j : Nat) : Int) by omega))) (xa_cons (xe_var C.toCxt 3 rfl) (xa_cons ((xe_lenL C.toCxt ml (XE.r (xe_var C.toCxt 5 rfl))).is (dI_eq ?_)) xa_nil)))) ⟨l, 17 + 4 * j, cntB l, mvB l, by omega, hc, rfl, rfl⟩) ?_ ⟨_, .keep (.keep (.keep (.keep (.keep (.keep (.drop (.keep (.keep (.keep (.keep .nil)))))))))), ?_⟩)⟩
      · rw [List.length_map, mvl]
      · rw [List.length_map, List.length_map, List.length_range]; omega
      · rw [List.range_succ, List.map_append, List.map_append]
        rfl
    rintro G1 rfl
    rw [List.length_map, List.length_range]
    refine xss_cons (xs_asg C 10 (d := .lst ((boardN l).nod.map dS)) (xe_call C.toCxt FN (xa_cons (xe_var C.toCxt 2 rfl) (xa_cons (xe_var C.toCxt 3 rfl) xa_nil)) ⟨_, cntB l, by omega, rfl, rfl⟩) ?_)
    refine xss_freeze 9 rfl ?_
    exact xss_one (xs_ret (xe_tup (xa_cons (xe_var C.toCxt 10 rfl) (xa_cons (xe_var C.toCxt 5 rfl) (xa_cons (xe_var C.toCxt 4 rfl) (xa_cons (xe_var C.toCxt 7 rfl) (xa_cons (xe_call (d := .lst ((boardN l).lmn.map dS)) C.toCxt FN (xa_cons ((xe_add (xe_var C.toCxt 2 rfl) xe_int).is (dI_eq (Int.natCast_add _ 1).symm)) (xa_cons ((xe_lenL C.toCxt ml (XE.r (xe_var C.toCxt 8 rfl))).is (dI_eq (show _ = ((lmB l : Nat) : Int) by rw [List.length_map, laml]))) xa_nil)) ⟨_, lmB l, by omega, rfl, rfl⟩) (xa_cons (xe_var C.toCxt 8 rfl) (xa_cons (xe_var C.toCxt 9 rfl) xa_nil))))))) (by simp)) rfl)
end
end DL

namespace DL
open PySem L2

theorem sc55 : FnScope ["_law_board_here", "_law_movers", "_law_closed_here", "_law_contact_here"] ["_law_board_here", "_law_movers"] (defScope (top 55)) := ⟨rfl, rfl, rfl, by decide +kernel, rfl, by decide +kernel, by decide +kernel⟩
theorem sc56 : FnScope ["_law_board_here", "_law_closed_here", "_law_start", "_law_ahead", "_law_reached_here", "_law_turn", "_law_grown", "_law_contact_here", "_law_first_here", "_law_second", "_law_node"] ["_law_board_here", "_law_closed_here", "_law_start", "_law_ahead"] (defScope (top 56)) := ⟨rfl, rfl, rfl, by decide +kernel, rfl, by decide +kernel, by decide +kernel⟩
theorem sc57 : FnScope ["_law_board_here", "_law_state", "_law_loads", "_law_load", "_law_closed_here", "_law_fed", "_law_feeds", "_law_live_here"] ["_law_board_here", "_law_state", "_law_loads"] (defScope (top 57)) := ⟨rfl, rfl, rfl, by decide +kernel, rfl, by decide +kernel, by decide +kernel⟩
theorem sc58 : FnScope ["_law_board_here", "_law_movers"] ["_law_board_here", "_law_movers"] (defScope (top 58)) := ⟨rfl, rfl, rfl, by decide +kernel, rfl, by decide +kernel, by decide +kernel⟩

def clC (b : Bd) (m : List Bool) : List Cn := b.con.filter (closedC b (m, false))
theorem pathsN_fuse (b : Bd) (m : List Bool) (f g : Bool) : pathsN b (m, f) = pathsN b (m, g) := rfl
theorem shortN_fuse (b : Bd) (m : List Bool) (f g : Bool) : shortN b (m, f) = shortN b (m, g) := rfl
theorem clC_ok {b : Bd} (ok : b.Ok) (m : List Bool) : CnOk b.nod.length (clC b m) := fun c hc => by
  obtain ⟨h1, h2, _⟩ := ok.ce c (List.mem_filter.mp hc).1
  exact ⟨h1, h2⟩
theorem mem_paths {b : Bd} {s : Sv} {p : Nat × Nat} : p ∈ pathsN b s ↔ ∃ c ∈ clC b s.1, p ∈ pairsOf c := by
  unfold pathsN
  rw [List.mem_flatMap]
  constructor
  · rintro ⟨i, hi, hp⟩
    obtain ⟨h1, h2⟩ := List.mem_filter.mp hi
    exact ⟨b.con.getD i cn0, List.mem_filter.mpr ⟨con_mem (List.mem_range.mp h1), h2⟩, hp⟩
  · rintro ⟨c, hc, hp⟩
    obtain ⟨h1, h2⟩ := List.mem_filter.mp hc
    obtain ⟨i, hi, e⟩ := List.getElem_of_mem h1
    have eg : b.con.getD i cn0 = c := by rw [getD_el _ hi]; exact e
    exact ⟨i, List.mem_filter.mpr ⟨List.mem_range.mpr hi, by rw [eg]; exact h2⟩, by rw [eg]; exact hp⟩
theorem fed_law {b : Bd} (ok : b.Ok) (s : Sv) {i : Nat} (hi : i < b.nod.length) : g1 (lawR b.nod.length (clC b s.1) 0 true) i = decide (i ∈ fedL b s) := by
  have n2 := ok.n2
  have h1 := lawR_ok (ps := pathsN b s) (ah := true) (st := 0) (by omega) (clC_ok ok s.1) (fun c hc p hp => mem_paths.mpr ⟨c, hc, hp⟩) (fun p hp => mem_paths.mp hp) i
  have h2 := reachN_mem (paths_ok ok s) (st := 0) (by omega) i
  have h3 : i ∈ fedL b s ↔ Rch (pathsN b s) 0 i := by
    unfold fedL
    rw [List.mem_filter, decide_eq_true_eq, h2]
    exact ⟨fun z => z.2, fun z => ⟨List.mem_range.mpr hi, z⟩⟩
  cases q : g1 (lawR b.nod.length (clC b s.1) 0 true) i with
  | true => rw [decide_eq_true (h3.mpr (h1.mp q))]
  | false => rw [decide_eq_false fun z => by rw [h1.mpr (h3.mp z)] at q; cases q]
theorem feeds_law {b : Bd} (ok : b.Ok) (s : Sv) {i : Nat} (hi : i < b.nod.length) : g1 (lawR b.nod.length (clC b s.1) 1 false) i = decide (i ∈ feedsL b s) := by
  have n2 := ok.n2
  have sw : ∀ c : Cn, ∀ p, p ∈ prs false c ↔ swapP p ∈ pairsOf c := fun c p => by
    unfold prs pairsOf swapP e1 e2
    obtain ⟨x, y⟩ := p
    split
    · simp only [Bool.false_eq_true, if_false, List.mem_cons, List.mem_nil_iff, or_false, Prod.mk.injEq]
      exact ⟨fun h => h.imp (fun z => ⟨z.2, z.1⟩) fun z => ⟨z.2, z.1⟩, fun h => h.imp (fun z => ⟨z.2, z.1⟩) fun z => ⟨z.2, z.1⟩⟩
    · simp only [Bool.false_eq_true, if_false, List.mem_cons, List.mem_nil_iff, or_false, Prod.mk.injEq]
      exact ⟨fun z => ⟨z.2, z.1⟩, fun z => ⟨z.2, z.1⟩⟩
  have sw2 : ∀ p, p ∈ (pathsN b s).map swapP ↔ swapP p ∈ pathsN b s := fun p => by
    rw [List.mem_map]
    exact ⟨fun ⟨q, hq, e⟩ => by rw [← e]; exact hq, fun h => ⟨swapP p, h, rfl⟩⟩
  have h1 := lawR_ok (ps := (pathsN b s).map swapP) (ah := false) (st := 1) (by omega) (clC_ok ok s.1) (fun c hc p hp => (sw2 p).mpr (mem_paths.mpr ⟨c, hc, (sw c p).mp hp⟩))
    (fun p hp => by
      obtain ⟨c, hc, h⟩ := mem_paths.mp ((sw2 p).mp hp)
      exact ⟨c, hc, (sw c p).mpr h⟩) i
  have h2 := reachN_mem (swap_ok (paths_ok ok s)) (st := 1) (by omega) i
  have h3 : i ∈ feedsL b s ↔ Rch ((pathsN b s).map swapP) 1 i := by
    unfold feedsL
    rw [List.mem_filter, decide_eq_true_eq, h2]
    exact ⟨fun z => z.2, fun z => ⟨List.mem_range.mpr hi, z⟩⟩
  cases q : g1 (lawR b.nod.length (clC b s.1) 1 false) i with
  | true => rw [decide_eq_true (h3.mpr (h1.mp q))]
  | false => rw [decide_eq_false fun z => by rw [h1.mpr (h3.mp z)] at q; cases q]
theorem lawR_len {b : Bd} (ok : b.Ok) (m : List Bool) (st : Nat) (ah : Bool) : (lawR b.nod.length (clC b m) st ah).length = b.nod.length := lawF_len (clC_ok ok m) _ _ (by rw [List.length_set, List.length_replicate])
def liveB (b : Bd) (s : Sv) : List Bool := (List.range b.rel.length).map fun k => !s.2 && liveK b s k
theorem liveB_at {b : Bd} {s : Sv} {k : Nat} (h : k < b.rel.length) : (liveB b s).getD k false = decide (b.nsw + k ∈ liveL b s) := by
  unfold liveB
  rw [getD_el _ (by rw [List.length_map, List.length_range]; exact h), List.getElem_map, List.getElem_range]
  unfold liveL
  cases hf : s.2 with
  | true => simp
  | false =>
    rw [if_neg Bool.false_ne_true]
    cases hk : liveK b s k with
    | true => rw [decide_eq_true (List.mem_map.mpr ⟨k, List.mem_filter.mpr ⟨List.mem_range.mpr h, hk⟩, rfl⟩)]; rfl
    | false =>
      rw [decide_eq_false fun z => ?_]
      · rfl
      · obtain ⟨j, hj, e⟩ := List.mem_map.mp z
        have e : b.nsw + j = b.nsw + k := e
        have e : j = k := by omega
        subst e
        rw [(List.mem_filter.mp hj).2] at hk
        cases hk

section
variable {P : Program} {w : World} {K : PySem.W.Frag} {mg : Str → Option Value} {base : Heap} {f Cb : Addr} {fd : FuncData}
section
variable {N : List Str} {sc : List (Str × NameKind)} {k : Nat} {X : Cx} {G : List Sl} {a : Expr} {b : Bd} {c : Cn} {p p2 : Pos} {j : Nat}
theorem lb0 (h : XE X a G (dLB b)) : XE X (.Subscript a (.Constant (.int 0) j p) p2) G (.lst (b.nod.map dS)) := xe_ixT h xe_int (show atI _ _ = some _ from rfl)
theorem lb1 (h : XE X a G (dLB b)) : XE X (.Subscript a (.Constant (.int 1) j p) p2) G (.lst (b.mvs.map dS)) := xe_ixT h xe_int (show atI _ _ = some _ from rfl)
theorem lb2 (h : XE X a G (dLB b)) : XE X (.Subscript a (.Constant (.int 2) j p) p2) G (dI (b.nsw : Int)) := xe_ixT h xe_int (show atI _ _ = some _ from rfl)
theorem lb3 (h : XE X a G (dLB b)) : XE X (.Subscript a (.Constant (.int 3) j p) p2) G (.lst (b.rel.map dE)) := xe_ixT h xe_int (show atI _ _ = some _ from rfl)
theorem lb4 (h : XE X a G (dLB b)) : XE X (.Subscript a (.Constant (.int 4) j p) p2) G (.lst (b.lmn.map dS)) := xe_ixT h xe_int (show atI _ _ = some _ from rfl)
theorem lb5 (h : XE X a G (dLB b)) : XE X (.Subscript a (.Constant (.int 5) j p) p2) G (.lst (b.lam.map dE)) := xe_ixT h xe_int (show atI _ _ = some _ from rfl)
theorem lb6 (h : XE X a G (dLB b)) : XE X (.Subscript a (.Constant (.int 6) j p) p2) G (.lst (b.con.map dC)) := xe_ixT h xe_int (show atI _ _ = some _ from rfl)
theorem dc0 (h : XE X a G (dC c)) : XE X (.Subscript a (.Constant (.int 0) j p) p2) G (dI (c.a : Int)) := xe_ixT h xe_int (show atI _ _ = some _ from rfl)
theorem dc1 (h : XE X a G (dC c)) : XE X (.Subscript a (.Constant (.int 1) j p) p2) G (dI (c.b : Int)) := xe_ixT h xe_int (show atI _ _ = some _ from rfl)
theorem dc2 (h : XE X a G (dC c)) : XE X (.Subscript a (.Constant (.int 2) j p) p2) G (dI (c.mv : Int)) := xe_ixT h xe_int (show atI _ _ = some _ from rfl)
theorem dc3 (h : XE X a G (dC c)) : XE X (.Subscript a (.Constant (.int 3) j p) p2) G (dB c.wn) := xe_ixT h xe_int (show atI _ _ = some _ from rfl)
theorem dc4 (h : XE X a G (dC c)) : XE X (.Subscript a (.Constant (.int 4) j p) p2) G (dB c.both) := xe_ixT h xe_int (show atI _ _ = some _ from rfl)
theorem de0 {q : Nat × Nat} (h : XE X a G (dE q)) : XE X (.Subscript a (.Constant (.int 0) j p) p2) G (dI (q.1 : Int)) := xe_ixT h xe_int (show atI _ _ = some _ from rfl)
theorem de1 {q : Nat × Nat} (h : XE X a G (dE q)) : XE X (.Subscript a (.Constant (.int 1) j p) p2) G (dI (q.2 : Int)) := xe_ixT h xe_int (show atI _ _ = some _ from rfl)
end
def preTold (ds : List D) (d : D) : Prop := ∃ (b : Bd) (c : Cn), b.Ok ∧ c ∈ b.con ∧ ds = [dLB b, dC c] ∧ d = dCon b c
theorem ok_told (mi : mg "int" = none) (ml : mg "len" = none) (F : FunD K "_law_told_contact" "_law_told_contact" (defArgs (top 53)) (defBody (top 53)) (defScope (top 53)) [] [] f fd) : FnOk P w K mg base CX0 1 f fd ["_law_board_here", "_law_contact_here"] (spD K preTold) :=
  fn_d F sc53 (fun ds d ⟨b, c, _, _, e, _⟩ => by rw [e]; rfl) fun X C ds d ⟨b, c, ok, hc, e1, e2⟩ => by
    subst e1 e2
    obtain ⟨h1, h2, h3, h4, h5⟩ := ok.ce c hc
    have rest : ∀ v : D, v = dMv b c.mv → XSs X ((defBody (top 53)).drop 2) [.im (dLB b), .im (dC c), .im v, .un] { nx := fun _ => dCon b c = dN, rt := fun r => r = dCon b c } := by
      intro v ev
      refine xss_cons (xs_asg C 3 (d := dS (whenS c.wn)) (xe_ixL (XN.r (xn_lst (xa_cons xe_str (xa_cons xe_str xa_nil)) (by simp))) (xe_intB C.toCxt mi (dc3 (xe_var C.toCxt 1 rfl))) (by cases c.wn <;> rfl)) ?_)
      refine xss_one (xs_ret (xe_tup (xa_cons (xe_ixL (XE.r (lb0 (xe_var C.toCxt 0 rfl))) (dc0 (xe_var C.toCxt 1 rfl)) (atI_map dS ⟨#[]⟩ h1)) (xa_cons (xe_ixL (XE.r (lb0 (xe_var C.toCxt 0 rfl))) (dc1 (xe_var C.toCxt 1 rfl)) (atI_map dS ⟨#[]⟩ h2)) (xa_cons (xe_var C.toCxt 2 rfl) (xa_cons (xe_var C.toCxt 3 rfl) (xa_cons (xe_ixL (d := dS (wayS c.both)) (XN.r (xn_lst (xa_cons xe_str (xa_cons xe_str xa_nil)) (by simp))) (xe_intB C.toCxt mi (dc4 (xe_var C.toCxt 1 rfl))) (by cases c.both <;> rfl)) xa_nil))))) (by simp)) ?_)
      rw [ev]
      rfl
    refine xss_cons (xs_asg C 2 xe_non ?_)
    refine xss_cons (xs_if (bb := decide (c.mv < b.mvs.length)) ((xt_cmp (xc_lt (dc2 (xe_var C.toCxt 1 rfl)) (xe_lenL C.toCxt ml (XE.r (lb1 (xe_var C.toCxt 0 rfl)))))).is ?_) (fun q => xss_one (xs_asg C 2 (d := dS (b.mn c.mv)) (xe_ixL (XE.r (lb1 (xe_var C.toCxt 0 rfl))) (dc2 (xe_var C.toCxt 1 rfl)) (atI_map dS ⟨#[]⟩ (of_decide_eq_true q))) ?_)) fun q => xss_nil ?_)
    · rw [List.length_map]
      exact decide_eq_decide.mpr Int.ofNat_lt
    · exact rest _ (dMv_some (of_decide_eq_true q)).symm
    · exact rest _ (dMv_none (of_decide_eq_false q)).symm
def preMade (Cb : Addr) (ds : List D) (d : D) : Prop := ∃ b : Bd, b.Ok ∧ ds = [dLB b] ∧ d = dBd Cb b
theorem ok_made (FT : Kn P w K mg base "_law_told_contact" 1 preTold) (FB : KnI P w K mg base "Board" Cb 3 ["nodes", "switches", "relays", "lamps", "contacts"] preBoard) (mr : mg "range" = none) (ml : mg "len" = none) (mi : mg "list" = none)
    (F : FunD K "_law_made" "_law_made" (defArgs (top 54)) (defBody (top 54)) (defScope (top 54)) [] [] f fd) : FnOk P w K mg base CX0 5 f fd ["_law_board_here"] (spD K (preMade Cb)) :=
  fn_d F sc54 (fun ds d ⟨b, _, e, _⟩ => by rw [e]; rfl) fun X C ds d ⟨b, ok, e1, e2⟩ => by
    subst e1 e2
    have s2 := ok.s2
    have r3 := ok.r3
    have sw := ok.sw
    have ll := ok.ll
    have l2 := ok.l2
    have c8 := ok.c8
    refine xss_cons (xs_asg C 1 (lb0 (xe_var C.toCxt 0 rfl)) ?_)
    refine xss_cons (xs_lc (own := [("_law_k", 5)]) (ds := b.rels) C 2 ⟨by decide +kernel, Nat, List.range b.rel.length, fun (j : Nat) => dI (j : Int), fun j => [.im (dLB b), .im (.lst (b.nod.map dS)), .un, .un, .un, .im (dI (j : Int)), .un], fun _ => true, dRel b, ?_, ?_, ?_, fun X' C' j hj => ⟨⟨[5], fun i hi => hi, xtg_name C' 5⟩, xf_nil, fun _ => ?_⟩⟩ ?_)
    · rw [List.filter_eq_self.mpr fun _ _ => rfl]; rfl
    · refine XI.is (xi_range (n := ((b.rel.length : Nat) : Int)) C.toCxt mr ((xe_lenL C.toCxt ml (XE.r (lb3 (xe_var C.toCxt 0 rfl)))).is (dI_eq (by rw [List.length_map]))) (by omega) (by omega)) (by unfold rngD; rw [Int.toNat_natCast])
    · rw [List.length_range]; omega
    · have hj := List.mem_range.mp hj
      obtain ⟨q1, q2⟩ := rel_at ok hj
      exact xe_tup3 (xe_ixL (XE.r (lb1 (xe_var C' 0 rfl))) ((xe_add (lb2 (xe_var C' 0 rfl)) (xe_var C' 5 rfl)).is (dI_eq (Int.natCast_add _ _).symm)) (atI_map dS ⟨#[]⟩ (by omega)))
        (xe_ixL (XE.r (xe_var C' 1 rfl)) (de0 (xe_ixL (XE.r (lb3 (xe_var C' 0 rfl))) (xe_var C' 5 rfl) (atI_map dE (0, 0) hj))) (atI_map dS ⟨#[]⟩ q1))
        (xe_ixL (XE.r (xe_var C' 1 rfl)) (de1 (xe_ixL (XE.r (lb3 (xe_var C' 0 rfl))) (xe_var C' 5 rfl) (atI_map dE (0, 0) hj))) (atI_map dS ⟨#[]⟩ q2))
    refine xss_cons (xs_lc (own := [("_law_k", 5)]) (ds := b.lams) C 3 ⟨by decide +kernel, Nat, List.range b.lam.length, fun (j : Nat) => dI (j : Int), fun j => [.im (dLB b), .im (.lst (b.nod.map dS)), .im (.lst b.rels), .un, .un, .im (dI (j : Int)), .un], fun _ => true, dLam b, ?_, ?_, ?_, fun X' C' j hj => ⟨⟨[5], fun i hi => hi, xtg_name C' 5⟩, xf_nil, fun _ => ?_⟩⟩ ?_)
    · rw [List.filter_eq_self.mpr fun _ _ => rfl]; rfl
    · refine XI.is (xi_range (n := ((b.lam.length : Nat) : Int)) C.toCxt mr ((xe_lenL C.toCxt ml (XE.r (lb5 (xe_var C.toCxt 0 rfl)))).is (dI_eq (by rw [List.length_map]))) (by omega) (by omega)) (by unfold rngD; rw [Int.toNat_natCast])
    · rw [List.length_range]; omega
    · have hj := List.mem_range.mp hj
      have q : (b.lam.getD j (0, 0)).1 < b.nod.length ∧ (b.lam.getD j (0, 0)).2 < b.nod.length := by
        rw [getD_el _ hj]
        obtain ⟨h1, h2, _⟩ := ok.le _ (List.getElem_mem hj)
        exact ⟨h1, h2⟩
      exact xe_tup3 (xe_ixL (XE.r (lb4 (xe_var C' 0 rfl))) (xe_var C' 5 rfl) (atI_map dS ⟨#[]⟩ (by omega)))
        (xe_ixL (XE.r (xe_var C' 1 rfl)) (de0 (xe_ixL (XE.r (lb5 (xe_var C' 0 rfl))) (xe_var C' 5 rfl) (atI_map dE (0, 0) hj))) (atI_map dS ⟨#[]⟩ q.1))
        (xe_ixL (XE.r (xe_var C' 1 rfl)) (de1 (xe_ixL (XE.r (lb5 (xe_var C' 0 rfl))) (xe_var C' 5 rfl) (atI_map dE (0, 0) hj))) (atI_map dS ⟨#[]⟩ q.2))
    refine xss_cons (xs_lc (own := [("_law_contact_here", 6)]) (ds := b.con.map (dCon b)) C 4 ⟨by decide +kernel, Cn, b.con, dC, fun c => [.im (dLB b), .im (.lst (b.nod.map dS)), .im (.lst b.rels), .im (.lst b.lams), .un, .un, .im (dC c)], fun _ => true, dCon b, ?_, ?_, ?_, fun X' C' c hc => ⟨⟨[6], fun i hi => hi, xtg_name C' 6⟩, xf_nil, fun _ => xe_call C' FT (xa_cons (xe_var C' 0 rfl) (xa_cons (xe_var C' 6 rfl) xa_nil)) ⟨b, c, ok, hc, rfl, rfl⟩⟩⟩ ?_)
    · rw [List.filter_eq_self.mpr fun _ _ => rfl]
    · exact xi_list (lb6 (xe_var C.toCxt 0 rfl))
    · omega
    refine xss_one (xs_ret (xe_makeK C.toCxt FB (zs := [.lst (b.nod.map dS), .lst ((b.mvs.take b.nsw).map dS), .lst b.rels, .lst b.lams, .lst (b.con.map (dCon b))]) (xk_cons (XN.toE (xn_listL C.toCxt mi (XE.r (xe_var C.toCxt 1 rfl)))) (xk_cons ((XN.toE (xn_slL (XE.r (lb1 (xe_var C.toCxt 0 rfl))) xo_none (xo_some (lb2 (xe_var C.toCxt 0 rfl))))).is ?_) (xk_cons (xe_var C.toCxt 2 rfl) (xk_cons (xe_var C.toCxt 3 rfl) (xk_cons (xe_var C.toCxt 4 rfl) xk_nil))))) rfl rfl ⟨b, ok, rfl, rfl⟩) rfl)
    rw [cutD_lo _ _ (by rw [List.length_map]; omega), List.map_take]

def dLs (t : Bool) (l : List D) : D := if t then .tup l else .lst l
def preLCl (ds : List D) (d : D) : Prop := ∃ (b : Bd) (m : List Bool) (t : Bool), b.Ok ∧ m.length = b.mvs.length ∧ ds = [dLB b, dLs t (m.map dB)] ∧ d = .lst ((clC b m).map dC)
theorem ok_lcl (ml : mg "len" = none) (F : FunD K "_law_closed" "_law_closed" (defArgs (top 55)) (defBody (top 55)) (defScope (top 55)) [] [] f fd) : FnOk P w K mg base CX0 1 f fd ["_law_board_here", "_law_movers"] (spD K preLCl) :=
  fn_d F sc55 (fun ds d ⟨b, m, t, _, _, e, _⟩ => by rw [e]; rfl) fun X C ds d ⟨b, m, t, ok, hm, e1, e2⟩ => by
    subst e1 e2
    obtain rfl : X.K = K := C.eK
    have c8 := ok.c8
    refine xss_cons (xs_asgN C 2 xn_nil ?_)
    refine xss_cons (xs_for C (xi_list (lb6 (xe_var C.toCxt 0 rfl))) (fun j G1 => G1 = [.im (dLB b), .im (dLs t (m.map dB)), .ml X.K (((b.con.take j).filter (closedC b (m, false))).map dC), .un]) rfl ?_ ?_)
    · rintro j d G1 hd rfl
      rw [List.getElem?_map] at hd
      cases hq : b.con[j]? with
      | none => rw [hq] at hd; cases hd
      | some c =>
        rw [hq] at hd
        cases hd
        obtain ⟨h1, h2, h3, h4, h5⟩ := ok.ce c (List.mem_of_getElem? hq)
        have fl := List.length_filter_le (closedC b (m, false)) (b.con.take j)
        have tl := List.length_take_le' j b.con
        refine ⟨_, _, xtg_name C.toCxt 3, xss_one (xs_if (bb := closedC b (m, false) c) ?_ (fun q => xss_one (xs_app C 2 rfl (xe_var C.toCxt 3 rfl) (by rw [List.length_map]; omega) ⟨_, .keep (.keep (.keep (.drop .nil))), ?_⟩)) fun q => xss_nil ⟨_, .keep (.keep (.keep (.drop .nil))), ?_⟩)⟩
        · refine (xt_or2 (c := decide (c.mv = b.mvs.length)) (d := m.getD c.mv false == c.wn) ?_ fun z => ?_).is ?_
          · cases t
            · exact (xt_cmp (xc_eq (dc2 (xe_var C.toCxt 3 rfl)) (xe_lenL C.toCxt ml (XE.r (xe_var C.toCxt 1 rfl))) rfl)).is (by rw [List.length_map, hm, int_eq])
            · exact (xt_cmp (xc_eq (dc2 (xe_var C.toCxt 3 rfl)) (xe_lenT C.toCxt ml (xe_var C.toCxt 1 rfl)) rfl)).is (by rw [List.length_map, hm, int_eq])
          · have z := of_decide_eq_false z
            cases t
            · exact (xt_cmp (xc_eq (xe_ixL (XE.r (xe_var C.toCxt 1 rfl)) (dc2 (xe_var C.toCxt 3 rfl)) (atI_map dB false (by omega))) (dc3 (xe_var C.toCxt 3 rfl)) rfl)).is (bl_eq _ _)
            · exact (xt_cmp (xc_eq (xe_ixT (xe_var C.toCxt 1 rfl) (dc2 (xe_var C.toCxt 3 rfl)) (atI_map dB false (by omega))) (dc3 (xe_var C.toCxt 3 rfl)) rfl)).is (bl_eq _ _)
          · unfold closedC
            by_cases z : c.mv < b.mvs.length
            · rw [if_pos z, decide_eq_false (by omega), Bool.false_or]
            · rw [if_neg z, decide_eq_true (by omega), Bool.true_or]
        · rw [take_snoc hq, List.filter_append, List.map_append, List.filter_cons, if_pos q]
          rfl
        · rw [take_snoc hq, List.filter_append, List.map_append, List.filter_cons, if_neg (by rw [q]; exact Bool.false_ne_true), List.filter_nil, List.map_nil, List.append_nil]
    · rintro G1 rfl
      rw [List.length_map, List.take_length]
      exact xss_freeze 2 rfl (xss_one (xs_ret (xe_var C.toCxt 2 rfl) rfl))
def forBody : Stmt → List Stmt
  | .For _ _ b _ _ => b
  | _ => []
def preLRe (ds : List D) (d : D) : Prop := ∃ (b : Bd) (cs : List Cn) (st : Nat) (ah : Bool), b.Ok ∧ CnOk b.nod.length cs ∧ st < b.nod.length ∧ ds = [dLB b, .lst (cs.map dC), dI (st : Int), dB ah] ∧ d = .lst ((lawR b.nod.length cs st ah).map dB)
theorem g1_at {l : List Bool} {i : Nat} (h : i < l.length) : atI (l.map dB) (i : Int) = some (dB (g1 l i)) := atI_map dB false h
theorem ixN_nat {n i : Nat} (h : i < n) : ixN n (i : Int) = some i := by
  unfold ixN
  rw [if_pos (by omega), if_pos (by omega), Int.toNat_natCast]
theorem ok_lre (mr : mg "range" = none) (ml : mg "len" = none) (mi : mg "int" = none) (F : FunD K "_law_reached" "_law_reached" (defArgs (top 56)) (defBody (top 56)) (defScope (top 56)) [] [] f fd) :
    FnOk P w K mg base CX0 1 f fd ["_law_board_here", "_law_closed_here", "_law_start", "_law_ahead"] (spD K preLRe) :=
  fn_d F sc56 (fun ds d ⟨b, cs, st, ah, _, _, _, e, _⟩ => by rw [e]; rfl) fun X C ds d ⟨b, cs, st, ah, ok, hcs, hst, e1, e2⟩ => by
    subst e1 e2
    obtain rfl : X.K = K := C.eK
    have n6 := ok.n6
    obtain ⟨n, en⟩ : ∃ n, n = b.nod.length := ⟨_, rfl⟩
    rw [← en] at hcs hst n6 ⊢
    refine xss_cons (xs_lcN (own := [("_law_node", 10)]) (ds := (List.replicate n false).map dB) C 4 ⟨by decide +kernel, Str, b.nod, dS, fun x => [.im (dLB b), .im (.lst (cs.map dC)), .im (dI (st : Int)), .im (dB ah), .un, .un, .un, .un, .un, .un, .im (dS x)], fun _ => true, fun _ => dB false, ?_, ?_, ?_, fun X' C' x hx => ⟨⟨[10], fun i hi => hi, xtg_name C' 10⟩, xf_nil, fun _ => xe_bl⟩⟩ ?_)
    · rw [List.filter_eq_self.mpr fun _ _ => rfl, en, List.map_replicate, List.map_const']
    · exact xi_list (lb0 (xe_var C.toCxt 0 rfl))
    · omega
    refine xss_cons (xs_setL C 4 rfl xe_bl (xe_var C.toCxt 2 rfl) (n := st) (by rw [List.length_map, List.length_replicate]; exact ixN_nat hst) ?_)
    rw [show ((List.replicate n false).map dB).set st (dB true) = ((List.replicate n false).set st true).map dB from List.map_set.symm]
    refine xss_cons (xs_for C (XI.is (xi_range (n := (n : Int)) C.toCxt mr ((xe_lenL C.toCxt ml (XE.r (lb0 (xe_var C.toCxt 0 rfl)))).is (dI_eq (by rw [List.length_map, en]))) (by omega) (by omega)) (show _ = (List.range n).map fun (j : Nat) => dI (j : Int) by unfold rngD; rw [Int.toNat_natCast]))
      (fun j G1 => ∃ r : List Bool, r.length = n ∧ lawF cs ah (n - j) r = lawR n cs st ah ∧ G1 = [.im (dLB b), .im (.lst (cs.map dC)), .im (dI (st : Int)), .im (dB ah), .ml X.K (r.map dB), .un, .un, .un, .un, .un, .un]) ⟨_, by rw [List.length_set, List.length_replicate], rfl, rfl⟩ ?_ ?_)
    · rintro j d G1 hd ⟨r, hr, hf, rfl⟩
      have hj : j < n := by
        have := (List.getElem?_eq_some_iff.mp hd).1
        rwa [List.length_map, List.length_range] at this
      have ej : n - j = (n - (j + 1)) + 1 := by omega
      rw [ej] at hf
      unfold lawF at hf
      refine ⟨_, _, xtg_name C.toCxt 5 (d := d), ?_⟩
      refine xss_cons (xs_asg C 6 xe_bl ?_)
      refine xss_cons (xs_for C (xi_list (xe_var C.toCxt 1 rfl)) (fun i G1 => ∃ q : List Bool × Bool, q = (cs.take i).foldl (lAB ah) (r, false) ∧ G1 = [.im (dLB b), .im (.lst (cs.map dC)), .im (dI (st : Int)), .im (dB ah), .ml X.K (q.1.map dB), .im d, .im (dB q.2), .un, .un, .un, .un]) ⟨(r, false), rfl, rfl⟩ ?_ ?_)
      · rintro i d2 G1 hd2 ⟨q, eq, rfl⟩
        rw [List.getElem?_map] at hd2
        cases hq : cs[i]? with
        | none => rw [hq] at hd2; cases hd2
        | some c =>
          rw [hq] at hd2
          cases hd2
          have hc := hcs c (List.mem_of_getElem? hq)
          obtain ⟨k1, k2⟩ := ends_ok hc ah
          have li : LI n r q := by rw [eq]; exact LI.fold (LI.refl hr) fun c hc => hcs c (List.mem_of_mem_take hc)
          have ql : q.1.length = n := li.len
          have next : (cs.take (i + 1)).foldl (lAB ah) (r, false) = lAB ah q c := by rw [take_snoc hq, List.foldl_append, ← eq]; rfl
          refine ⟨_, _, xtg_name C.toCxt 7, ?_⟩
          refine xss_cons (xs_asg C 8 (d := dI ((e1 ah c : Nat) : Int)) (xe_ixT (xe_var C.toCxt 7 rfl) (xe_intB C.toCxt mi (xe_not (xe_var C.toCxt 3 rfl))) (by cases ah <;> rfl)) ?_)
          refine xss_cons (xs_asg C 9 (d := dI ((e2 ah c : Nat) : Int)) (xe_ixT (xe_var C.toCxt 7 rfl) (xe_intB C.toCxt mi (xe_var C.toCxt 3 rfl)) (by cases ah <;> rfl)) ?_)
          have second : ∀ (q2 : List Bool × Bool) (ds : List D) (Pw : Po), ds = q2.1.map dB → q2 = lA ah q c → (∀ q3 : List Bool × Bool, q3 = lAB ah q c → Pw.nx [.im (dLB b), .im (.lst (cs.map dC)), .im (dI (st : Int)), .im (dB ah), .ml X.K (q3.1.map dB), .im d, .im (dB q3.2), .im (dC c), .im (dI ((e1 ah c : Nat) : Int)), .im (dI ((e2 ah c : Nat) : Int)), .un]) →
              XSs X ((forBody ((forBody ((defBody (top 56)).getD 2 (.Pass ⟨0, 0, 0, 0⟩))).getD 1 (.Pass ⟨0, 0, 0, 0⟩))).drop 3) [.im (dLB b), .im (.lst (cs.map dC)), .im (dI (st : Int)), .im (dB ah), .ml X.K ds, .im d, .im (dB q2.2), .im (dC c), .im (dI ((e1 ah c : Nat) : Int)), .im (dI ((e2 ah c : Nat) : Int)), .un] Pw := by
            intro q2 ds Pw eds e2q hP
            subst eds
            have l2 : LI n r q2 := by rw [e2q]; exact li.lA hc ah
            have ql2 : q2.1.length = n := l2.len
            refine xss_one (xs_if (bb := c.both && (g1 q2.1 (e2 ah c) && !g1 q2.1 (e1 ah c))) (xt_and3 (xt_val (dc4 (xe_var C.toCxt 7 rfl))) (fun _ => xt_val (xe_ixL (xr_var C.toCxt 4 rfl) (xe_var C.toCxt 9 rfl) (g1_at (by omega)))) fun _ _ => xt_not (xt_val (xe_ixL (xr_var C.toCxt 4 rfl) (xe_var C.toCxt 8 rfl) (g1_at (by omega))))) (fun z => ?_) fun z => xss_nil ?_)
            · refine xss_cons (xs_setL C 4 rfl xe_bl (xe_var C.toCxt 8 rfl) (n := e1 ah c) (by rw [List.length_map]; exact ixN_nat (by omega)) ?_)
              refine xss_one (xs_asg C 6 xe_bl ?_)
              have e3 : lAB ah q c = (q2.1.set (e1 ah c) true, true) := by unfold lAB lB; rw [← e2q, if_pos z]
              have := hP _ e3.symm
              rw [List.map_set] at this
              exact this
            · have e3 : lAB ah q c = q2 := by unfold lAB lB; rw [← e2q, if_neg (by rw [z]; exact Bool.false_ne_true)]
              exact hP _ e3.symm
          refine xss_cons (xs_if (bb := g1 q.1 (e1 ah c) && !g1 q.1 (e2 ah c)) (xt_and2 (xt_val (xe_ixL (xr_var C.toCxt 4 rfl) (xe_var C.toCxt 8 rfl) (g1_at (by omega)))) fun _ => xt_not (xt_val (xe_ixL (xr_var C.toCxt 4 rfl) (xe_var C.toCxt 9 rfl) (g1_at (by omega))))) (fun z => ?_) fun z => xss_nil ?_)
          · refine xss_cons (xs_setL C 4 rfl xe_bl (xe_var C.toCxt 9 rfl) (n := e2 ah c) (by rw [List.length_map]; exact ixN_nat (by omega)) ?_)
            refine xss_one (xs_asg C 6 xe_bl ?_)
            have e3 : lA ah q c = (q.1.set (e2 ah c) true, true) := if_pos z
            exact second (q.1.set (e2 ah c) true, true) _ _ List.map_set.symm e3.symm fun q3 e4 => ⟨_, .keep (.keep (.keep (.keep (.keep (.keep (.keep (.drop (.drop (.drop (.keep .nil)))))))))), q3, e4.trans next.symm, rfl⟩
          · have e3 : lA ah q c = q := if_neg (by rw [z]; exact Bool.false_ne_true)
            exact second q _ _ rfl e3.symm fun q3 e4 => ⟨_, .keep (.keep (.keep (.keep (.keep (.keep (.keep (.drop (.drop (.drop (.keep .nil)))))))))), q3, e4.trans next.symm, rfl⟩
      · rintro G1 ⟨q, eq, rfl⟩
        rw [List.length_map, List.take_length] at eq
        have eq' : q = lRound cs ah r := eq
        have li : LI n r q := by rw [eq]; exact LI.fold (LI.refl hr) hcs
        refine xss_one (xs_if (xt_not (xt_val (xe_var C.toCxt 6 rfl))) (fun z => xss_freeze 4 rfl (xss_one (xs_ret (xe_var C.toCxt 4 rfl) ?_))) fun z => xss_nil ⟨_, .keep (.keep (.keep (.keep (.keep (.drop (.drop (.keep (.keep (.keep (.keep .nil)))))))))), q.1, li.len, ?_, rfl⟩)
        · have z : q.2 = false := by simpa using z
          rw [← eq', if_neg (by rw [z]; exact Bool.false_ne_true)] at hf
          rw [← hf]
        · have z : q.2 = true := by simpa using z
          rw [← eq', if_pos z] at hf
          exact hf
    · rintro G1 ⟨r, hr, hf, rfl⟩
      rw [List.length_map, List.length_range, Nat.sub_self] at hf
      refine xss_freeze 4 rfl (xss_one (xs_ret (xe_var C.toCxt 4 rfl) ?_))
      rw [← hf]
      rfl
end
end DL

namespace DL
open PySem L2

theorem sc59 : FnScope ["_law_board_here", "_law_movers", "_law_name"] ["_law_board_here"] (defScope (top 59)) := ⟨rfl, rfl, rfl, by decide +kernel, rfl, by decide +kernel, by decide +kernel⟩
theorem sc60 : FnScope ["_law_board_here", "_law_state", "_law_live_here", "_law_k"] ["_law_board_here", "_law_state"] (defScope (top 60)) := ⟨rfl, rfl, rfl, by decide +kernel, rfl, by decide +kernel, by decide +kernel⟩
theorem sc61 : FnScope ["_law_board_here", "_law_state", "_law_place", "_law_movers"] ["_law_board_here", "_law_state", "_law_place"] (defScope (top 61)) := ⟨rfl, rfl, rfl, by decide +kernel, rfl, by decide +kernel, by decide +kernel⟩
theorem sc62 : FnScope ["_law_board_here", "_law_state", "_law_hurry", "_law_due_here", "_law_k"] ["_law_board_here", "_law_state", "_law_hurry"] (defScope (top 62)) := ⟨rfl, rfl, rfl, by decide +kernel, rfl, by decide +kernel, by decide +kernel⟩
theorem sc63 : FnScope ["_law_board_here", "_law_place"] ["_law_board_here", "_law_place"] (defScope (top 63)) := ⟨rfl, rfl, rfl, by decide +kernel, rfl, by decide +kernel, by decide +kernel⟩
theorem sc64 : FnScope ["_law_board_here", "_law_numbers_here", "_law_at", "_law_many", "_law_hurry", "_law_state", "_law_play", "_law_k", "_law_places_here", "_law_place"] ["_law_board_here", "_law_numbers_here", "_law_at", "_law_many", "_law_hurry"] (defScope (top 64)) := ⟨rfl, rfl, rfl, by decide +kernel, rfl, by decide +kernel, by decide +kernel⟩
theorem sc65 : FnScope ["_law_board_here", "_law_numbers_here", "_law_at", "_law_table", "_law_number", "_law_movers", "_law_integer", "_law_k"] ["_law_board_here", "_law_numbers_here", "_law_at"] (defScope (top 65)) := ⟨rfl, rfl, rfl, by decide +kernel, rfl, by decide +kernel, by decide +kernel⟩

def plN (b : Bd) (s : Sv) (h : Nat) : List Nat := if (dueN b s).length ≤ h then List.range b.nsw ++ dueN b s else dueN b s
theorem plN_mv (b : Bd) (s : Sv) (h : Nat) : plN b s h = (mvL b s h).map (·.2) := by
  unfold plN mvL
  rw [List.map_append, List.map_map]
  have e : (dueN b s).map ((fun x : Bool × Nat => x.2) ∘ fun i => (true, i)) = dueN b s := List.map_id _
  rw [e]
  split
  · rw [List.map_map]
    have e2 : (List.range b.nsw).map ((fun x : Bool × Nat => x.2) ∘ fun i => (false, i)) = List.range b.nsw := List.map_id _
    rw [e2]
  · rfl
theorem plN_lt {b : Bd} (ok : b.Ok) {s : Sv} {h : Nat} : ∀ i ∈ plN b s h, i < b.mvs.length := fun i hi => by
  rw [plN_mv] at hi
  obtain ⟨m, hm, rfl⟩ := List.mem_map.mp hi
  exact mvL_lt ok m hm
abbrev Pl := Sv × List (Bool × Nat)
def dstep (b : Bd) (l : List Nat) (i h : Nat) (q : Pl) (k : Nat) : Pl :=
  if 0 < (plN b q.1 h).length then (stepN b q.1 ((plN b q.1 h).getD (pk l (i + k) (plN b q.1 h).length) 0), q.2 ++ [(decide (b.nsw ≤ (plN b q.1 h).getD (pk l (i + k) (plN b q.1 h).length) 0), (plN b q.1 h).getD (pk l (i + k) (plN b q.1 h).length) 0)]) else q
def drawnN (b : Bd) (l : List Nat) (i m h : Nat) : Pl := (List.range m).foldl (dstep b l i h) (firstN b, [])
def bitN (n k : Nat) : Bool := decide (n / 2 ^ k % 2 = 1)
def bitsN (m n : Nat) : List Bool := (List.range m).map (bitN n)
def intN (l : List Nat) (i n : Nat) : Nat := (l.getD i 0 + n * (1 + l.getD (i + 1) 0)) % 4
def rowT (b : Bd) (l : List Nat) (i n : Nat) : List (Sv × Int) := if n < 2 ^ b.mvs.length then [((bitsN b.mvs.length n, shortN b (bitsN b.mvs.length n, false)), (intN l i n : Int)), ((bitsN b.mvs.length n, true), (intN l i n : Int))] else []
def allT (b : Bd) (l : List Nat) (i : Nat) : List (Sv × Int) := (List.range 32).flatMap (rowT b l i)
theorem rowT_len (b : Bd) (l : List Nat) (i n : Nat) : (rowT b l i n).length ≤ 2 := by unfold rowT; split <;> simp
theorem allT_len (b : Bd) (l : List Nat) (i : Nat) : (allT b l i).length ≤ 64 := by
  have := flatMap_len (rowT_len b l i) (List.range 32)
  rw [List.length_range] at this
  unfold allT
  omega
theorem bits_len (m n : Nat) : (bitsN m n).length = m := by unfold bitsN; rw [List.length_map, List.length_range]
theorem allT_ok (b : Bd) (l : List Nat) (i : Nat) : TabOk b (allT b l i) := fun q hq => by
  obtain ⟨n, _, h⟩ := List.mem_flatMap.mp hq
  unfold rowT at h
  split at h
  · rcases List.mem_cons.mp h with z | z
    · rw [z]
      refine ⟨bits_len _ _, ?_⟩
      cases e : shortN b (bitsN b.mvs.length n, false) with
      | true => exact .inl rfl
      | false => exact .inr e
    · rw [List.mem_singleton.mp z]; exact ⟨bits_len _ _, .inl rfl⟩
  · cases h
theorem drawn_ok {b : Bd} {l : List Nat} {i h : Nat} : ∀ (ks : List Nat) (q : Pl), StOk b q.1 → StOk b (ks.foldl (dstep b l i h) q).1
  | [], _, hs => hs
  | k :: ks, q, hs => by
    rw [List.foldl_cons]
    refine drawn_ok ks _ ?_
    unfold dstep
    split
    · exact step_ok hs _
    · exact hs
theorem drawn_len {b : Bd} {l : List Nat} {i h : Nat} : ∀ (ks : List Nat) (q : Pl), (ks.foldl (dstep b l i h) q).2.length ≤ q.2.length + ks.length
  | [], _ => Nat.le_refl _
  | k :: ks, q => by
    have h1 := drawn_len (b := b) (l := l) (i := i) (h := h) ks (dstep b l i h q k)
    have h2 : (dstep b l i h q k).2.length ≤ q.2.length + 1 := by
      unfold dstep
      split
      · rw [List.length_append, List.length_singleton]; exact Nat.le_refl _
      · omega
    rw [List.foldl_cons, List.length_cons]
    omega

section
variable {P : Program} {w : World} {K : PySem.W.Frag} {mg : Str → Option Value} {base : Heap} {f Cb : Addr} {fd : FuncData}
def preLLi (ds : List D) (d : D) : Prop := ∃ (b : Bd) (s : Sv), b.Ok ∧ StOk b s ∧ ds = [dLB b, dSv s, .lst (b.rel.map dE)] ∧ d = .lst ((liveB b s).map dB)
theorem ok_lli (FC : Kn P w K mg base "_law_closed" 1 preLCl) (FR : Kn P w K mg base "_law_reached" 1 preLRe) (F : FunD K "_law_live" "_law_live" (defArgs (top 57)) (defBody (top 57)) (defScope (top 57)) [] [] f fd) :
    FnOk P w K mg base CX0 2 f fd ["_law_board_here", "_law_state", "_law_loads"] (spD K preLLi) :=
  fn_d F sc57 (fun ds d ⟨b, s, _, _, e, _⟩ => by rw [e]; rfl) fun X C ds d ⟨b, s, ok, sk, e1, e2⟩ => by
    subst e1 e2
    obtain rfl : X.K = K := C.eK
    have r3 := ok.r3
    have n2 := ok.n2
    refine xss_cons (xs_if (xt_val (xe_fuse (xe_var C.toCxt 1 rfl))) (fun q => xss_one (xs_ret (XN.toE (xn_lc (own := [("_law_load", 3)]) C.toCxt ⟨by decide +kernel, Nat × Nat, b.rel, dE, fun r => [.im (dLB b), .im (dSv s), .im (.lst (b.rel.map dE)), .im (dE r), .un, .un, .un, .un], fun _ => true, fun _ => dB false, rfl, ?_, ?_, fun X' C' r hr => ⟨⟨[3], fun i hi => hi, xtg_name C' 3⟩, xf_nil, fun _ => xe_bl⟩⟩)) ?_)) fun q => xss_nil ?_)
    · exact xi_list (xe_var C.toCxt 2 rfl)
    · omega
    · rw [List.filter_eq_self.mpr fun _ _ => rfl]
      show D.lst _ = D.lst _
      congr 1
      unfold liveB
      rw [List.map_map, q]
      have e : ∀ n : Nat, (List.range n).map (dB ∘ fun k => !true && liveK b s k) = List.replicate n (dB false) := fun n => by
        rw [List.eq_replicate_iff]
        refine ⟨by rw [List.length_map, List.length_range], fun d hd => ?_⟩
        obtain ⟨k, _, rfl⟩ := List.mem_map.mp hd
        rfl
      rw [e, List.map_const']
    have hm : s.1.length = b.mvs.length := sk
    refine xss_cons (xs_asg C 4 (d := .lst ((clC b s.1).map dC)) (xe_call C.toCxt FC (xa_cons (xe_var C.toCxt 0 rfl) (xa_cons (xe_pos (xe_var C.toCxt 1 rfl)) xa_nil)) ⟨b, s.1, true, ok, hm, rfl, rfl⟩) ?_)
    refine xss_cons (xs_asg C 5 (d := .lst ((lawR b.nod.length (clC b s.1) 0 true).map dB)) (xe_call C.toCxt FR (xa_cons (xe_var C.toCxt 0 rfl) (xa_cons (xe_var C.toCxt 4 rfl) (xa_cons xe_int (xa_cons xe_bl xa_nil)))) ⟨b, _, 0, true, ok, clC_ok ok _, by omega, rfl, rfl⟩) ?_)
    refine xss_cons (xs_asg C 6 (d := .lst ((lawR b.nod.length (clC b s.1) 1 false).map dB)) (xe_call C.toCxt FR (xa_cons (xe_var C.toCxt 0 rfl) (xa_cons (xe_var C.toCxt 4 rfl) (xa_cons xe_int (xa_cons xe_bl xa_nil)))) ⟨b, _, 1, false, ok, clC_ok ok _, by omega, rfl, rfl⟩) ?_)
    refine xss_cons (xs_asgN C 7 xn_nil ?_)
    refine xss_cons (xs_for C (xi_list (xe_var C.toCxt 2 rfl)) (fun j G1 => G1 = [.im (dLB b), .im (dSv s), .im (.lst (b.rel.map dE)), .un, .im (.lst ((clC b s.1).map dC)), .im (.lst ((lawR b.nod.length (clC b s.1) 0 true).map dB)), .im (.lst ((lawR b.nod.length (clC b s.1) 1 false).map dB)), .ml X.K (((List.range j).map (liveK b s)).map dB)]) rfl ?_ ?_)
    · rintro j d G1 hd rfl
      have hj : j < b.rel.length := by
        have := (List.getElem?_eq_some_iff.mp hd).1
        rwa [List.length_map] at this
      rw [List.getElem?_map, List.getElem?_eq_getElem hj] at hd
      cases hd
      obtain ⟨h1, h2⟩ := rel_at ok hj
      rw [getD_el _ hj] at h1 h2
      have lf := lawR_len ok s.1 0 true
      have lb := lawR_len ok s.1 1 false
      refine ⟨_, _, xtg_name C.toCxt 3, xss_one (xs_app C 7 rfl (d := dB (liveK b s j)) ((xe_or2 (xe_and2 ((xe_ixL (XE.r (xe_var C.toCxt 5 rfl)) (de0 (xe_var C.toCxt 3 rfl)) (g1_at (by rw [lf]; exact h1))).is (congrArg dB (fed_law ok s h1))) fun _ => (xe_ixL (XE.r (xe_var C.toCxt 6 rfl)) (de1 (xe_var C.toCxt 3 rfl)) (g1_at (by rw [lb]; exact h2))).is (congrArg dB (feeds_law ok s h2)))
        fun _ => xe_and2 ((xe_ixL (XE.r (xe_var C.toCxt 5 rfl)) (de1 (xe_var C.toCxt 3 rfl)) (g1_at (by rw [lf]; exact h2))).is (congrArg dB (fed_law ok s h2))) fun _ => (xe_ixL (XE.r (xe_var C.toCxt 6 rfl)) (de0 (xe_var C.toCxt 3 rfl)) (g1_at (by rw [lb]; exact h1))).is (congrArg dB (feeds_law ok s h1))).is ?_) ?_ ⟨_, .keep (.keep (.keep (.drop (.keep (.keep (.keep (.keep .nil))))))), ?_⟩)⟩
      · unfold liveK
        rw [getD_el _ hj]
      · rw [List.length_map, List.length_map, List.length_range]; omega
      · rw [List.range_succ, List.map_append, List.map_append]
        rfl
    · rintro G1 rfl
      rw [List.length_map]
      refine xss_freeze 7 rfl (xss_one (xs_ret (xe_var C.toCxt 7 rfl) ?_))
      show D.lst _ = D.lst _
      unfold liveB
      rw [q]
      rfl
def preLSh (ds : List D) (d : D) : Prop := ∃ (b : Bd) (m : List Bool) (t : Bool), b.Ok ∧ m.length = b.mvs.length ∧ ds = [dLB b, dLs t (m.map dB)] ∧ d = dB (shortN b (m, false))
theorem ok_lsh (FC : Kn P w K mg base "_law_closed" 1 preLCl) (FR : Kn P w K mg base "_law_reached" 1 preLRe) (F : FunD K "_law_is_short" "_law_is_short" (defArgs (top 58)) (defBody (top 58)) (defScope (top 58)) [] [] f fd) :
    FnOk P w K mg base CX0 2 f fd ["_law_board_here", "_law_movers"] (spD K preLSh) :=
  fn_d F sc58 (fun ds d ⟨b, m, t, _, _, e, _⟩ => by rw [e]; rfl) fun X C ds d ⟨b, m, t, ok, hm, e1, e2⟩ => by
    subst e1 e2
    have n2 := ok.n2
    refine xss_one (xs_ret (xe_ixL (XE.r (xe_call C.toCxt FR (xa_cons (xe_var C.toCxt 0 rfl) (xa_cons (xe_call C.toCxt FC (xa_cons (xe_var C.toCxt 0 rfl) (xa_cons (xe_var C.toCxt 1 rfl) xa_nil)) ⟨b, m, t, ok, hm, rfl, rfl⟩) (xa_cons xe_int (xa_cons xe_bl xa_nil)))) ⟨b, clC b m, 0, true, ok, clC_ok ok _, by omega, rfl, rfl⟩)) xe_int (g1_at (i := 1) (by rw [lawR_len ok]; omega))) ?_)
    rw [fed_law ok (m, false) (by omega)]
    rfl
def preLFi (ds : List D) (d : D) : Prop := ∃ b : Bd, b.Ok ∧ ds = [dLB b] ∧ d = dSv (firstN b)
theorem ok_lfi (FS : Kn P w K mg base "_law_is_short" 2 preLSh) (mt : mg "tuple" = none) (F : FunD K "_law_first" "_law_first" (defArgs (top 59)) (defBody (top 59)) (defScope (top 59)) [] [] f fd) : FnOk P w K mg base CX0 3 f fd ["_law_board_here"] (spD K preLFi) :=
  fn_d F sc59 (fun ds d ⟨b, _, e, _⟩ => by rw [e]; rfl) fun X C ds d ⟨b, ok, e1, e2⟩ => by
    subst e1 e2
    have sw := ok.sw
    have s2 := ok.s2
    have r3 := ok.r3
    refine xss_cons (xs_asg C 1 (d := .tup ((List.replicate b.mvs.length false).map dB)) (xe_tupL C.toCxt mt (XN.r (xn_lc (own := [("_law_name", 2)]) C.toCxt ⟨by decide +kernel, Str, b.mvs, dS, fun x => [.im (dLB b), .un, .im (dS x)], fun _ => true, fun _ => dB false, ?_, ?_, ?_, fun X' C' x hx => ⟨⟨[2], fun i hi => hi, xtg_name C' 2⟩, xf_nil, fun _ => xe_bl⟩⟩))) ?_)
    · rw [List.filter_eq_self.mpr fun _ _ => rfl, List.map_replicate, List.map_const']
    · exact xi_list (lb1 (xe_var C.toCxt 0 rfl))
    · omega
    exact xss_one (xs_ret (xe_tup2 (xe_var C.toCxt 1 rfl) (xe_call C.toCxt FS (xa_cons (xe_var C.toCxt 0 rfl) (xa_cons (xe_var C.toCxt 1 rfl) xa_nil)) ⟨b, List.replicate b.mvs.length false, true, ok, List.length_replicate, rfl, rfl⟩)) rfl)
def preLDu (ds : List D) (d : D) : Prop := ∃ (b : Bd) (s : Sv), b.Ok ∧ StOk b s ∧ ds = [dLB b, dSv s] ∧ d = .lst (dNat (dueN b s))
theorem ok_ldu (FL : Kn P w K mg base "_law_live" 2 preLLi) (mr : mg "range" = none) (ml : mg "len" = none) (F : FunD K "_law_due" "_law_due" (defArgs (top 60)) (defBody (top 60)) (defScope (top 60)) [] [] f fd) : FnOk P w K mg base CX0 3 f fd ["_law_board_here", "_law_state"] (spD K preLDu) :=
  fn_d F sc60 (fun ds d ⟨b, s, _, _, e, _⟩ => by rw [e]; rfl) fun X C ds d ⟨b, s, ok, sk, e1, e2⟩ => by
    subst e1 e2
    have r3 := ok.r3
    have sw := ok.sw
    have ll : (liveB b s).length = b.rel.length := by unfold liveB; rw [List.length_map, List.length_range]
    have hm : s.1.length = b.mvs.length := sk
    refine xss_cons (xs_asg C 2 (d := .lst ((liveB b s).map dB)) (xe_call C.toCxt FL (xa_cons (xe_var C.toCxt 0 rfl) (xa_cons (xe_var C.toCxt 1 rfl) (xa_cons (lb3 (xe_var C.toCxt 0 rfl)) xa_nil))) ⟨b, s, ok, sk, rfl, rfl⟩) ?_)
    refine xss_one (xs_ret (XN.toE (xn_lc (own := [("_law_k", 3)]) C.toCxt ⟨by decide +kernel, Nat, List.range b.rel.length, fun (j : Nat) => dI (j : Int), fun j => [.im (dLB b), .im (dSv s), .im (.lst ((liveB b s).map dB)), .im (dI (j : Int))], dueK b s, fun j => dI (((b.nsw + j : Nat) : Int)), rfl, ?_, ?_, fun X' C' j hj => ⟨⟨[3], fun i hi => hi, xtg_name C' 3⟩, ?_, fun _ => (xe_add (lb2 (xe_var C' 0 rfl)) (xe_var C' 3 rfl)).is (dI_eq (Int.natCast_add _ _).symm)⟩⟩)) ?_)
    · exact XI.is (xi_range (n := ((b.rel.length : Nat) : Int)) C.toCxt mr ((xe_lenL C.toCxt ml (XE.r (xe_var C.toCxt 2 rfl))).is (dI_eq (by rw [List.length_map, ll]))) (by omega) (by omega)) (by unfold rngD; rw [Int.toNat_natCast])
    · rw [List.length_range]; omega
    · have hj := List.mem_range.mp hj
      refine xf_one ((xt_cmp (xc_ne (u := .bl _) (v := .bl _) (xe_ixL (XE.r (xe_var C' 2 rfl)) (xe_var C' 3 rfl) (atI_map dB false (by omega))) (xe_ixT (xe_pos (xe_var C' 1 rfl)) ((xe_add (lb2 (xe_var C' 0 rfl)) (xe_var C' 3 rfl)).is (dI_eq (Int.natCast_add _ _).symm)) (atI_map dB false (by omega))) rfl)).is ?_)
      rw [bl_eq, liveB_at hj]
      unfold dueK
      cases s.1.getD (b.nsw + j) false <;> cases decide (b.nsw + j ∈ liveL b s) <;> rfl
    · unfold dNat dueN
      rw [List.map_map]
      rfl
def preLSt (ds : List D) (d : D) : Prop := ∃ (b : Bd) (s : Sv) (i : Nat), b.Ok ∧ StOk b s ∧ i < b.mvs.length ∧ ds = [dLB b, dSv s, dI (i : Int)] ∧ d = dSv (stepN b s i)
theorem ok_lst (FS : Kn P w K mg base "_law_is_short" 2 preLSh) (mt : mg "tuple" = none) (mi : mg "list" = none) (F : FunD K "_law_step" "_law_step" (defArgs (top 61)) (defBody (top 61)) (defScope (top 61)) [] [] f fd) :
    FnOk P w K mg base CX0 3 f fd ["_law_board_here", "_law_state", "_law_place"] (spD K preLSt) :=
  fn_d F sc61 (fun ds d ⟨b, s, i, _, _, _, e, _⟩ => by rw [e]; rfl) fun X C ds d ⟨b, s, i, ok, sk, hi, e1, e2⟩ => by
    subst e1 e2
    obtain rfl : X.K = K := C.eK
    have hm : s.1.length = b.mvs.length := sk
    refine xss_cons (xs_asgN C 3 (xn_listT C.toCxt mi (xe_pos (xe_var C.toCxt 1 rfl))) ?_)
    refine xss_cons (xs_setL C 3 rfl (xe_not (xe_ixL (xr_var C.toCxt 3 rfl) (xe_var C.toCxt 2 rfl) (atI_map dB false (by omega)))) (xe_var C.toCxt 2 rfl) (n := i) (by rw [List.length_map]; exact ixN_nat (by omega)) ?_)
    have e : (s.1.map dB).set i (dB (!s.1.getD i false)) = (flipN s.1 i).map dB := List.map_set.symm
    rw [e]
    refine xss_freeze 3 rfl ?_
    exact xss_one (xs_ret (xe_tup2 (xe_tupL C.toCxt mt (XE.r (xe_var C.toCxt 3 rfl))) (xe_or2 (xe_fuse (s := s) (xe_var C.toCxt 1 rfl)) fun _ => xe_call C.toCxt FS (xa_cons (xe_var C.toCxt 0 rfl) (xa_cons (xe_var C.toCxt 3 rfl) xa_nil)) ⟨b, flipN s.1 i, false, ok, (flip_len _ _).trans hm, rfl, rfl⟩)) rfl)
def preLPl (ds : List D) (d : D) : Prop := ∃ (b : Bd) (s : Sv) (h : Nat), b.Ok ∧ StOk b s ∧ ds = [dLB b, dSv s, dI (h : Int)] ∧ d = .lst (dNat (plN b s h))
theorem ok_lpl (FD : Kn P w K mg base "_law_due" 3 preLDu) (mr : mg "range" = none) (ml : mg "len" = none) (F : FunD K "_law_places" "_law_places" (defArgs (top 62)) (defBody (top 62)) (defScope (top 62)) [] [] f fd) :
    FnOk P w K mg base CX0 4 f fd ["_law_board_here", "_law_state", "_law_hurry"] (spD K preLPl) :=
  fn_d F sc62 (fun ds d ⟨b, s, h, _, _, e, _⟩ => by rw [e]; rfl) fun X C ds d ⟨b, s, h, ok, sk, e1, e2⟩ => by
    subst e1 e2
    have s2 := ok.s2
    have r3 := ok.r3
    have dl := due_len (b := b) s
    refine xss_cons (xs_asg C 3 (d := .lst (dNat (dueN b s))) (xe_call C.toCxt FD (xa_cons (xe_var C.toCxt 0 rfl) (xa_cons (xe_var C.toCxt 1 rfl) xa_nil)) ⟨b, s, ok, sk, rfl, rfl⟩) ?_)
    refine xss_cons (xs_if ((xt_cmp (xc_le (xe_lenL C.toCxt ml (XE.r (xe_var C.toCxt 3 rfl))) (xe_var C.toCxt 2 rfl))).is (d' := decide ((dueN b s).length ≤ h)) ?_) (fun q => xss_one (xs_ret (d := .lst (dNat (List.range b.nsw) ++ dNat (dueN b s))) (XN.toE (xn_cat (XN.r (xn_lc (own := [("_law_k", 4)]) C.toCxt ⟨by decide +kernel, Nat, List.range b.nsw, fun (j : Nat) => dI (j : Int), fun j => [.im (dLB b), .im (dSv s), .im (dI (h : Int)), .im (.lst (dNat (dueN b s))), .im (dI (j : Int))], fun _ => true, fun (j : Nat) => dI (j : Int), ?_, ?_, ?_, fun X' C' j hj => ⟨⟨[4], fun i hi => hi, xtg_name C' 4⟩, xf_nil, fun _ => xe_var C' 4 rfl⟩⟩)) (XE.r (xe_var C.toCxt 3 rfl)) ?_)) ?_)) fun q => xss_nil ?_)
    · rw [dNat_len]
      exact decide_eq_decide.mpr Int.ofNat_le
    · rw [List.filter_eq_self.mpr fun _ _ => rfl]; rfl
    · exact XI.is (xi_range C.toCxt mr (lb2 (xe_var C.toCxt 0 rfl)) (by omega) (by omega)) (by unfold rngD; rw [Int.toNat_natCast])
    · rw [List.length_range]; omega
    · rw [dNat_len, dNat_len, List.length_range]; omega
    · unfold plN
      rw [if_pos (of_decide_eq_true q)]
      unfold dNat
      rw [List.map_append]
    · refine xss_one (xs_ret (xe_var C.toCxt 3 rfl) ?_)
      unfold plN
      rw [if_neg (of_decide_eq_false q)]
def preLMo (ds : List D) (d : D) : Prop := ∃ (b : Bd) (i : Nat), b.Ok ∧ i < b.mvs.length ∧ ds = [dLB b, dI (i : Int)] ∧ d = dMo b (decide (b.nsw ≤ i), i)
theorem ok_lmo (mi : mg "int" = none) (F : FunD K "_law_move" "_law_move" (defArgs (top 63)) (defBody (top 63)) (defScope (top 63)) [] [] f fd) : FnOk P w K mg base CX0 1 f fd ["_law_board_here", "_law_place"] (spD K preLMo) :=
  fn_d F sc63 (fun ds d ⟨b, i, _, _, e, _⟩ => by rw [e]; rfl) fun X C ds d ⟨b, i, ok, hi, e1, e2⟩ => by
    subst e1 e2
    refine xss_one (xs_ret (xe_tup2 (xe_ixL (d := dS (kindS (decide (b.nsw ≤ i)))) (XN.r (xn_lst (xa_cons xe_str (xa_cons xe_str xa_nil)) (by simp))) (xe_intB (c := decide (b.nsw ≤ i)) C.toCxt mi ((xe_cmp (xc_ge (xe_var C.toCxt 1 rfl) (lb2 (xe_var C.toCxt 0 rfl)))).is (congrArg dB (decide_eq_decide.mpr Int.ofNat_le)))) ?_) (xe_ixL (XE.r (lb1 (xe_var C.toCxt 0 rfl))) (xe_var C.toCxt 1 rfl) (atI_map dS ⟨#[]⟩ hi))) rfl)
    cases decide (b.nsw ≤ i) <;> rfl

def dPl (b : Bd) (q : Pl) : D := .tup [dSv q.1, .lst (q.2.map (dMo b))]
def preLDr (ds : List D) (d : D) : Prop := ∃ (b : Bd) (l : List Nat) (i m h : Nat), b.Ok ∧ i + m ≤ l.length ∧ m ≤ 100 ∧ ds = [dLB b, .lst (dNat l), dI (i : Int), dI (m : Int), dI (h : Int)] ∧ d = dPl b (drawnN b l i m h)
theorem ok_ldr (F1 : Kn P w K mg base "_law_first" 3 preLFi) (FP : Kn P w K mg base "_law_places" 4 preLPl) (FK : Kn P w K mg base "_law_pick" 1 prePick) (FM : Kn P w K mg base "_law_move" 1 preLMo) (FS : Kn P w K mg base "_law_step" 3 preLSt) (mr : mg "range" = none) (ml : mg "len" = none)
    (F : FunD K "_law_drawn" "_law_drawn" (defArgs (top 64)) (defBody (top 64)) (defScope (top 64)) [] [] f fd) : FnOk P w K mg base CX0 5 f fd ["_law_board_here", "_law_numbers_here", "_law_at", "_law_many", "_law_hurry"] (spD K preLDr) :=
  fn_d F sc64 (fun ds d ⟨b, l, i, m, h, _, _, _, e, _⟩ => by rw [e]; rfl) fun X C ds d ⟨b, l, i, m, h, ok, hl, hm, e1, e2⟩ => by
    subst e1 e2
    obtain rfl : X.K = K := C.eK
    refine xss_cons (xs_asg C 5 (d := dSv (firstN b)) (xe_call C.toCxt F1 (xa_cons (xe_var C.toCxt 0 rfl) xa_nil) ⟨b, ok, rfl, rfl⟩) ?_)
    refine xss_cons (xs_asgN C 6 xn_nil ?_)
    refine xss_cons (xs_for C (XI.is (xi_range C.toCxt mr (xe_var C.toCxt 3 rfl) (by omega) (by omega)) (show _ = (List.range m).map fun (j : Nat) => dI (j : Int) by unfold rngD; rw [Int.toNat_natCast]))
      (fun j G1 => ∃ q : Pl, q = (List.range j).foldl (dstep b l i h) (firstN b, []) ∧ G1 = [.im (dLB b), .im (.lst (dNat l)), .im (dI (i : Int)), .im (dI (m : Int)), .im (dI (h : Int)), .im (dSv q.1), .ml X.K (q.2.map (dMo b)), .un, .un, .un]) ⟨_, rfl, rfl⟩ ?_ ?_)
    · rintro j d G1 hd ⟨q, eq, rfl⟩
      have hj : j < m := by
        have := (List.getElem?_eq_some_iff.mp hd).1
        rwa [List.length_map, List.length_range] at this
      rw [List.getElem?_map, List.getElem?_range hj] at hd
      cases hd
      have sq : StOk b q.1 := by rw [eq]; exact drawn_ok _ _ (first_ok b)
      have lq : q.2.length ≤ j := by
        have := drawn_len (b := b) (l := l) (i := i) (h := h) (List.range j) (firstN b, [])
        rw [← eq, List.length_range] at this
        simpa using this
      have next : (List.range (j + 1)).foldl (dstep b l i h) (firstN b, []) = dstep b l i h q j := by rw [List.range_succ, List.foldl_append, ← eq]; rfl
      refine ⟨_, _, xtg_name C.toCxt 7, xss_cons (xs_asg C 8 (d := .lst (dNat (plN b q.1 h))) (xe_call C.toCxt FP (xa_cons (xe_var C.toCxt 0 rfl) (xa_cons (xe_var C.toCxt 5 rfl) (xa_cons (xe_var C.toCxt 4 rfl) xa_nil))) ⟨b, q.1, h, ok, sq, rfl, rfl⟩) ?_)⟩
      refine xss_one (xs_if ((xt_cmp (xc_gt (xe_lenL C.toCxt ml (XE.r (xe_var C.toCxt 8 rfl))) xe_int)).is (d' := decide (0 < (plN b q.1 h).length)) ?_) (fun z => ?_) fun z => xss_nil ⟨_, .keep (.keep (.keep (.keep (.keep (.keep (.keep (.drop (.drop (.keep .nil))))))))), q, ?_, rfl⟩)
      · rw [dNat_len]
        exact decide_eq_decide.mpr ⟨fun y => by omega, fun y => by omega⟩
      · have z := of_decide_eq_true z
        have pl := pk_lt (l := l) (i := i + j) (c := (plN b q.1 h).length) z
        obtain ⟨pc, epc⟩ : ∃ pc, pc = (plN b q.1 h).getD (pk l (i + j) (plN b q.1 h).length) 0 := ⟨_, rfl⟩
        have pcl : pc < b.mvs.length := by rw [epc, getD_el _ pl]; exact plN_lt ok _ (List.getElem_mem pl)
        have e3 : dstep b l i h q j = (stepN b q.1 pc, q.2 ++ [(decide (b.nsw ≤ pc), pc)]) := by unfold dstep; rw [if_pos z, ← epc]
        refine xss_cons (xs_asg C 9 (d := dI (pc : Int)) (xe_ixL (XE.r (xe_var C.toCxt 8 rfl)) (xe_call (d := dI ((pk l (i + j) (plN b q.1 h).length : Nat) : Int)) C.toCxt FK (xa_cons (xe_var C.toCxt 1 rfl) (xa_cons ((xe_add (xe_var C.toCxt 2 rfl) (xe_var C.toCxt 7 rfl)).is (dI_eq (Int.natCast_add _ _).symm)) (xa_cons ((xe_lenL C.toCxt ml (XE.r (xe_var C.toCxt 8 rfl))).is (dI_eq (by rw [dNat_len]))) xa_nil))) ⟨l, i + j, _, by omega, z, rfl, rfl⟩) (by rw [epc]; exact dNat_at pl)) ?_)
        refine xss_cons (xs_app C 6 rfl (xe_call (d := dMo b (decide (b.nsw ≤ pc), pc)) C.toCxt FM (xa_cons (xe_var C.toCxt 0 rfl) (xa_cons (xe_var C.toCxt 9 rfl) xa_nil)) ⟨b, pc, ok, pcl, rfl, rfl⟩) (by rw [List.length_map]; omega) ?_)
        refine xss_one (xs_asg C 5 (d := dSv (stepN b q.1 pc)) (xe_call C.toCxt FS (xa_cons (xe_var C.toCxt 0 rfl) (xa_cons (xe_var C.toCxt 5 rfl) (xa_cons (xe_var C.toCxt 9 rfl) xa_nil))) ⟨b, q.1, pc, ok, sq, pcl, rfl, rfl⟩) ⟨_, .keep (.keep (.keep (.keep (.keep (.keep (.keep (.drop (.drop (.drop .nil))))))))), dstep b l i h q j, next.symm, ?_⟩)
        rw [e3]
        show _ = [_, _, _, _, _, _, Sl.ml X.K ((q.2 ++ [(decide (b.nsw ≤ pc), pc)]).map (dMo b)), _, _, _]
        rw [List.map_append]
        rfl
      · have z := of_decide_eq_false z
        rw [next]
        unfold dstep
        rw [if_neg z]
    · rintro G1 ⟨q, eq, rfl⟩
      rw [List.length_map, List.length_range] at eq
      refine xss_freeze 6 rfl (xss_one (xs_ret (xe_tup2 (xe_var C.toCxt 5 rfl) (xe_var C.toCxt 6 rfl)) ?_))
      rw [eq]
      rfl
def preLAl (ds : List D) (d : D) : Prop := ∃ (b : Bd) (l : List Nat), b.Ok ∧ l.length = 76 ∧ ds = [dLB b, .lst (dNat l), dI 51] ∧ d = .lst (dTab (allT b l 51))
theorem pow_at {m : Nat} (h : m ≤ 5) : atI [dI 1, dI 2, dI 4, dI 8, dI 16, dI 32] (m : Int) = some (dI ((2 ^ m : Nat) : Int)) := by
  rw [atI_nat]
  have : m = 0 ∨ m = 1 ∨ m = 2 ∨ m = 3 ∨ m = 4 ∨ m = 5 := by omega
  rcases this with z | z | z | z | z | z <;> rw [z] <;> rfl
theorem pow_at4 {m : Nat} (h : m < 5) : atI [dI 1, dI 2, dI 4, dI 8, dI 16] (m : Int) = some (dI ((2 ^ m : Nat) : Int)) := by
  rw [atI_nat]
  have : m = 0 ∨ m = 1 ∨ m = 2 ∨ m = 3 ∨ m = 4 := by omega
  rcases this with z | z | z | z | z <;> rw [z] <;> rfl
theorem ok_lal (FS : Kn P w K mg base "_law_is_short" 2 preLSh) (mr : mg "range" = none) (ml : mg "len" = none) (mt : mg "tuple" = none) (mi : mg "int" = none) (F : FunD K "_law_all_states" "_law_all_states" (defArgs (top 65)) (defBody (top 65)) (defScope (top 65)) [] [] f fd) :
    FnOk P w K mg base CX0 3 f fd ["_law_board_here", "_law_numbers_here", "_law_at"] (spD K preLAl) :=
  fn_d F sc65 (fun ds d ⟨b, l, _, _, e, _⟩ => by rw [e]; rfl) fun X C ds d ⟨b, l, ok, hl, e1, e2⟩ => by
    subst e1 e2
    obtain rfl : X.K = K := C.eK
    have sw := ok.sw
    have s2 := ok.s2
    have r3 := ok.r3
    have m5 : b.mvs.length ≤ 5 := by omega
    have p32 : 2 ^ b.mvs.length ≤ 32 := Nat.le_trans (Nat.pow_le_pow_right (by decide) m5) (by decide)
    refine xss_cons (xs_asgN C 3 xn_nil ?_)
    refine xss_cons (xs_for C (XI.is (xi_range (n := 32) C.toCxt mr ((xe_pow xe_int xe_int ⟨by decide, by decide, by decide⟩).is (dI_eq (by decide))) (by omega) (by omega)) (show _ = (List.range 32).map fun (j : Nat) => dI (j : Int) from rfl))
      (fun j G1 => G1 = [.im (dLB b), .im (.lst (dNat l)), .im (dI 51), .ml X.K (dTab ((List.range j).flatMap (rowT b l 51))), .un, .un, .un, .un]) rfl ?_ ?_)
    · rintro j d G1 hd rfl
      have hj : j < 32 := by
        have := (List.getElem?_eq_some_iff.mp hd).1
        rwa [List.length_map, List.length_range] at this
      rw [List.getElem?_map, List.getElem?_range hj] at hd
      cases hd
      have next : (List.range (j + 1)).flatMap (rowT b l 51) = (List.range j).flatMap (rowT b l 51) ++ rowT b l 51 j := by rw [List.range_succ, List.flatMap_append, List.flatMap_cons, List.flatMap_nil, List.append_nil]
      have fl := flatMap_len (rowT_len b l 51) (List.range j)
      rw [List.length_range] at fl
      have dl : (dTab ((List.range j).flatMap (rowT b l 51))).length = ((List.range j).flatMap (rowT b l 51)).length := List.length_map _
      refine ⟨_, _, xtg_nameD C 4, xss_one (xs_if (bb := decide (j < 2 ^ b.mvs.length)) ((xt_cmp (xc_lt (xe_var C.toCxt 4 rfl) (xe_ixL (XN.r (xn_lst (xa_cons xe_int (xa_cons xe_int (xa_cons xe_int (xa_cons xe_int (xa_cons xe_int (xa_cons xe_int xa_nil)))))) (by simp))) ((xe_lenL C.toCxt ml (XE.r (lb1 (xe_var C.toCxt 0 rfl)))).is (dI_eq (by rw [List.length_map]))) (pow_at m5)))).is (decide_eq_decide.mpr Int.ofNat_lt)) (fun z => ?_) fun z => xss_nil ⟨_, .keep (.keep (.keep (.keep (.drop (.keep (.keep (.keep .nil))))))), ?_⟩)⟩
      · have z := of_decide_eq_true z
        refine xss_cons (xs_asg C 5 (d := .tup ((bitsN b.mvs.length j).map dB)) (xe_tupL C.toCxt mt (XN.r (xn_lc (own := [("_law_k", 7)]) C.toCxt ⟨by decide +kernel, Nat, List.range b.mvs.length, fun (k : Nat) => dI (k : Int), fun k => [.im (dLB b), .im (.lst (dNat l)), .im (dI 51), .ml X.K (dTab ((List.range j).flatMap (rowT b l 51))), .im (dI (j : Int)), .un, .un, .im (dI (k : Int))], fun _ => true, fun k => dB (bitN j k), ?_, ?_, ?_, fun X' C' k hk => ⟨⟨[7], fun i hi => hi, xtg_name C' 7⟩, xf_nil, fun _ => ?_⟩⟩))) ?_)
        · rw [List.filter_eq_self.mpr fun _ _ => rfl]
          unfold bitsN
          rw [List.map_map]; rfl
        · exact XI.is (xi_range (n := ((b.mvs.length : Nat) : Int)) C.toCxt mr ((xe_lenL C.toCxt ml (XE.r (lb1 (xe_var C.toCxt 0 rfl)))).is (dI_eq (by rw [List.length_map]))) (by omega) (by omega)) (by unfold rngD; rw [Int.toNat_natCast])
        · rw [List.length_range]; omega
        · have hk := List.mem_range.mp hk
          have k32 : 2 ^ k ≤ 32 := Nat.le_trans (Nat.pow_le_pow_right (by decide) (show k ≤ 5 by omega)) (by decide)
          have k0 : 0 < 2 ^ k := Nat.pow_pos (by decide)
          refine (xe_cmp (xc_eq (xe_mod (xe_intI C' mi (xe_fdiv (xe_var C' 4 rfl) (xe_ixL (XN.r (xn_lst (xa_cons xe_int (xa_cons xe_int (xa_cons xe_int (xa_cons xe_int (xa_cons xe_int xa_nil))))) (by simp))) (xe_var C' 7 rfl) (pow_at4 (by omega))) ⟨by omega, by omega⟩)) xe_int (by decide)) xe_int rfl)).is (congrArg dB ?_)
          unfold bitN
          refine decide_eq_decide.mpr ⟨fun e => ?_, fun e => ?_⟩
          · have e := V.int.inj e
            rw [← Int.natCast_ediv] at e
            omega
          · refine congrArg V.int ?_
            rw [← Int.natCast_ediv]
            omega
        refine xss_cons (xs_asg C 6 (d := dI ((intN l 51 j : Nat) : Int)) ((xe_mod (xe_intI C.toCxt mi (xe_add (xe_ixL (XE.r (xe_var C.toCxt 1 rfl)) (xe_var C.toCxt 2 rfl) (dNat_at (i := 51) (by omega))) (xe_mul (xe_var C.toCxt 4 rfl) (xe_add xe_int (xe_ixL (XE.r (xe_var C.toCxt 1 rfl)) ((xe_add (xe_var C.toCxt 2 rfl) xe_int).is (show dI (51 + 1) = dI ((52 : Nat) : Int) from rfl)) (dNat_at (i := 52) (by omega)))) (.inl ⟨by omega, by omega⟩)))) xe_int (by decide)).is (dI_eq ?_)) ?_)
        · unfold intN
          push_cast
          rfl
        have sk := bits_len b.mvs.length j
        refine xss_cons (xs_app C 3 rfl (d := .tup [dSv (bitsN b.mvs.length j, shortN b (bitsN b.mvs.length j, false)), dI ((intN l 51 j : Nat) : Int)]) (xe_tup2 (xe_tup2 (xe_var C.toCxt 5 rfl) (xe_call C.toCxt FS (xa_cons (xe_var C.toCxt 0 rfl) (xa_cons (xe_var C.toCxt 5 rfl) xa_nil)) ⟨b, bitsN b.mvs.length j, true, ok, sk, rfl, rfl⟩)) (xe_var C.toCxt 6 rfl)) (by omega) ?_)
        refine xss_one (xs_app C 3 rfl (d := .tup [dSv (bitsN b.mvs.length j, true), dI ((intN l 51 j : Nat) : Int)]) (xe_tup2 (xe_tup2 (xe_var C.toCxt 5 rfl) xe_bl) (xe_var C.toCxt 6 rfl)) (by rw [List.length_append, List.length_singleton]; omega) ⟨_, .keep (.keep (.keep (.keep (.drop (.drop (.drop (.keep .nil))))))), ?_⟩)
        have e3 : dTab ((List.range (j + 1)).flatMap (rowT b l 51)) = dTab ((List.range j).flatMap (rowT b l 51)) ++ [.tup [dSv (bitsN b.mvs.length j, shortN b (bitsN b.mvs.length j, false)), dI ((intN l 51 j : Nat) : Int)]] ++ [.tup [dSv (bitsN b.mvs.length j, true), dI ((intN l 51 j : Nat) : Int)]] := by
          rw [next]
          unfold rowT
          rw [if_pos z]
          unfold dTab
          rw [List.map_append, List.append_assoc]
          rfl
        rw [e3]
      · have z := of_decide_eq_false z
        have e3 : rowT b l 51 j = [] := if_neg z
        rw [next, e3, List.append_nil]
    · rintro G1 rfl
      rw [List.length_map, List.length_range]
      exact xss_freeze 3 rfl (xss_one (xs_ret (xe_var C.toCxt 3 rfl) rfl))
end
end DL

namespace DL

theorem note_mem {ss : List Sv} {s t : Sv} : t ∈ noteS ss s ↔ t ∈ ss ∨ t = s := by
  unfold noteS
  split
  · rename_i h
    exact ⟨.inl, fun z => z.elim id fun z => by rw [z]; exact h⟩
  · rw [List.mem_append, List.mem_singleton]
theorem noteM_mem {b : Bd} {s t : Sv} : ∀ {ms : List (Bool × Nat)} {ss : List Sv}, t ∈ ms.foldl (noteM b s) ss ↔ t ∈ ss ∨ ∃ m ∈ ms, t = stepN b s m.2
  | [], ss => by simp
  | m :: ms, ss => by
    rw [List.foldl_cons, noteM_mem]
    unfold noteM
    rw [note_mem]
    constructor
    · rintro ((h | h) | ⟨k, h1, h2⟩)
      · exact .inl h
      · exact .inr ⟨m, List.mem_cons_self, h⟩
      · exact .inr ⟨k, List.mem_cons_of_mem _ h1, h2⟩
    · rintro (h | ⟨k, h1, h2⟩)
      · exact .inl (.inl h)
      · rcases List.mem_cons.mp h1 with z | z
        · exact .inl (.inr (by rw [h2, z]))
        · exact .inr ⟨k, z, h2⟩
theorem exploreF_closed {b : Bd} (ok : b.Ok) {h : Nat} : ∀ (n : Nat) (ss : List Sv) (p : Nat), 64 ≤ n + p → SvL b ss → (∀ s ∈ ss.take p, ∀ m ∈ mvL b s h, stepN b s m.2 ∈ ss) →
    ∀ s ∈ exploreF b h n ss p, ∀ m ∈ mvL b s h, stepN b s m.2 ∈ exploreF b h n ss p := by
  intro n
  induction n with
  | zero =>
    intro ss p hn hs hc
    have := hs.len ok
    rw [List.take_of_length_le (by omega)] at hc
    exact hc
  | succ n ih =>
    intro ss p hn hs hc
    unfold exploreF
    cases q : ss[p]? with
    | none =>
      rw [List.take_of_length_le (List.getElem?_eq_none_iff.mp q)] at hc
      exact hc
    | some x =>
      have hx := List.mem_of_getElem? q
      have hl := (List.getElem?_eq_some_iff.mp q).1
      obtain ⟨r, er⟩ := noteM_pre b x (mvL b x h) ss
      refine ih _ (p + 1) (by omega) (SvL.fold (hs.2 x hx) hs) fun s hsm m hm => ?_
      rw [er, List.take_append_of_le_length (by omega), take_snoc q] at hsm
      rcases List.mem_append.mp hsm with z | z
      · exact noteM_mem.mpr (.inl (hc s z m hm))
      · rw [List.mem_singleton.mp z] at hm ⊢
        exact noteM_mem.mpr (.inr ⟨m, hm, rfl⟩)
theorem explore_closed {b : Bd} (ok : b.Ok) (h : Nat) : ∀ s ∈ exploreN b h, ∀ m ∈ mvL b s h, stepN b s m.2 ∈ exploreN b h :=
  exploreF_closed ok 64 [firstN b] 0 (by omega) ⟨by simp, fun s hs => by rw [List.mem_singleton.mp hs]; exact first_ok b⟩ fun s hs => by rw [List.take_zero] at hs; cases hs
theorem exploreF_all {b : Bd} {h : Nat} {p : Sv → Prop} (hp : ∀ s i, p s → p (stepN b s i)) : ∀ (n : Nat) (ss : List Sv) (k : Nat), (∀ s ∈ ss, p s) → ∀ s ∈ exploreF b h n ss k, p s := by
  intro n
  induction n with
  | zero => intro ss k hs; exact hs
  | succ n ih =>
    intro ss k hs
    unfold exploreF
    cases q : ss[k]? with
    | none => exact hs
    | some x =>
      refine ih _ _ fun s hs2 => ?_
      rcases noteM_mem.mp hs2 with z | ⟨m, _, z⟩
      · exact hs s z
      · rw [z]; exact hp x _ (hs x (List.mem_of_getElem? q))
theorem exploreF_sub {b : Bd} {h : Nat} : ∀ (n : Nat) (ss : List Sv) (k : Nat), ∀ s ∈ ss, s ∈ exploreF b h n ss k := by
  intro n
  induction n with
  | zero => intro ss k s hs; exact hs
  | succ n ih =>
    intro ss k s hs
    unfold exploreF
    cases q : ss[k]? with
    | none => exact hs
    | some x => exact ih _ _ s (noteM_mem.mpr (.inl hs))
def Valid (b : Bd) (s : Sv) : Prop := s.2 = true ∨ shortN b s = false
theorem valid_first (b : Bd) : Valid b (firstN b) := by
  unfold Valid
  cases e : (firstN b).2 with
  | true => exact .inl rfl
  | false =>
    refine .inr ?_
    have e2 : shortN b (List.replicate b.mvs.length false, false) = false := e
    exact e2
theorem valid_step (b : Bd) (s : Sv) (i : Nat) : Valid b (stepN b s i) := by
  unfold Valid
  cases e : (stepN b s i).2 with
  | true => exact .inl rfl
  | false =>
    refine .inr ?_
    have e2 : (s.2 || shortN b (flipN s.1 i, s.2)) = false := e
    exact (Bool.or_eq_false_iff.mp e2).2
theorem explore_valid (b : Bd) (h : Nat) : ∀ s ∈ exploreN b h, Valid b s := exploreF_all (p := Valid b) (fun s i _ => valid_step b s i) 64 [firstN b] 0 fun s hs => by rw [List.mem_singleton.mp hs]; exact valid_first b
theorem explore_first (b : Bd) (h : Nat) : firstN b ∈ exploreN b h := exploreF_sub 64 [firstN b] 0 _ (by simp)
theorem rel_mv {b : Bd} {s : Sv} {h i : Nat} (hi : i ∈ dueN b s) : (true, i) ∈ mvL b s h := List.mem_append_right _ (List.mem_map.mpr ⟨i, hi, rfl⟩)
theorem mv_rel {b : Bd} {s : Sv} {h : Nat} {m : Bool × Nat} (hm : m ∈ mvL b s h) (h1 : m.1 = true) : m.2 ∈ dueN b s := by
  rcases List.mem_append.mp hm with z | z
  · split at z
    · obtain ⟨i, _, e⟩ := List.mem_map.mp z
      rw [← e] at h1
      cases h1
    · cases z
  · obtain ⟨i, hi, e⟩ := List.mem_map.mp z
    rw [← e]
    exact hi
theorem explore_clr {b : Bd} (ok : b.Ok) (h : Nat) : ClR b (exploreN b h) := fun s hs t ht => by
  obtain ⟨i, hi, rfl⟩ := List.mem_map.mp ht
  exact explore_closed ok h s hs (true, i) (rel_mv hi)

/-- what the table of least integers says -/
def Lst (T : List (Sv × Int)) (l : Kvs) : Prop := ∀ s, (lkD l s = none → ∀ q ∈ T, q.1 ≠ s) ∧ ∀ v, lkD l s = some v → (s, v) ∈ T ∧ ∀ q ∈ T, q.1 = s → v ≤ q.2
theorem Lst.step {T : List (Sv × Int)} {l : Kvs} (h : Lst T l) (q : Sv × Int) : Lst (T ++ [q]) (lstep l q) := fun s => by
  unfold lstep
  rw [lkD_put]
  by_cases e : s = q.1
  · subst e
    rw [if_pos rfl]
    refine ⟨(fun z => by cases z), fun v hv => ?_⟩
    cases hv
    cases hl : lkD l q.1 with
    | none =>
      have h1 := (h q.1).1 hl
      have em : minP q.2 ((none : Option Int).getD q.2) = q.2 := by unfold minP; rw [Option.getD_none, if_neg (Int.lt_irrefl _)]
      rw [em]
      refine ⟨List.mem_append_right _ (by simp), fun r hr er => ?_⟩
      rcases List.mem_append.mp hr with z | z
      · exact absurd er (h1 r z)
      · rw [List.mem_singleton.mp z]; exact Int.le_refl _
    | some u =>
      obtain ⟨h1, h2⟩ := (h q.1).2 u hl
      rw [Option.getD_some]
      unfold minP
      by_cases c : u < q.2
      · rw [if_pos c]
        refine ⟨List.mem_append_left _ h1, fun r hr er => ?_⟩
        rcases List.mem_append.mp hr with z | z
        · exact h2 r z er
        · rw [List.mem_singleton.mp z]; omega
      · rw [if_neg c]
        refine ⟨List.mem_append_right _ (by simp), fun r hr er => ?_⟩
        rcases List.mem_append.mp hr with z | z
        · have := h2 r z er
          omega
        · rw [List.mem_singleton.mp z]; exact Int.le_refl _
  · rw [if_neg e]
    refine ⟨fun z r hr => ?_, fun v hv => ?_⟩
    · rcases List.mem_append.mp hr with y | y
      · exact (h s).1 z r y
      · rw [List.mem_singleton.mp y]; exact fun w => e w.symm
    · obtain ⟨h1, h2⟩ := (h s).2 v hv
      refine ⟨List.mem_append_left _ h1, fun r hr er => ?_⟩
      rcases List.mem_append.mp hr with y | y
      · exact h2 r y er
      · rw [List.mem_singleton.mp y] at er
        exact absurd er.symm e
theorem lst_fold : ∀ (T S : List (Sv × Int)) (l : Kvs), Lst S l → Lst (S ++ T) (T.foldl lstep l)
  | [], S, l, h => by rw [List.append_nil]; exact h
  | q :: T, S, l, h => by
    have := lst_fold T (S ++ [q]) (lstep l q) (h.step q)
    rw [List.append_assoc] at this
    exact this
theorem lst_ok (T : List (Sv × Int)) : Lst T (leastL T) := by
  have := lst_fold T [] [] fun s => ⟨(fun _ q hq => by cases hq), fun v hv => (by cases hv)⟩
  rw [List.nil_append] at this
  exact this
theorem least_some {T : List (Sv × Int)} {s : Sv} {v : Int} (h : (s, v) ∈ T) : ∃ u, lkD (leastL T) s = some u := by
  cases e : lkD (leastL T) s with
  | none => exact absurd rfl (((lst_ok T) s).1 e _ h)
  | some u => exact ⟨u, rfl⟩
theorem good_of {b : Bd} {h : Nat} {T : List (Sv × Int)} (g : goodB b h T = true) : (∃ v, lkD (leastL T) (firstN b) = some v) ∧ ∀ q ∈ T, ∀ m ∈ mvL b q.1 h, ∃ v, lkD (leastL T) (stepN b q.1 m.2) = some v ∧ (m.1 = true → v < q.2) := by
  unfold goodB at g
  obtain ⟨g1, g2⟩ := Bool.and_eq_true_iff.mp g
  refine ⟨Option.isSome_iff_exists.mp g1, fun q hq m hm => ?_⟩
  have g3 := List.all_eq_true.mp (List.all_eq_true.mp g2 q hq) m hm
  unfold badM at g3
  cases e : lkD (leastL T) (stepN b q.1 m.2) with
  | none => rw [e] at g3; cases g3
  | some v =>
    rw [e] at g3
    refine ⟨v, rfl, fun h1 => ?_⟩
    have g3 : (!(m.1 && decide (q.2 ≤ v))) = true := g3
    rw [h1, Bool.true_and, Bool.not_eq_true'] at g3
    have := of_decide_eq_false g3
    omega
/-- from a state of a table that passed -/
theorem good_at {b : Bd} {h : Nat} {T : List (Sv × Int)} (g : goodB b h T = true) {s : Sv} {u : Int} (hu : lkD (leastL T) s = some u) : ∀ m ∈ mvL b s h, ∃ v, lkD (leastL T) (stepN b s m.2) = some v ∧ (m.1 = true → v < u) :=
  (good_of g).2 (s, u) ((lst_ok T s).2 u hu).1
theorem ranks_good {b : Bd} (ok : b.Ok) {h : Nat} {T : List (Sv × Int)} (e : ranksN (exploreN b h) (tgB b) = some T) : goodB b h T = true ∧ TabOk b T ∧ T.length ≤ 64 ∧ ∀ q ∈ T, 0 ≤ q.2 := by
  have hss := explore_ok b h
  have l64 := hss.len ok
  have hnd : ∀ s ∈ exploreN b h, (tgB b s).Nodup := fun s hs => tg_nodup ok (hss.2 s hs)
  unfold ranksN at e
  by_cases c : (numsN (exploreN b h) (tgB b)).length < (exploreN b h).length
  · rw [if_pos c] at e; cases e
  · rw [if_neg c] at e
    cases e
    obtain ⟨k1, k2, k3⟩ := nums_good hss.1 hnd l64 c
    have mem : ∀ {s : Sv} {v : Int}, (s, v) ∈ (exploreN b h).map (fun s => (s, lk (numsN (exploreN b h) (tgB b)) s)) → s ∈ exploreN b h ∧ v = lk (numsN (exploreN b h) (tgB b)) s := fun hm => by
      obtain ⟨t, ht, z⟩ := List.mem_map.mp hm
      cases z
      exact ⟨ht, rfl⟩
    have all : ∀ s ∈ exploreN b h, (s, lk (numsN (exploreN b h) (tgB b)) s) ∈ (exploreN b h).map (fun s => (s, lk (numsN (exploreN b h) (tgB b)) s)) := fun s hs => List.mem_map.mpr ⟨s, hs, rfl⟩
    refine ⟨?_, fun q hq => ?_, by rw [List.length_map]; exact l64, fun q hq => ?_⟩
    · unfold goodB
      obtain ⟨u, hu⟩ := least_some (all _ (explore_first b h))
      rw [hu]
      show (true && _) = true
      rw [Bool.true_and]
      refine List.all_eq_true.mpr fun q hq => List.all_eq_true.mpr fun m hm => ?_
      obtain ⟨h1, h2⟩ := mem (s := q.1) (v := q.2) hq
      have hc := explore_closed ok h q.1 h1 m hm
      obtain ⟨v, hv⟩ := least_some (all _ hc)
      obtain ⟨h3, _⟩ := mem ((lst_ok _ _).2 v hv).1 |>.symm
      unfold badM
      rw [hv]
      show (!(m.1 && decide (q.2 ≤ v))) = true
      cases hm1 : m.1 with
      | false => rfl
      | true =>
        have lt := k2 q.1 h1 (stepN b q.1 m.2) (List.mem_map.mpr ⟨m.2, mv_rel hm hm1, rfl⟩)
        have h4 := (mem ((lst_ok _ _).2 v hv).1).2
        rw [decide_eq_false (by rw [h2, h4]; omega)]
        rfl
    · obtain ⟨h1, _⟩ := mem (s := q.1) (v := q.2) hq
      exact ⟨hss.2 _ h1, explore_valid b h _ h1⟩
    · obtain ⟨h1, h2⟩ := mem (s := q.1) (v := q.2) hq
      rw [h2]
      exact k3 _ h1
theorem mv_mono {b : Bd} {s : Sv} {h h' : Nat} (hh : h' ≤ h) {m : Bool × Nat} (hm : m ∈ mvL b s h') : m ∈ mvL b s h := by
  unfold mvL at hm ⊢
  rcases List.mem_append.mp hm with z | z
  · refine List.mem_append_left _ ?_
    by_cases c : (dueN b s).length ≤ h'
    · rw [if_pos c] at z
      rw [if_pos (by omega)]
      exact z
    · rw [if_neg c] at z; cases z
  · exact List.mem_append_right _ z
theorem drawn_in {b : Bd} {h h' : Nat} {T : List (Sv × Int)} (g : goodB b h T = true) (hh : h' ≤ h) {l : List Nat} {i : Nat} : ∀ (ks : List Nat) (q : Pl), (∃ u, lkD (leastL T) q.1 = some u) → ∃ u, lkD (leastL T) (ks.foldl (dstep b l i h') q).1 = some u
  | [], _, hu => hu
  | k :: ks, q, ⟨u, hu⟩ => by
    rw [List.foldl_cons]
    refine drawn_in g hh ks _ ?_
    unfold dstep
    by_cases c : 0 < (plN b q.1 h').length
    · rw [if_pos c]
      have pl := pk_lt (l := l) (i := i + k) (c := (plN b q.1 h').length) c
      have hm : (plN b q.1 h').getD (pk l (i + k) (plN b q.1 h').length) 0 ∈ plN b q.1 h' := by rw [getD_el _ pl]; exact List.getElem_mem pl
      rw [plN_mv] at hm
      obtain ⟨m, hm1, hm2⟩ := List.mem_map.mp hm
      obtain ⟨v, hv, _⟩ := good_at g hu m (mv_mono hh hm1)
      refine ⟨v, ?_⟩
      show lkD (leastL T) (stepN b q.1 _) = _
      rw [plN_mv, ← hm2]
      exact hv
    · rw [if_neg c]
      exact ⟨u, hu⟩
theorem drawn_at {b : Bd} {h h' : Nat} {T : List (Sv × Int)} (g : goodB b h T = true) (hh : h' ≤ h) (l : List Nat) (i m : Nat) : ∃ u, lkD (leastL T) (drawnN b l i m h').1 = some u := drawn_in g hh _ _ (good_of g).1
theorem found_ne {T : List (Sv × Int)} {s : Sv} {u : Int} (hu : lkD (leastL T) s = some u) : u ∈ (T.filter fun q => decide (q.1 = s)).map (·.2) ∧ ∀ y ∈ (T.filter fun q => decide (q.1 = s)).map (·.2), u ≤ y := by
  obtain ⟨h1, h2⟩ := (lst_ok T s).2 u hu
  refine ⟨List.mem_map.mpr ⟨(s, u), List.mem_filter.mpr ⟨h1, decide_eq_true rfl⟩, rfl⟩, fun y hy => ?_⟩
  obtain ⟨q, hq, rfl⟩ := List.mem_map.mp hy
  obtain ⟨h3, h4⟩ := List.mem_filter.mp hq
  exact h2 q h3 (of_decide_eq_true h4)
/-- at rest, or lower in the table -/
def RowI (b : Bd) (T : List (Sv × Int)) (v : Int) (j : Nat) (s : Sv) : Prop := dueN b s = [] ∨ ∃ u, lkD (leastL T) s = some u ∧ u ≤ v - (j : Int)
theorem RowI.rest {b : Bd} {T : List (Sv × Int)} {v : Int} {j : Nat} {s : Sv} (hd : dueN b s = []) : RowI b T v (j + 1) s := .inl hd
theorem RowI.move {b : Bd} {h : Nat} {T : List (Sv × Int)} (g : goodB b h T = true) {v : Int} {j : Nat} {s : Sv} {i : Nat} (hi : i ∈ dueN b s) (hr : RowI b T v j s) : RowI b T v (j + 1) (stepN b s i) := by
  rcases hr with z | ⟨u, hu, hl⟩
  · rw [z] at hi; cases hi
  · obtain ⟨w, hw, hlt⟩ := good_at g hu (true, i) (rel_mv hi)
    have hlt := hlt rfl
    exact .inr ⟨w, hw, by omega⟩
theorem RowI.done {b : Bd} {h : Nat} {T : List (Sv × Int)} (g : goodB b h T = true) (hT : ∀ q ∈ T, 0 ≤ q.2) {v : Int} {j : Nat} {s : Sv} (hv : v ≤ j) (hr : RowI b T v j s) : dueN b s = [] := by
  rcases hr with z | ⟨u, hu, hl⟩
  · exact z
  · cases hd : dueN b s with
    | nil => rfl
    | cons i r =>
      obtain ⟨w, hw, hlt⟩ := good_at g hu (true, i) (rel_mv (by rw [hd]; exact List.mem_cons_self))
      have h1 := hT _ ((lst_ok T _).2 w hw).1
      have hlt := hlt rfl
      have h1 : 0 ≤ w := h1
      omega
end DL

namespace DL
open PySem L2

theorem sc66 : FnScope ["_law_script", "_law_numbers_here", "_law_board_here", "_law_hurry", "_law_made_here", "_law_table", "_law_state", "_law_play", "_law_found", "_law_k", "_law_due_here", "_law_entry"] ["_law_script"] (defScope (top 66)) := ⟨rfl, rfl, rfl, by decide +kernel, rfl, by decide +kernel, by decide +kernel⟩
section
variable {P : Program} {w : World} {K : PySem.W.Frag} {mg : Str → Option Value} {base : Heap} {f Cb : Addr} {fd : FuncData}
def preLaw (ds : List D) (d : D) : Prop := ∃ ns : List Int, ns.length ≤ 63 ∧ ds = [.sq (ns.map V.int)] ∧ d = dB true
theorem ok_law (FN : Kn P w K mg base "_law_numbers" 2 preNumb) (FB : Kn P w K mg base "_law_board" 4 preLBoard) (FP : Kn P w K mg base "_law_pick" 1 prePick) (FM : Kn P w K mg base "_law_made" 5 (preMade Cb)) (FR : KnK P w K mg base "ranks" 12 1 ["hurry"] [V.int 3000] (preRanks Cb)) (FC : KnK P w K mg base "check_ranks" 11 2 ["hurry"] [] (preCR Cb))
    (FA : Kn P w K mg base "_law_all_states" 3 preLAl) (FD : Kn P w K mg base "_law_drawn" 5 preLDr) (FU : Kn P w K mg base "_law_due" 3 preLDu) (FS : Kn P w K mg base "_law_step" 3 preLSt) (mi : mg "list" = none) (mm : mg "min" = none) (ml : mg "len" = none) (mr : mg "range" = none)
    (F : FunD K "law" "law" (defArgs (top 66)) (defBody (top 66)) (defScope (top 66)) [] [] f fd) : FnOk P w K mg base CX0 13 f fd ["_law_script"] (spD K preLaw) :=
  fn_d F sc66 (fun ds d ⟨ns, _, e, _⟩ => by rw [e]; rfl) fun X C ds d ⟨ns, hn, e1, e2⟩ => by
    subst e1 e2
    obtain rfl : X.K = K := C.eK
    obtain ⟨l, el⟩ : ∃ l, l = numL ns := ⟨_, rfl⟩
    have ll : l.length = 76 := by rw [el]; exact numL_len ns
    obtain ⟨b, eb⟩ : ∃ b, b = boardN l := ⟨_, rfl⟩
    have ok : b.Ok := by rw [eb]; exact board_ok l
    obtain ⟨h, eh⟩ : ∃ h, h = pk l 49 5 := ⟨_, rfl⟩
    have p5 := pk_lt (l := l) (i := 49) (c := 5) (by decide)
    refine xss_cons (xs_asg C 1 (d := .lst (dNat l)) (xe_call C.toCxt FN (xa_cons (xe_var C.toCxt 0 rfl) (xa_cons xe_int xa_nil)) ⟨ns, hn, rfl, by rw [el]⟩) ?_)
    refine xss_cons (xs_asg C 2 (d := dLB b) (xe_call C.toCxt FB (xa_cons (xe_var C.toCxt 1 rfl) (xa_cons xe_int xa_nil)) ⟨l, ll, rfl, by rw [eb]⟩) ?_)
    refine xss_cons (xs_asg C 3 (d := dI ((h : Nat) : Int)) (xe_call C.toCxt FP (xa_cons (xe_var C.toCxt 1 rfl) (xa_cons xe_int (xa_cons xe_int xa_nil))) ⟨l, 49, 5, by omega, by decide, rfl, by rw [eh]⟩) ?_)
    refine xss_cons (xs_asg C 4 (d := dBd Cb b) (xe_call C.toCxt FM (xa_cons (xe_var C.toCxt 2 rfl) xa_nil) ⟨b, ok, rfl, rfl⟩) ?_)
    refine xss_cons (xs_asg C 5 xe_non ?_)
    -- a table at hand
    have rest7 : ∀ T : List (Sv × Int), TabOk b T → T.length ≤ 1000 → (∀ q ∈ T, 0 ≤ q.2) → XSs X ((defBody (top 66)).drop 7) [.im (.sq (ns.map V.int)), .im (.lst (dNat l)), .im (dLB b), .im (dI (h : Int)), .im (dBd Cb b), .im (.lst (dTab T)), .un, .un, .un, .un, .un, .un] { nx := fun _ => dB true = dN, rt := fun r => r = dB true } := by
      intro T tk tl tn
      refine xss_cons (xs_if (xt_not (xt_val (xe_callK (d := dB (goodB b h T)) C.toCxt FC (xa_cons (xe_var C.toCxt 4 rfl) (xa_cons (XN.toE (xn_listL C.toCxt mi (XE.r (xe_var C.toCxt 5 rfl)))) xa_nil)) (xk_cons (xe_var C.toCxt 3 rfl) xk_nil) rfl rfl ⟨b, T, h, ok, tk, tl, rfl, rfl⟩))) (fun q => xss_one (xs_ret xe_bl rfl)) fun q => xss_nil ?_)
      have g : goodB b h T = true := by simpa using q
      obtain ⟨m1, em1⟩ : ∃ m1, m1 = pk l 62 10 := ⟨_, rfl⟩
      have p10 := pk_lt (l := l) (i := 62) (c := 10) (by decide)
      obtain ⟨h2, eh2⟩ : ∃ h2, h2 = pk l 63 5 := ⟨_, rfl⟩
      obtain ⟨hh, ehh⟩ : ∃ hh, hh = if h2 < h then h2 else h := ⟨_, rfl⟩
      have hle : hh ≤ h := by rw [ehh]; split <;> omega
      obtain ⟨qd, eqd⟩ : ∃ qd, qd = drawnN b l 53 m1 hh := ⟨_, rfl⟩
      have sq : StOk b qd.1 := by rw [eqd]; exact drawn_ok _ _ (first_ok b)
      obtain ⟨u, hu⟩ := drawn_at g hle l 53 m1
      rw [← eqd] at hu
      refine xss_cons (xs_asgG (d := dPl b qd) (xe_call C.toCxt FD (xa_cons (xe_var C.toCxt 2 rfl) (xa_cons (xe_var C.toCxt 1 rfl) (xa_cons xe_int (xa_cons (xe_call (d := dI ((m1 : Nat) : Int)) C.toCxt FP (xa_cons (xe_var C.toCxt 1 rfl) (xa_cons xe_int (xa_cons xe_int xa_nil))) ⟨l, 62, 10, by omega, by decide, rfl, by rw [em1]⟩)
        (xa_cons ((xe_min2 C.toCxt mm (xe_var C.toCxt 3 rfl) (xe_call (d := dI ((h2 : Nat) : Int)) C.toCxt FP (xa_cons (xe_var C.toCxt 1 rfl) (xa_cons xe_int (xa_cons xe_int xa_nil))) ⟨l, 63, 5, by omega, by decide, rfl, by rw [eh2]⟩)).is (dI_eq (show _ = ((hh : Nat) : Int) by rw [ehh]; split <;> split <;> omega))) xa_nil))))) ⟨b, l, 53, m1, hh, ok, by omega, by omega, rfl, by rw [eqd]⟩)
        (xtg_tup C.toCxt (xts_cons (xtg_nameD C 6) (xts_cons (xtg_name C.toCxt 7) xts_nil)) rfl) ?_)
      obtain ⟨fnd, efnd⟩ : ∃ fnd, fnd = (T.filter fun q => decide (q.1 = qd.1)).map (·.2) := ⟨_, rfl⟩
      obtain ⟨fm, fl⟩ := found_ne hu
      rw [← efnd] at fm fl
      have u0 : 0 ≤ u := tn _ ((lst_ok T _).2 u hu).1
      refine xss_cons (xs_lc (own := [("_law_entry", 11)]) (ds := fnd.map dI) C 8 ⟨by decide +kernel, Sv × Int, T, fun q => .tup [dSv q.1, dI q.2], fun q => [.im (.sq (ns.map V.int)), .im (.lst (dNat l)), .im (dLB b), .im (dI (h : Int)), .im (dBd Cb b), .im (.lst (dTab T)), .im (dSv qd.1), .im (.lst (qd.2.map (dMo b))), .un, .un, .un, .im (.tup [dSv q.1, dI q.2])], fun q => decide (q.1 = qd.1), fun q => dI q.2, ?_, ?_, ?_, fun X' C' q hq => ⟨⟨[11], fun i hi => hi, xtg_name C' 11⟩,
        xf_one (xt_cmp (xc_eqS C' (xe_ixT (xe_var C' 11 rfl) xe_int (show atI _ _ = some (dSv q.1) from rfl)) (xe_var C' 6 rfl))), fun _ => xe_ixT (xe_var C' 11 rfl) xe_int (show atI _ _ = some (dI q.2) from rfl)⟩⟩ ?_)
      · rw [efnd, List.map_map]; rfl
      · exact xi_list (xe_var C.toCxt 5 rfl)
      · omega
      refine xss_cons (xs_if (bb := false) ((xt_cmp (xc_eq (xe_lenL C.toCxt ml (XE.r (xe_var C.toCxt 8 rfl))) xe_int rfl)).is ?_) (fun q => nomatch q) fun _ => xss_nil ?_)
      · refine decide_eq_false fun e => ?_
        have e := V.int.inj e
        rw [List.length_map] at e
        have : 0 < fnd.length := List.length_pos_of_mem fm
        omega
      obtain ⟨kk, ekk⟩ : ∃ kk : Nat, (kk : Int) = if u < 44 then u else 44 := ⟨(if u < 44 then u else 44).toNat, by split <;> omega⟩
      have k44 : kk ≤ 44 := by split at ekk <;> omega
      refine xss_cons (xs_for C (XI.is (xi_range (n := (kk : Int)) C.toCxt mr ((xe_min2 C.toCxt mm xe_int (xe_minL C.toCxt mm (XE.r (xe_var C.toCxt 8 rfl)) fm fl)).is (dI_eq ekk.symm)) (by omega) (by omega)) (show _ = (List.range kk).map fun (j : Nat) => dI (j : Int) by unfold rngD; rw [Int.toNat_natCast]))
        (fun j G1 => ∃ s : Sv, StOk b s ∧ RowI b T u j s ∧ G1 = [.im (.sq (ns.map V.int)), .im (.lst (dNat l)), .im (dLB b), .im (dI (h : Int)), .im (dBd Cb b), .im (.lst (dTab T)), .im (dSv s), .im (.lst (qd.2.map (dMo b))), .im (.lst (fnd.map dI)), .un, .un, .un]) ⟨qd.1, sq, .inr ⟨u, hu, by omega⟩, rfl⟩ ?_ ?_)
      · rintro j d G1 hd ⟨s, sk, hr, rfl⟩
        have hj : j < kk := by
          have := (List.getElem?_eq_some_iff.mp hd).1
          rwa [List.length_map, List.length_range] at this
        rw [List.getElem?_map, List.getElem?_range hj] at hd
        cases hd
        refine ⟨_, _, xtg_name C.toCxt 9, xss_cons (xs_asg C 10 (d := .lst (dNat (dueN b s))) (xe_call C.toCxt FU (xa_cons (xe_var C.toCxt 2 rfl) (xa_cons (xe_var C.toCxt 6 rfl) xa_nil)) ⟨b, s, ok, sk, rfl, rfl⟩) ?_)⟩
        refine xss_one (xs_if ((xt_cmp (xc_gt (xe_lenL C.toCxt ml (XE.r (xe_var C.toCxt 10 rfl))) xe_int)).is (d' := decide (0 < (dueN b s).length)) ?_) (fun z => ?_) fun z => xss_nil ⟨_, .keep (.keep (.keep (.keep (.keep (.keep (.keep (.keep (.keep (.drop (.drop (.keep .nil))))))))))), s, sk, .rest ?_, rfl⟩)
        · rw [dNat_len]
          exact decide_eq_decide.mpr ⟨fun y => by omega, fun y => by omega⟩
        · have z := of_decide_eq_true z
          have h64 : 64 + j % 9 < 76 := by omega
          have pl := pk_lt (l := l) (i := 64 + j % 9) (c := (dueN b s).length) z
          obtain ⟨pc, epc⟩ : ∃ pc, pc = (dueN b s).getD (pk l (64 + j % 9) (dueN b s).length) 0 := ⟨_, rfl⟩
          have pcm : pc ∈ dueN b s := by rw [epc, getD_el _ pl]; exact List.getElem_mem pl
          refine xss_one (xs_asg C 6 (d := dSv (stepN b s pc)) (xe_call C.toCxt FS (xa_cons (xe_var C.toCxt 2 rfl) (xa_cons (xe_var C.toCxt 6 rfl) (xa_cons (xe_ixL (d := dI (pc : Int)) (XE.r (xe_var C.toCxt 10 rfl)) (xe_call (d := dI ((pk l (64 + j % 9) (dueN b s).length : Nat) : Int)) C.toCxt FP (xa_cons (xe_var C.toCxt 1 rfl) (xa_cons ((xe_add xe_int (xe_mod (xe_var C.toCxt 9 rfl) xe_int (by decide))).is (dI_eq (show (64 : Int) + (j : Int) % 9 = ((64 + j % 9 : Nat) : Int) by omega))) (xa_cons ((xe_lenL C.toCxt ml (XE.r (xe_var C.toCxt 10 rfl))).is (dI_eq (by rw [dNat_len]))) xa_nil))) ⟨l, 64 + j % 9, _, by omega, z, rfl, rfl⟩) (by rw [epc]; exact dNat_at pl)) xa_nil))) ⟨b, s, pc, ok, sk, due_lt ok pc pcm, rfl, rfl⟩)
            ⟨_, .keep (.keep (.keep (.keep (.keep (.keep (.keep (.keep (.keep (.drop (.drop (.keep .nil))))))))))), stepN b s pc, step_ok sk pc, .move g pcm hr, rfl⟩)
        · have z := of_decide_eq_false z
          exact List.eq_nil_of_length_eq_zero (by omega)
      · rintro G1 ⟨s, sk, hr, rfl⟩
        rw [List.length_map, List.length_range] at hr
        refine xss_one (xs_ret (xe_or2 (c := decide (44 < u)) (d := true) (xe_cmp (xc_gt (xe_minL C.toCxt mm (XE.r (xe_var C.toCxt 8 rfl)) fm fl) xe_int)) fun z => (xe_cmp (xc_eq (xe_lenL C.toCxt ml (XE.r (xe_call (d := .lst (dNat (dueN b s))) C.toCxt FU (xa_cons (xe_var C.toCxt 2 rfl) (xa_cons (xe_var C.toCxt 6 rfl) xa_nil)) ⟨b, s, ok, sk, rfl, rfl⟩))) xe_int rfl)).is ?_) ?_)
        · have z := of_decide_eq_false z
          have ku : u ≤ kk := by split at ekk <;> omega
          have e0 := RowI.done g tn ku hr
          rw [e0]
          rfl
        · show dB _ = dB true
          rw [Bool.or_true]
    -- a table, or none
    have rest6 : ∀ o : Option (List (Sv × Int)), (∀ T, o = some T → TabOk b T ∧ T.length ≤ 1000 ∧ ∀ q ∈ T, 0 ≤ q.2) → XSs X ((defBody (top 66)).drop 6) [.im (.sq (ns.map V.int)), .im (.lst (dNat l)), .im (dLB b), .im (dI (h : Int)), .im (dBd Cb b), .im (dRk o), .un, .un, .un, .un, .un, .un] { nx := fun _ => dB true = dN, rt := fun r => r = dB true } := by
      intro o ho
      cases o with
      | none =>
        refine xss_cons (xs_if (xt_cmp (xc_isN' (xe_var C.toCxt 5 rfl) xe_non)) (fun _ => xss_one (xs_asg C 5 (d := .lst (dTab (allT b l 51))) (xe_call C.toCxt FA (xa_cons (xe_var C.toCxt 2 rfl) (xa_cons (xe_var C.toCxt 1 rfl) (xa_cons xe_int xa_nil))) ⟨b, l, ok, ll, rfl, rfl⟩) ?_)) fun q => nomatch q)
        have tl := allT_len b l 51
        refine rest7 _ (allT_ok b l 51) (by omega) fun q hq => ?_
        obtain ⟨n, _, hm⟩ := List.mem_flatMap.mp hq
        unfold rowT at hm
        split at hm
        · rcases List.mem_cons.mp hm with z | z
          · rw [z]; exact Int.natCast_nonneg _
          · rw [List.mem_singleton.mp z]; exact Int.natCast_nonneg _
        · cases hm
      | some T =>
        obtain ⟨t1, t2, t3⟩ := ho T rfl
        exact xss_cons (xs_if (xt_cmp (xc_isN (xe_var C.toCxt 5 rfl) xe_non (fun z => nomatch z) fun z => nomatch z)) (fun q => nomatch q) fun _ => xss_nil (rest7 T t1 t2 t3))
    refine xss_cons (xs_if (xt_cmp (xc_gt (xe_call (d := dI ((pk l 50 3 : Nat) : Int)) C.toCxt FP (xa_cons (xe_var C.toCxt 1 rfl) (xa_cons xe_int (xa_cons xe_int xa_nil))) ⟨l, 50, 3, by omega, by decide, rfl, rfl⟩) xe_int)) (fun _ => ?_) fun _ => xss_nil (rest6 none fun T e => nomatch e))
    refine xss_cons (xs_asg C 5 (d := dRk (ranksN (exploreN b h) (tgB b))) (xe_callK C.toCxt FR (xa_cons (xe_var C.toCxt 4 rfl) xa_nil) (xk_cons (xe_var C.toCxt 3 rfl) xk_nil) rfl rfl ⟨b, h, ok, explore_clr ok h, rfl, rfl⟩) ?_)
    cases er : ranksN (exploreN b h) (tgB b) with
    | none =>
      exact xss_one (xs_if (bb := false) (xt_and2 (c := false) (d := false) (xt_cmp (xc_notN' (xe_var C.toCxt 5 rfl) xe_non)) fun q => nomatch q) (fun q => nomatch q) fun _ => xss_nil (rest6 none fun T e => nomatch e))
    | some T =>
      obtain ⟨g, t1, t2, t3⟩ := ranks_good ok er
      refine xss_one (xs_if (bb := false) (xt_and2 (c := true) (d := false) (xt_cmp (xc_notN (xe_var C.toCxt 5 rfl) xe_non (fun z => nomatch z) fun z => nomatch z)) fun _ => xt_not (c := true) (xt_val (xe_callK C.toCxt FC (xa_cons (xe_var C.toCxt 4 rfl) (xa_cons (XN.toE (xn_listL C.toCxt mi (XE.r (xe_var C.toCxt 5 rfl)))) xa_nil)) (xk_cons (xe_var C.toCxt 3 rfl) xk_nil) rfl rfl ⟨b, T, h, ok, t1, by omega, rfl, by rw [g]⟩))) (fun q => nomatch q) fun _ => xss_nil (rest6 (some T) fun T' e => ?_))
      cases e
      exact ⟨t1, by omega, t3⟩
end
end DL

namespace DL
open PySem L2

/-- all keywords are written: no default is read -/
theorem kb_all {K : PySem.W.Frag} {x qual : Str} {params : Arguments} {body : List Stmt} {scope : Scope} {kws : List (Str × V)} {f : Addr} {fd : FuncData} {ps : List Str} (F : FunD K x qual params body scope [] kws f fd) (n : Nat) (ks : List Str) (g : {α : Type} → List α → List α → List α)
    (hrel : ∀ {vs zs : List V} {us ws : List Value}, Vals vs us → Vals zs ws → Vals (g vs zs) (g us ws))
    (h : ∀ (kV doc pm : Value) (an : Option Addr) (cdv ct : Value) (us ws : List Value), us.length = n → ws.length = ks.length → bindArgs (PySem.W.fnOf x qual params body scope .none kV doc pm an cdv ct) ⟨us, ks.zip ws⟩ = pure (ps.zip (g us ws))) : KBn K fd ps n ks (fun us ws => g us ws) (fun vs zs => g vs zs) := by
  obtain ⟨oc, od, dV, kV, doc, pm, an, cdv, ct, osl, rfl, lk, hcd, hD, hK⟩ := F.ex
  rcases hD with ⟨_, rfl⟩ | ⟨e, _⟩
  · exact ⟨fun s us ws _ l1 l2 => .of_eq (h kV doc pm an cdv ct us ws l1 l2), fun r1 r2 => hrel r1 r2⟩
  · exact absurd rfl e
theorem vals_pm5 {vs : List V} {us : List Value} (r : Vals vs us) : Vals (pm5 vs) (pm5 us) := by
  cases r with
  | nil => exact .nil
  | cons r1 r =>
    cases r with
    | nil => exact .cons r1 .nil
    | cons r2 r =>
      cases r with
      | nil => exact .cons r1 (.cons r2 .nil)
      | cons r3 r =>
        cases r with
        | nil => exact .cons r1 (.cons r2 (.cons r3 .nil))
        | cons r4 r =>
          cases r with
          | nil => exact .cons r1 (.cons r2 (.cons r3 (.cons r4 .nil)))
          | cons r5 r =>
            cases r with
            | nil => exact .cons r1 (.cons r4 (.cons r2 (.cons r3 (.cons r5 .nil))))
            | cons r6 r => exact .cons r1 (.cons r2 (.cons r3 (.cons r4 (.cons r5 (.cons r6 r)))))

def cvB (K : PySem.W.Frag) (C : Addr) (f : Str) (v : V) : Bool := match PySem.W.findCls K (.ref C) (.type "type") f with
  | some (.val u) => He.relB v u
  | _ => false
theorem cvB_ok {K : PySem.W.Frag} {C : Addr} {f : Str} {v : V} (h : cvB K C f v = true) : ∃ u, ClX.CVal K C (.type "type") f v u := by
  unfold cvB at h
  split at h
  · rename_i u e
    exact ⟨u, e, He.relB_ok h⟩
  · cases h
def crB (K : PySem.W.Frag) (C : Addr) : Bool := PySem.W.readsIn K C (.type "type") && He.eqO (PySem.W.specialIn K (.ref C) "__getattribute__") (some (some (.builtin "type.__getattribute__")))
theorem crB_ok {K : PySem.W.Frag} {C : Addr} (h : crB K C = true) : ClX.CRead K C (.type "type") := by
  obtain ⟨h1, h2⟩ := He.ba h
  exact ⟨h1, He.eqO_ok h2⟩
def prB (K : PySem.W.Frag) (C : Addr) (f : Str) : Bool := He.eqO (PySem.W.findIn K (.ref C) f) (some (some (.ref (He.ma K C f)))) && (He.eqO (PySem.W.specialIn K (.ref (He.ma K C f)) "__get__") (some (some (.builtin "property.__get__"))) &&
  (decide (PySem.W.takesIn K (.ref (He.ma K C f)) = some true) && (match PySem.W.recIn K (He.ma K C f) "property" with
    | some (.ref _ :: _) => true
    | _ => false)))
theorem prB_ok {K : PySem.W.Frag} {C : Addr} {f : Str} (h : prB K C f = true) : PropOf K C f (He.ma K C f) (He5.wf K C "property" f) := by
  obtain ⟨h1, h⟩ := He.ba h
  obtain ⟨h2, h⟩ := He.ba h
  obtain ⟨h3, h4⟩ := He.ba h
  refine ⟨He.eqO_ok h1, He.eqO_ok h2, of_decide_eq_true h3, ?_⟩
  unfold He5.wf
  split at h4
  · rename_i g r e
    exact ⟨r, by rw [e]⟩
  · cases h4
def smB (K : PySem.W.Frag) (C : Addr) (m : Str) : Bool := He5.wrapB K C "staticmethod" "staticmethod.__get__" m && PySem.W.keepIn K (.ref (He5.wf K C "staticmethod" m))
theorem smB_ok {K : PySem.W.Frag} {C : Addr} {m : Str} (hr : ClX.CRead K C (.type "type")) (h : smB K C m = true) : SMet K C (.type "type") m (He.ma K C m) (He5.wf K C "staticmethod" m) := by
  obtain ⟨h1, h2⟩ := He.ba h
  obtain ⟨h3, h4⟩ := He5.wrapB_ok h1
  exact ⟨hr.rd, hr.ga, h3, h4, h2⟩

def obsX (fa : List He.Fa) (fn : List He5.DefA) (ex : List (PySem.W.Frag → Bool)) (K : PySem.W.Frag) : He.AlD := ((fa.all fun f => f.ok K) && ((fn.all fun d => d.ok K) && ex.all fun e => e K), fn.map fun d => He5.fnA K (d.at_ K))
def valX (fn : List He5.DefA) : He.AlD := (true, fn.map He5.DefA.val)
def SaysX (fa : List He.Fa) (fn : List He5.DefA) (ex : List (PySem.W.Frag → Bool)) (K : PySem.W.Frag) : Prop := obsX fa fn ex K = valX fn
/-- a def's code and keyword defaults -/
def fnRefs (g : Addr → Option Obj) (a : Addr) : List Addr := match g a with
  | some ⟨_, _, .func fd, _⟩ => He.refV fd.code ++ He.refV fd.kwdefaults
  | _ => []
def growZ (g : Addr → Option Obj) : Nat → List Addr → List Addr
  | 0, as => as
  | n + 1, as => growZ g n (He.growD g as)
/-- what is looked at: the defs xs with their code, the classes cs and what they name in n steps -/
def asZ (g : Addr → Option Obj) (n : Nat) (xs cs : List Str) : List Addr :=
  [mainGlobals, cStatics] ++ (xs.map fun x => He.ga (He.frG g [mainGlobals]) x) ++ (xs.flatMap fun x => fnRefs g (He.ga (He.frG g [mainGlobals]) x)) ++ growZ g n (cs.map fun x => He.ga (He.frG g [mainGlobals]) x)
def obsXG (n : Nat) (xs cs : List Str) (fa : List He.Fa) (fn : List He5.DefA) (ex : List (PySem.W.Frag → Bool)) (g : Addr → Option Obj) : He.AlD := obsX fa fn ex (He.frG g (asZ g n xs cs))
def hookX (n : Nat) (xs cs : List Str) (fa : List He.Fa) (fn : List He5.DefA) (ex : List (PySem.W.Frag → Bool)) : PySem.W.Hook where
  α := He.AlD
  obs := fun s => obsXG n xs cs fa fn ex s.heap.get?
  val := fun _ => valX fn
  says := fun _ h => ∃ K : PySem.W.Frag, K.In h ∧ SaysX fa fn ex K
  of := fun _ _ e => ⟨_, He.frG_in, e⟩
  keeps := fun _ _ _ ⟨K, hK, c⟩ k => ⟨K, PySem.W.Frag.In.keeps hK k, c⟩
theorem obsXG_eq {n : Nat} {xs cs : List Str} {fa : List He.Fa} {fn : List He5.DefA} {ex : List (PySem.W.Frag → Bool)} {g : Addr → Option Obj} {s : Shared} (h : ∀ a, g a = s.heap.get? a) : obsXG n xs cs fa fn ex g = (hookX n xs cs fa fn ex).obs s := by
  have e : g = s.heap.get? := funext h
  rw [e] <;> rfl
section
variable {fa : List He.Fa} {fn : List He5.DefA} {ex : List (PySem.W.Frag → Bool)} {K : PySem.W.Frag}
theorem SaysX.b (c : SaysX fa fn ex K) : ((fa.all fun f => f.ok K) && ((fn.all fun d => d.ok K) && ex.all fun e => e K)) = true := congrArg (fun z : He.AlD => z.1) c
theorem SaysX.fact (c : SaysX fa fn ex K) (i : Nat) {f : He.Fa} (h : fa[i]? = some f := by rfl) : f.ok K = true := List.all_eq_true.mp (He.ba c.b).1 f (List.mem_of_getElem? h)
theorem SaysX.more (c : SaysX fa fn ex K) (i : Nat) {e : PySem.W.Frag → Bool} (h : ex[i]? = some e := by rfl) : e K = true := List.all_eq_true.mp (He.ba (He.ba c.b).2).2 e (List.mem_of_getElem? h)
theorem SaysX.def_ (c : SaysX fa fn ex K) (i : Nat) {d : He5.DefA} (h : fn[i]? = some d := by rfl) : ∃ fd, FunD K d.name d.qual d.params d.body d.scope (d.dvs K) (d.kws K) (d.at_ K) fd := by
  have e : fn.map (fun d => He5.fnA K (d.at_ K)) = fn.map He5.DefA.val := congrArg (fun z : He.AlD => z.2) c
  have e2 : (fn.map fun d => He5.fnA K (d.at_ K))[i]? = (fn.map He5.DefA.val)[i]? := by rw [e]
  rw [List.getElem?_map, List.getElem?_map, h] at e2
  exact He5.DefA.funD (Option.some.inj e2) (List.all_eq_true.mp (He.ba (He.ba c.b).2).1 d (List.mem_of_getElem? h))
end
def gD (i : Nat) (x : Str) (kwd : List (Str × He.Dv) := []) : He5.DefA := ⟨fun K => He.ga K x, x, x, defArgs (top i), defBody (top i), defScope (top i), [], kwd⟩
def mD (i j : Nat) (at_ : PySem.W.Frag → Addr) (x qual : Str) : He5.DefA := ⟨at_, x, qual, defArgs (inClass (top i) j), defBody (inClass (top i) j), defScope (inClass (top i) j), [], []⟩
end DL

namespace DL
open PySem L2

def fa0 : List He.Fa := [.glo "closes", .glo "closed_contacts", .glo "paths", .glo "reached", .glo "fed", .glo "feeds", .glo "is_short", .glo "live_names", .glo "live_relays", .glo "check_state", .glo "first_state", .glo "due"]
def fa1 : List He.Fa := [.glo "step", .glo "moves", .glo "explore_from", .glo "explore", .glo "relay_steps", .glo "steps_from", .glo "numbers_of", .glo "ranks", .glo "check_ranks", .glo "are_names", .glo "is_between", .glo "are_loads"]
def fa2 : List He.Fa := [.glo "is_contact", .glo "_law_row", .glo "_law_numbers", .glo "_law_pick", .glo "_law_word", .glo "_law_names", .glo "_law_ends", .glo "_law_contact", .glo "_law_board", .glo "_law_told_contact", .glo "_law_made", .glo "_law_closed"]
def fa3 : List He.Fa := [.glo "_law_reached", .glo "_law_live", .glo "_law_is_short", .glo "_law_first", .glo "_law_due", .glo "_law_step", .glo "_law_places", .glo "_law_move", .glo "_law_drawn", .glo "_law_all_states", .glo "law", .glo "Board"]
def fa4 : List He.Fa := [.glo "Search", .glo "WHENS", .glo "WAYS", .free "enumerate", .free "tuple", .free "len", .free "range", .free "int", .free "list", .free "min", .free "max", .free "abs"]
def fa5 : List He.Fa := [.free "all", .int "MOST_NAME_CHARS" 12, .str "NAME_CHARS" "abcdefghijklmnopqrstuvwxyz0123456789", .cls "Board", .mkr "Board", .cls "Search", .mkr "Search", .noat "Board" "nodes", .noat "Board" "switches", .noat "Board" "relays", .noat "Board" "lamps", .noat "Board" "contacts"]
def fa6 : List He.Fa := [.noat "Search" "limit", .noat "Search" "states", .noat "Search" "sources", .meth "Board" "mover_number", .meth "Search" "note"]
def fa : List He.Fa := fa0 ++ fa1 ++ fa2 ++ fa3 ++ fa4 ++ fa5 ++ fa6
def fn0 : List He5.DefA := [gD 8 "closes", gD 9 "closed_contacts", gD 10 "paths", gD 11 "reached", gD 12 "fed", gD 13 "feeds", gD 14 "is_short", gD 15 "live_names"]
def fn1 : List He5.DefA := [gD 16 "live_relays", gD 18 "check_state", gD 19 "first_state", gD 20 "due", gD 21 "step", gD 25 "moves" [("hurry", .int 0)], gD 26 "explore_from" [("hurry", .int 0), ("limit", .int 3000)], gD 27 "explore" [("hurry", .int 0), ("limit", .int 3000)]]
def fn2 : List He5.DefA := [gD 29 "relay_steps", gD 30 "steps_from", gD 31 "numbers_of", gD 32 "ranks" [("hurry", .int 0), ("limit", .int 3000)], gD 33 "check_ranks" [("hurry", .int 0)], gD 39 "are_names", gD 40 "is_between", gD 41 "are_loads"]
def fn3 : List He5.DefA := [gD 42 "is_contact", gD 45 "_law_row", gD 46 "_law_numbers", gD 47 "_law_pick", gD 48 "_law_word", gD 49 "_law_names", gD 50 "_law_ends", gD 51 "_law_contact"]
def fn4 : List He5.DefA := [gD 52 "_law_board", gD 53 "_law_told_contact", gD 54 "_law_made", gD 55 "_law_closed", gD 56 "_law_reached", gD 57 "_law_live", gD 58 "_law_is_short", gD 59 "_law_first"]
def fn5 : List He5.DefA := [gD 60 "_law_due", gD 61 "_law_step", gD 62 "_law_places", gD 63 "_law_move", gD 64 "_law_drawn", gD 65 "_law_all_states", gD 66 "law", mD 43 7 (fun K => He5.wf K (He.ga K "Board") "property" "plus") "plus" "Board.plus"]
def fn6 : List He5.DefA := [mD 43 8 (fun K => He5.wf K (He.ga K "Board") "property" "minus") "minus" "Board.minus", mD 43 9 (fun K => He5.wf K (He.ga K "Board") "property" "movers") "movers" "Board.movers", mD 43 10 (fun K => He.ma K (He.ga K "Board") "mover_number") "mover_number" "Board.mover_number", mD 43 6 (fun K => He5.wf K (He.ga K "Board") "staticmethod" "is_name") "is_name" "Board.is_name", mD 43 5 (fun K => He.ma K (He.ga K "Board") "__init__") "__init__" "Board.__init__", mD 24 0 (fun K => He.ma K (He.ga K "Search") "__init__") "__init__" "Search.__init__", mD 24 1 (fun K => He.ma K (He.ga K "Search") "note") "note" "Search.note"]
def fn : List He5.DefA := fn0 ++ fn1 ++ fn2 ++ fn3 ++ fn4 ++ fn5 ++ fn6
def ex0 : List (PySem.W.Frag → Bool) := [fun K => He.tupB K "WHENS" [.str "make", .str "break"], fun K => He.tupB K "WAYS" [.str "both", .str "forward"], fun K => crB K (He.ga K "Board"), fun K => smB K (He.ga K "Board") "is_name", fun K => prB K (He.ga K "Board") "plus", fun K => prB K (He.ga K "Board") "minus", fun K => prB K (He.ga K "Board") "movers", fun K => cvB K (He.ga K "Board") "MOST_NODES" (.int 16), fun K => cvB K (He.ga K "Board") "MOST_SWITCHES" (.int 6), fun K => cvB K (He.ga K "Board") "MOST_RELAYS" (.int 8), fun K => cvB K (He.ga K "Board") "MOST_LAMPS" (.int 8), fun K => cvB K (He.ga K "Board") "MOST_CONTACTS" (.int 40)]
def ex : List (PySem.W.Frag → Bool) := ex0
theorem law_facts {P : Program} {w : World} {K : PySem.W.Frag} {h : Heap} {mg : Str → Option Value} {f : Addr} (X : K.In h) (G : h.Ns mainGlobals mg) (hfa : mg ("law" : Str) = some (.ref f)) (c : SaysX fa fn ex K) :
    ∃ fd : FuncData, (∀ (s : Shared) (v : Value), BindsTo s fd ⟨[v], []⟩ [("_law_script", v)]) ∧ ∀ base : Heap, FnOk P w K mg base CX0 13 f fd ["_law_script"] (spD K preLaw) := by
  have e0 := hfa.symm.trans (He.glo_ok X G (c.fact 46 (f := .glo "law") rfl))
  cases e0
  obtain ⟨fdL, FL⟩ := c.def_ 46 (d := gD 66 "law") rfl
  have bL := FunD.bindsA (ps := ["_law_script"]) FL fun _ _ _ _ _ _ us hl => match us, hl with | [_], _ => rfl
  refine ⟨fdL, fun s v => bL s [v] rfl, fun base => ?_⟩
  have gB : mg "Board" = some (.ref (He.ga K "Board")) := He.glo_ok X G (c.fact 47 (f := .glo "Board") rfl)
  have gS : mg "Search" = some (.ref (He.ga K "Search")) := He.glo_ok X G (c.fact 48 (f := .glo "Search") rfl)
  have n_enumerate : mg "enumerate" = none := He.free_ok X G (c.fact 51 (f := .free "enumerate") rfl)
  have n_tuple : mg "tuple" = none := He.free_ok X G (c.fact 52 (f := .free "tuple") rfl)
  have n_len : mg "len" = none := He.free_ok X G (c.fact 53 (f := .free "len") rfl)
  have n_range : mg "range" = none := He.free_ok X G (c.fact 54 (f := .free "range") rfl)
  have n_int : mg "int" = none := He.free_ok X G (c.fact 55 (f := .free "int") rfl)
  have n_list : mg "list" = none := He.free_ok X G (c.fact 56 (f := .free "list") rfl)
  have n_min : mg "min" = none := He.free_ok X G (c.fact 57 (f := .free "min") rfl)
  have n_max : mg "max" = none := He.free_ok X G (c.fact 58 (f := .free "max") rfl)
  have n_abs : mg "abs" = none := He.free_ok X G (c.fact 59 (f := .free "abs") rfl)
  have n_all : mg "all" = none := He.free_ok X G (c.fact 60 (f := .free "all") rfl)
  have cB : BdC K (He.ga K "Board") := ⟨He.cls_ok (c.fact 63 (f := .cls "Board") rfl), He.noat_ok (c.fact 67 (f := .noat "Board" "nodes") rfl), He.noat_ok (c.fact 68 (f := .noat "Board" "switches") rfl), He.noat_ok (c.fact 69 (f := .noat "Board" "relays") rfl), He.noat_ok (c.fact 70 (f := .noat "Board" "lamps") rfl), He.noat_ok (c.fact 71 (f := .noat "Board" "contacts") rfl)⟩
  have cS : SeC K (He.ga K "Search") := ⟨He.cls_ok (c.fact 65 (f := .cls "Search") rfl), He.noat_ok (c.fact 72 (f := .noat "Search" "limit") rfl), He.noat_ok (c.fact 73 (f := .noat "Search" "states") rfl), He.noat_ok (c.fact 74 (f := .noat "Search" "sources") rfl)⟩
  have v_MNC : KnV mg "MOST_NAME_CHARS" (.int 12) := by
    obtain ⟨t, e⟩ := He.int_ok X G (c.fact 61 (f := .int "MOST_NAME_CHARS" 12) rfl)
    exact ⟨_, e, t, rfl⟩
  have v_NC : KnV mg "NAME_CHARS" (.str charsS) := by
    obtain ⟨t, e⟩ := He.str_ok X G (c.fact 62 (f := .str "NAME_CHARS" "abcdefghijklmnopqrstuvwxyz0123456789") rfl)
    exact ⟨_, e, t, rfl⟩
  have t_WHENS : KnT K mg "WHENS" [V.str "make", V.str "break"] := ⟨_, He.glo_ok X G (c.fact 49 (f := .glo "WHENS") rfl), fun H => He.tupB_ok (vs := [.str "make", .str "break"]) (c.more 0 (e := fun K => He.tupB K "WHENS" [.str "make", .str "break"]) rfl) H⟩
  have t_WAYS : KnT K mg "WAYS" [V.str "both", V.str "forward"] := ⟨_, He.glo_ok X G (c.fact 50 (f := .glo "WAYS") rfl), fun H => He.tupB_ok (vs := [.str "both", .str "forward"]) (c.more 1 (e := fun K => He.tupB K "WAYS" [.str "both", .str "forward"]) rfl) H⟩
  have crd : ClX.CRead K (He.ga K "Board") (.type "type") := crB_ok (c.more 2 (e := fun K => crB K (He.ga K "Board")) rfl)
  have c_MOST_NODES : KnC K mg "Board" "MOST_NODES" (.int 16) := by
    obtain ⟨u, hu⟩ := cvB_ok (c.more 7 (e := fun K => cvB K (He.ga K "Board") "MOST_NODES" (.int 16)) rfl)
    exact ⟨_, _, u, gB, crd, hu⟩
  have c_MOST_SWITCHES : KnC K mg "Board" "MOST_SWITCHES" (.int 6) := by
    obtain ⟨u, hu⟩ := cvB_ok (c.more 8 (e := fun K => cvB K (He.ga K "Board") "MOST_SWITCHES" (.int 6)) rfl)
    exact ⟨_, _, u, gB, crd, hu⟩
  have c_MOST_RELAYS : KnC K mg "Board" "MOST_RELAYS" (.int 8) := by
    obtain ⟨u, hu⟩ := cvB_ok (c.more 9 (e := fun K => cvB K (He.ga K "Board") "MOST_RELAYS" (.int 8)) rfl)
    exact ⟨_, _, u, gB, crd, hu⟩
  have c_MOST_LAMPS : KnC K mg "Board" "MOST_LAMPS" (.int 8) := by
    obtain ⟨u, hu⟩ := cvB_ok (c.more 10 (e := fun K => cvB K (He.ga K "Board") "MOST_LAMPS" (.int 8)) rfl)
    exact ⟨_, _, u, gB, crd, hu⟩
  have c_MOST_CONTACTS : KnC K mg "Board" "MOST_CONTACTS" (.int 40) := by
    obtain ⟨u, hu⟩ := cvB_ok (c.more 11 (e := fun K => cvB K (He.ga K "Board") "MOST_CONTACTS" (.int 40)) rfl)
    exact ⟨_, _, u, gB, crd, hu⟩
  have k_plus : KnP P w K mg base (He.ga K "Board") "plus" 1 (prePlus (He.ga K "Board")) := by
    obtain ⟨fd, F⟩ := c.def_ 47 (d := mD 43 7 (fun K => He5.wf K (He.ga K "Board") "property" "plus") "plus" "Board.plus") rfl
    exact ⟨_, _, fd, ["self"], cB.c, prB_ok (c.more 4 (e := fun K => prB K (He.ga K "Board") "plus") rfl), (FunD.bindsN F fun _ _ _ _ _ _ us hl => match us, hl with | [_], _ => rfl), ok_plus cB F⟩
  have k_minus : KnP P w K mg base (He.ga K "Board") "minus" 1 (preMinus (He.ga K "Board")) := by
    obtain ⟨fd, F⟩ := c.def_ 48 (d := mD 43 8 (fun K => He5.wf K (He.ga K "Board") "property" "minus") "minus" "Board.minus") rfl
    exact ⟨_, _, fd, ["self"], cB.c, prB_ok (c.more 5 (e := fun K => prB K (He.ga K "Board") "minus") rfl), (FunD.bindsN F fun _ _ _ _ _ _ us hl => match us, hl with | [_], _ => rfl), ok_minus cB F⟩
  have k_movers : KnP P w K mg base (He.ga K "Board") "movers" 1 (preMovers (He.ga K "Board")) := by
    obtain ⟨fd, F⟩ := c.def_ 49 (d := mD 43 9 (fun K => He5.wf K (He.ga K "Board") "property" "movers") "movers" "Board.movers") rfl
    exact ⟨_, _, fd, ["self"], cB.c, prB_ok (c.more 6 (e := fun K => prB K (He.ga K "Board") "movers") rfl), (FunD.bindsN F fun _ _ _ _ _ _ us hl => match us, hl with | [_], _ => rfl), ok_movers cB n_tuple F⟩
  have k_mover_number : KnM P w K mg base (He.ga K "Board") "mover_number" 3 (preNumber (He.ga K "Board")) := by
    obtain ⟨fd, F⟩ := c.def_ 50 (d := mD 43 10 (fun K => He.ma K (He.ga K "Board") "mover_number") "mover_number" "Board.mover_number") rfl
    exact ⟨_, fd, ["self", "name"], cB.c, He.meth_ok (c.fact 75 (f := .meth "Board" "mover_number") rfl), (FunD.bindsN F fun _ _ _ _ _ _ us hl => match us, hl with | [_, _], _ => rfl), ok_number k_movers n_enumerate F⟩
  have k_is_name : KnS P w K mg base "Board" "is_name" 1 preName := by
    obtain ⟨fd, F⟩ := c.def_ 51 (d := mD 43 6 (fun K => He5.wf K (He.ga K "Board") "staticmethod" "is_name") "is_name" "Board.is_name") rfl
    exact ⟨_, _, _, _, fd, ["text"], gB, smB_ok crd (c.more 3 (e := fun K => smB K (He.ga K "Board") "is_name") rfl), (FunD.bindsN F fun _ _ _ _ _ _ us hl => match us, hl with | [_], _ => rfl), ok_name n_len n_all v_MNC v_NC F⟩
  have k_Search : KnSI P w K mg base "Search" (He.ga K "Search") 1 := by
    obtain ⟨fd, F⟩ := c.def_ 53 (d := mD 24 0 (fun K => He.ma K (He.ga K "Search") "__init__") "__init__" "Search.__init__") rfl
    exact ⟨_, fd, ["self", "limit"], gS, He.mkr_ok (c.fact 66 (f := .mkr "Search") rfl), (FunD.bindsN F fun _ _ _ _ _ _ us hl => match us, hl with | [_, _], _ => rfl), ok_si cS F⟩
  have k_note : KnN P w K mg base (He.ga K "Search") 1 := by
    obtain ⟨fd, F⟩ := c.def_ 54 (d := mD 24 1 (fun K => He.ma K (He.ga K "Search") "note") "note" "Search.note") rfl
    exact ⟨_, fd, ["self", "state", "source"], cS, He.meth_ok (c.fact 76 (f := .meth "Search" "note") rfl), (FunD.bindsN F fun _ _ _ _ _ _ us hl => match us, hl with | [_, _, _], _ => rfl), ok_note2 n_len cS F⟩
  have k_closes : Kn P w K mg base "closes" 1 preCloses := by
    obtain ⟨fd, F⟩ := c.def_ 0 (d := gD 8 "closes") rfl
    exact ⟨_, fd, ["contact", "on"], He.glo_ok X G (c.fact 0 (f := .glo "closes") rfl), F.kp, (FunD.bindsN F fun _ _ _ _ _ _ us hl => match us, hl with | [_, _], _ => rfl), ok_closes F⟩
  have k_closed_contacts : Kn P w K mg base "closed_contacts" 3 (preClosed (He.ga K "Board")) := by
    obtain ⟨fd, F⟩ := c.def_ 1 (d := gD 9 "closed_contacts") rfl
    exact ⟨_, fd, ["board", "state"], He.glo_ok X G (c.fact 1 (f := .glo "closed_contacts") rfl), F.kp, (FunD.bindsN F fun _ _ _ _ _ _ us hl => match us, hl with | [_, _], _ => rfl), ok_closed cB k_movers k_closes n_enumerate F⟩
  have k_paths : Kn P w K mg base "paths" 4 (prePaths (He.ga K "Board")) := by
    obtain ⟨fd, F⟩ := c.def_ 2 (d := gD 10 "paths") rfl
    exact ⟨_, fd, ["board", "state"], He.glo_ok X G (c.fact 2 (f := .glo "paths") rfl), F.kp, (FunD.bindsN F fun _ _ _ _ _ _ us hl => match us, hl with | [_, _], _ => rfl), ok_paths cB k_closed_contacts F⟩
  have k_reached : Kn P w K mg base "reached" 1 preReached := by
    obtain ⟨fd, F⟩ := c.def_ 3 (d := gD 11 "reached") rfl
    exact ⟨_, fd, ["pairs", "start"], He.glo_ok X G (c.fact 3 (f := .glo "reached") rfl), F.kp, (FunD.bindsN F fun _ _ _ _ _ _ us hl => match us, hl with | [_, _], _ => rfl), ok_reached n_len F⟩
  have k_fed : Kn P w K mg base "fed" 5 (preFed (He.ga K "Board")) := by
    obtain ⟨fd, F⟩ := c.def_ 4 (d := gD 12 "fed") rfl
    exact ⟨_, fd, ["board", "state"], He.glo_ok X G (c.fact 4 (f := .glo "fed") rfl), F.kp, (FunD.bindsN F fun _ _ _ _ _ _ us hl => match us, hl with | [_, _], _ => rfl), ok_fed cB k_reached k_paths k_plus F⟩
  have k_feeds : Kn P w K mg base "feeds" 5 (preFeeds (He.ga K "Board")) := by
    obtain ⟨fd, F⟩ := c.def_ 5 (d := gD 13 "feeds") rfl
    exact ⟨_, fd, ["board", "state"], He.glo_ok X G (c.fact 5 (f := .glo "feeds") rfl), F.kp, (FunD.bindsN F fun _ _ _ _ _ _ us hl => match us, hl with | [_, _], _ => rfl), ok_feeds cB k_reached k_paths k_minus F⟩
  have k_is_short : Kn P w K mg base "is_short" 6 (preShort (He.ga K "Board")) := by
    obtain ⟨fd, F⟩ := c.def_ 6 (d := gD 14 "is_short") rfl
    exact ⟨_, fd, ["board", "state"], He.glo_ok X G (c.fact 6 (f := .glo "is_short") rfl), F.kp, (FunD.bindsN F fun _ _ _ _ _ _ us hl => match us, hl with | [_, _], _ => rfl), ok_short k_fed k_minus F⟩
  have k_live_names : Kn P w K mg base "live_names" 6 (preLiveN (He.ga K "Board")) := by
    obtain ⟨fd, F⟩ := c.def_ 7 (d := gD 15 "live_names") rfl
    exact ⟨_, fd, ["board", "state", "loads"], He.glo_ok X G (c.fact 7 (f := .glo "live_names") rfl), F.kp, (FunD.bindsN F fun _ _ _ _ _ _ us hl => match us, hl with | [_, _, _], _ => rfl), ok_liveN k_fed k_feeds F⟩
  have k_live_relays : Kn P w K mg base "live_relays" 7 (preLiveR (He.ga K "Board")) := by
    obtain ⟨fd, F⟩ := c.def_ 8 (d := gD 16 "live_relays") rfl
    exact ⟨_, fd, ["board", "state"], He.glo_ok X G (c.fact 8 (f := .glo "live_relays") rfl), F.kp, (FunD.bindsN F fun _ _ _ _ _ _ us hl => match us, hl with | [_, _], _ => rfl), ok_liveR cB k_live_names F⟩
  have k_check_state : Kn P w K mg base "check_state" 7 (preCheck (He.ga K "Board")) := by
    obtain ⟨fd, F⟩ := c.def_ 9 (d := gD 18 "check_state") rfl
    exact ⟨_, fd, ["board", "state"], He.glo_ok X G (c.fact 9 (f := .glo "check_state") rfl), F.kp, (FunD.bindsN F fun _ _ _ _ _ _ us hl => match us, hl with | [_, _], _ => rfl), ok_check k_movers k_is_short n_len F⟩
  have k_first_state : Kn P w K mg base "first_state" 7 (preFirst (He.ga K "Board")) := by
    obtain ⟨fd, F⟩ := c.def_ 10 (d := gD 19 "first_state") rfl
    exact ⟨_, fd, ["board"], He.glo_ok X G (c.fact 10 (f := .glo "first_state") rfl), F.kp, (FunD.bindsN F fun _ _ _ _ _ _ us hl => match us, hl with | [_], _ => rfl), ok_first k_movers k_is_short n_len F⟩
  have k_due : Kn P w K mg base "due" 8 (preDue (He.ga K "Board")) := by
    obtain ⟨fd, F⟩ := c.def_ 11 (d := gD 20 "due") rfl
    exact ⟨_, fd, ["board", "state"], He.glo_ok X G (c.fact 11 (f := .glo "due") rfl), F.kp, (FunD.bindsN F fun _ _ _ _ _ _ us hl => match us, hl with | [_, _], _ => rfl), ok_due cB k_mover_number k_live_relays F⟩
  have k_step : Kn P w K mg base "step" 7 (preStep (He.ga K "Board")) := by
    obtain ⟨fd, F⟩ := c.def_ 12 (d := gD 21 "step") rfl
    exact ⟨_, fd, ["board", "state", "move"], He.glo_ok X G (c.fact 12 (f := .glo "step") rfl), F.kp, (FunD.bindsN F fun _ _ _ _ _ _ us hl => match us, hl with | [_, _, _], _ => rfl), ok_step k_mover_number k_is_short F⟩
  have k_moves : KnK P w K mg base "moves" 9 2 ["hurry"] [] (preMoves (He.ga K "Board")) := by
    obtain ⟨fd, F⟩ := c.def_ 13 (d := gD 25 "moves" [("hurry", .int 0)]) rfl
    exact ⟨_, fd, ["board", "state", "hurry"], _, He.glo_ok X G (c.fact 13 (f := .glo "moves") rfl), F.kp, kb_all F 2 ["hurry"] (fun us ws => us ++ ws ++ []) (fun r1 r2 => (r1.append r2).append .nil) (fun _ _ _ _ _ _ us ws h1 h2 => match us, ws, h1, h2 with | [_, _], [_], _, _ => rfl), ok_moves cB k_due n_len F⟩
  have k_explore_from : KnK P w K mg base "explore_from" 10 2 ["hurry", "limit"] [] (preExF (He.ga K "Board") (He.ga K "Search")) := by
    obtain ⟨fd, F⟩ := c.def_ 14 (d := gD 26 "explore_from" [("hurry", .int 0), ("limit", .int 3000)]) rfl
    exact ⟨_, fd, ["board", "starts", "hurry", "limit"], _, He.glo_ok X G (c.fact 14 (f := .glo "explore_from") rfl), F.kp, kb_all F 2 ["hurry", "limit"] (fun us ws => us ++ ws ++ []) (fun r1 r2 => (r1.append r2).append .nil) (fun _ _ _ _ _ _ us ws h1 h2 => match us, ws, h1, h2 with | [_, _], [_, _], _, _ => rfl), ok_exF cS k_Search k_note k_moves k_step n_len F⟩
  have k_explore : KnK P w K mg base "explore" 11 1 ["hurry", "limit"] [] (preEx (He.ga K "Board") (He.ga K "Search")) := by
    obtain ⟨fd, F⟩ := c.def_ 15 (d := gD 27 "explore" [("hurry", .int 0), ("limit", .int 3000)]) rfl
    exact ⟨_, fd, ["board", "hurry", "limit"], _, He.glo_ok X G (c.fact 15 (f := .glo "explore") rfl), F.kp, kb_all F 1 ["hurry", "limit"] (fun us ws => us ++ ws ++ []) (fun r1 r2 => (r1.append r2).append .nil) (fun _ _ _ _ _ _ us ws h1 h2 => match us, ws, h1, h2 with | [_], [_, _], _, _ => rfl), ok_ex k_explore_from k_first_state F⟩
  have k_relay_steps : Kn P w K mg base "relay_steps" 9 (preRel (He.ga K "Board")) := by
    obtain ⟨fd, F⟩ := c.def_ 16 (d := gD 29 "relay_steps") rfl
    exact ⟨_, fd, ["board", "state"], He.glo_ok X G (c.fact 16 (f := .glo "relay_steps") rfl), F.kp, (FunD.bindsN F fun _ _ _ _ _ _ us hl => match us, hl with | [_, _], _ => rfl), ok_rel k_due k_step F⟩
  have k_steps_from : KnK P w K mg base "steps_from" 10 2 ["hurry"] [] (preStF (He.ga K "Board")) := by
    obtain ⟨fd, F⟩ := c.def_ 17 (d := gD 30 "steps_from") rfl
    exact ⟨_, fd, ["board", "state", "hurry"], _, He.glo_ok X G (c.fact 17 (f := .glo "steps_from") rfl), F.kp, kb_all F 2 ["hurry"] (fun us ws => us ++ ws ++ []) (fun r1 r2 => (r1.append r2).append .nil) (fun _ _ _ _ _ _ us ws h1 h2 => match us, ws, h1, h2 with | [_, _], [_], _, _ => rfl), ok_stF cB k_relay_steps k_step n_len F⟩
  have k_numbers_of : Kn P w K mg base "numbers_of" 10 (preNums P w K (He.ga K "Board")) := by
    obtain ⟨fd, F⟩ := c.def_ 18 (d := gD 31 "numbers_of") rfl
    exact ⟨_, fd, ["board", "states"], He.glo_ok X G (c.fact 18 (f := .glo "numbers_of") rfl), F.kp, (FunD.bindsN F fun _ _ _ _ _ _ us hl => match us, hl with | [_, _], _ => rfl), ok_nums k_relay_steps n_len n_max F⟩
  have k_ranks : KnK P w K mg base "ranks" 12 1 ["hurry"] [V.int 3000] (preRanks (He.ga K "Board")) := by
    obtain ⟨fd, F⟩ := c.def_ 19 (d := gD 32 "ranks" [("hurry", .int 0), ("limit", .int 3000)]) rfl
    obtain ⟨mv, kb⟩ := FunD.kbinds0 (ps := ["board", "hurry", "limit"]) F 1 ["hurry"] [("limit", V.int 3000)] (fun us mv ws => us ++ ws ++ mv) (by simp [He5.DefA.kws, gD]) (fun q hq => by rw [List.mem_singleton.mp hq]; exact List.mem_cons_of_mem _ (List.mem_singleton.mpr rfl)) (fun r1 r2 r3 => (r1.append r3).append r2)
      (fun D _ _ _ _ _ us mv ws h1 h2 h3 => match us, mv, ws, h1, h2, h3 with | [_], [_], [_], _, _, _ => ⟨_, _, _, _, _, _, rfl, rfl, rfl⟩)
    exact ⟨_, fd, ["board", "hurry", "limit"], _, He.glo_ok X G (c.fact 19 (f := .glo "ranks") rfl), F.kp, kb, ok_ranks cS k_explore k_numbers_of n_len F⟩
  have k_check_ranks : KnK P w K mg base "check_ranks" 11 2 ["hurry"] [] (preCR (He.ga K "Board")) := by
    obtain ⟨fd, F⟩ := c.def_ 20 (d := gD 33 "check_ranks" [("hurry", .int 0)]) rfl
    exact ⟨_, fd, ["board", "table", "hurry"], _, He.glo_ok X G (c.fact 20 (f := .glo "check_ranks") rfl), F.kp, kb_all F 2 ["hurry"] (fun us ws => us ++ ws ++ []) (fun r1 r2 => (r1.append r2).append .nil) (fun _ _ _ _ _ _ us ws h1 h2 => match us, ws, h1, h2 with | [_, _], [_], _, _ => rfl), ok_cr k_check_state k_first_state k_steps_from n_min F⟩
  have k_are_names : Kn P w K mg base "are_names" 2 preNames := by
    obtain ⟨fd, F⟩ := c.def_ 21 (d := gD 39 "are_names") rfl
    exact ⟨_, fd, ["names", "least", "most"], He.glo_ok X G (c.fact 21 (f := .glo "are_names") rfl), F.kp, (FunD.bindsN F fun _ _ _ _ _ _ us hl => match us, hl with | [_, _, _], _ => rfl), ok_names k_is_name n_len n_enumerate F⟩
  have k_is_between : Kn P w K mg base "is_between" 1 preBtw := by
    obtain ⟨fd, F⟩ := c.def_ 22 (d := gD 40 "is_between") rfl
    exact ⟨_, fd, ["one", "other", "nodes"], He.glo_ok X G (c.fact 22 (f := .glo "is_between") rfl), F.kp, (FunD.bindsN F fun _ _ _ _ _ _ us hl => match us, hl with | [_, _, _], _ => rfl), ok_btw F⟩
  have k_are_loads : Kn P w K mg base "are_loads" 2 preLoads := by
    obtain ⟨fd, F⟩ := c.def_ 23 (d := gD 41 "are_loads") rfl
    exact ⟨_, fd, ["loads", "nodes"], He.glo_ok X G (c.fact 23 (f := .glo "are_loads") rfl), F.kp, (FunD.bindsN F fun _ _ _ _ _ _ us hl => match us, hl with | [_, _], _ => rfl), ok_loads k_is_between F⟩
  have k_is_contact : Kn P w K mg base "is_contact" 2 preCt := by
    obtain ⟨fd, F⟩ := c.def_ 24 (d := gD 42 "is_contact") rfl
    exact ⟨_, fd, ["contact", "nodes", "movers"], He.glo_ok X G (c.fact 24 (f := .glo "is_contact") rfl), F.kp, (FunD.bindsN F fun _ _ _ _ _ _ us hl => match us, hl with | [_, _, _], _ => rfl), ok_ct k_is_between t_WHENS t_WAYS F⟩
  have k__law_row : Kn P w K mg base "_law_row" 1 preRow := by
    obtain ⟨fd, F⟩ := c.def_ 25 (d := gD 45 "_law_row") rfl
    exact ⟨_, fd, ["_law_cell", "_law_many"], He.glo_ok X G (c.fact 25 (f := .glo "_law_row") rfl), F.kp, (FunD.bindsN F fun _ _ _ _ _ _ us hl => match us, hl with | [_, _], _ => rfl), ok_row n_abs n_range n_int F⟩
  have k__law_numbers : Kn P w K mg base "_law_numbers" 2 preNumb := by
    obtain ⟨fd, F⟩ := c.def_ 26 (d := gD 46 "_law_numbers") rfl
    exact ⟨_, fd, ["_law_script", "_law_many"], He.glo_ok X G (c.fact 26 (f := .glo "_law_numbers") rfl), F.kp, (FunD.bindsN F fun _ _ _ _ _ _ us hl => match us, hl with | [_, _], _ => rfl), ok_numb k__law_row n_max n_len F⟩
  have k__law_pick : Kn P w K mg base "_law_pick" 1 prePick := by
    obtain ⟨fd, F⟩ := c.def_ 27 (d := gD 47 "_law_pick") rfl
    exact ⟨_, fd, ["_law_numbers_here", "_law_at", "_law_count"], He.glo_ok X G (c.fact 27 (f := .glo "_law_pick") rfl), F.kp, (FunD.bindsN F fun _ _ _ _ _ _ us hl => match us, hl with | [_, _, _], _ => rfl), ok_pick n_int F⟩
  have k__law_word : Kn P w K mg base "_law_word" 1 preWord := by
    obtain ⟨fd, F⟩ := c.def_ 28 (d := gD 48 "_law_word") rfl
    exact ⟨_, fd, ["_law_seed", "_law_k"], He.glo_ok X G (c.fact 28 (f := .glo "_law_word") rfl), F.kp, (FunD.bindsN F fun _ _ _ _ _ _ us hl => match us, hl with | [_, _], _ => rfl), ok_word n_int n_range F⟩
  have k__law_names : Kn P w K mg base "_law_names" 2 preNms := by
    obtain ⟨fd, F⟩ := c.def_ 29 (d := gD 49 "_law_names") rfl
    exact ⟨_, fd, ["_law_seed", "_law_count"], He.glo_ok X G (c.fact 29 (f := .glo "_law_names") rfl), F.kp, (FunD.bindsN F fun _ _ _ _ _ _ us hl => match us, hl with | [_, _], _ => rfl), ok_nms n_range k__law_word F⟩
  have k__law_ends : Kn P w K mg base "_law_ends" 2 preEnds := by
    obtain ⟨fd, F⟩ := c.def_ 30 (d := gD 50 "_law_ends") rfl
    exact ⟨_, fd, ["_law_numbers_here", "_law_at", "_law_count"], He.glo_ok X G (c.fact 30 (f := .glo "_law_ends") rfl), F.kp, (FunD.bindsN F fun _ _ _ _ _ _ us hl => match us, hl with | [_, _, _], _ => rfl), ok_ends n_int k__law_pick F⟩
  have k__law_contact : Kn P w K mg base "_law_contact" 3 preCont := by
    obtain ⟨fd, F⟩ := c.def_ 31 (d := gD 51 "_law_contact") rfl
    exact ⟨_, fd, ["_law_numbers_here", "_law_at", "_law_count", "_law_movers"], He.glo_ok X G (c.fact 31 (f := .glo "_law_contact") rfl), F.kp, (FunD.bindsN F fun _ _ _ _ _ _ us hl => match us, hl with | [_, _, _, _], _ => rfl), ok_cont n_int k__law_ends k__law_pick F⟩
  have k__law_board : Kn P w K mg base "_law_board" 4 preLBoard := by
    obtain ⟨fd, F⟩ := c.def_ 32 (d := gD 52 "_law_board") rfl
    exact ⟨_, fd, ["_law_numbers_here", "_law_at"], He.glo_ok X G (c.fact 32 (f := .glo "_law_board") rfl), F.kp, (FunD.bindsN F fun _ _ _ _ _ _ us hl => match us, hl with | [_, _], _ => rfl), ok_lboard n_int n_range n_len k__law_pick k__law_names k__law_ends k__law_contact F⟩
  have k__law_told_contact : Kn P w K mg base "_law_told_contact" 1 preTold := by
    obtain ⟨fd, F⟩ := c.def_ 33 (d := gD 53 "_law_told_contact") rfl
    exact ⟨_, fd, ["_law_board_here", "_law_contact_here"], He.glo_ok X G (c.fact 33 (f := .glo "_law_told_contact") rfl), F.kp, (FunD.bindsN F fun _ _ _ _ _ _ us hl => match us, hl with | [_, _], _ => rfl), ok_told n_int n_len F⟩
  have k_Board : KnI P w K mg base "Board" (He.ga K "Board") 3 ["nodes", "switches", "relays", "lamps", "contacts"] preBoard := by
    obtain ⟨fd, F⟩ := c.def_ 52 (d := mD 43 5 (fun K => He.ma K (He.ga K "Board") "__init__") "__init__" "Board.__init__") rfl
    exact ⟨_, fd, ["self", "nodes", "lamps", "switches", "relays", "contacts"], _, gB, He.mkr_ok (c.fact 64 (f := .mkr "Board") rfl), kb_all F 1 ["nodes", "switches", "relays", "lamps", "contacts"] (fun us ws => us ++ pm5 ws) (fun r1 r2 => r1.append (vals_pm5 r2)) (fun _ _ _ _ _ _ us ws h1 h2 => match us, ws, h1, h2 with | [_], [_, _, _, _, _], _, _ => rfl), ok_board cB k_are_names k_are_loads k_is_contact n_len n_tuple n_list c_MOST_NODES c_MOST_SWITCHES c_MOST_RELAYS c_MOST_LAMPS c_MOST_CONTACTS F⟩
  have k__law_made : Kn P w K mg base "_law_made" 5 (preMade (He.ga K "Board")) := by
    obtain ⟨fd, F⟩ := c.def_ 34 (d := gD 54 "_law_made") rfl
    exact ⟨_, fd, ["_law_board_here"], He.glo_ok X G (c.fact 34 (f := .glo "_law_made") rfl), F.kp, (FunD.bindsN F fun _ _ _ _ _ _ us hl => match us, hl with | [_], _ => rfl), ok_made k__law_told_contact k_Board n_range n_len n_list F⟩
  have k__law_closed : Kn P w K mg base "_law_closed" 1 preLCl := by
    obtain ⟨fd, F⟩ := c.def_ 35 (d := gD 55 "_law_closed") rfl
    exact ⟨_, fd, ["_law_board_here", "_law_movers"], He.glo_ok X G (c.fact 35 (f := .glo "_law_closed") rfl), F.kp, (FunD.bindsN F fun _ _ _ _ _ _ us hl => match us, hl with | [_, _], _ => rfl), ok_lcl n_len F⟩
  have k__law_reached : Kn P w K mg base "_law_reached" 1 preLRe := by
    obtain ⟨fd, F⟩ := c.def_ 36 (d := gD 56 "_law_reached") rfl
    exact ⟨_, fd, ["_law_board_here", "_law_closed_here", "_law_start", "_law_ahead"], He.glo_ok X G (c.fact 36 (f := .glo "_law_reached") rfl), F.kp, (FunD.bindsN F fun _ _ _ _ _ _ us hl => match us, hl with | [_, _, _, _], _ => rfl), ok_lre n_range n_len n_int F⟩
  have k__law_live : Kn P w K mg base "_law_live" 2 preLLi := by
    obtain ⟨fd, F⟩ := c.def_ 37 (d := gD 57 "_law_live") rfl
    exact ⟨_, fd, ["_law_board_here", "_law_state", "_law_loads"], He.glo_ok X G (c.fact 37 (f := .glo "_law_live") rfl), F.kp, (FunD.bindsN F fun _ _ _ _ _ _ us hl => match us, hl with | [_, _, _], _ => rfl), ok_lli k__law_closed k__law_reached F⟩
  have k__law_is_short : Kn P w K mg base "_law_is_short" 2 preLSh := by
    obtain ⟨fd, F⟩ := c.def_ 38 (d := gD 58 "_law_is_short") rfl
    exact ⟨_, fd, ["_law_board_here", "_law_movers"], He.glo_ok X G (c.fact 38 (f := .glo "_law_is_short") rfl), F.kp, (FunD.bindsN F fun _ _ _ _ _ _ us hl => match us, hl with | [_, _], _ => rfl), ok_lsh k__law_closed k__law_reached F⟩
  have k__law_first : Kn P w K mg base "_law_first" 3 preLFi := by
    obtain ⟨fd, F⟩ := c.def_ 39 (d := gD 59 "_law_first") rfl
    exact ⟨_, fd, ["_law_board_here"], He.glo_ok X G (c.fact 39 (f := .glo "_law_first") rfl), F.kp, (FunD.bindsN F fun _ _ _ _ _ _ us hl => match us, hl with | [_], _ => rfl), ok_lfi k__law_is_short n_tuple F⟩
  have k__law_due : Kn P w K mg base "_law_due" 3 preLDu := by
    obtain ⟨fd, F⟩ := c.def_ 40 (d := gD 60 "_law_due") rfl
    exact ⟨_, fd, ["_law_board_here", "_law_state"], He.glo_ok X G (c.fact 40 (f := .glo "_law_due") rfl), F.kp, (FunD.bindsN F fun _ _ _ _ _ _ us hl => match us, hl with | [_, _], _ => rfl), ok_ldu k__law_live n_range n_len F⟩
  have k__law_step : Kn P w K mg base "_law_step" 3 preLSt := by
    obtain ⟨fd, F⟩ := c.def_ 41 (d := gD 61 "_law_step") rfl
    exact ⟨_, fd, ["_law_board_here", "_law_state", "_law_place"], He.glo_ok X G (c.fact 41 (f := .glo "_law_step") rfl), F.kp, (FunD.bindsN F fun _ _ _ _ _ _ us hl => match us, hl with | [_, _, _], _ => rfl), ok_lst k__law_is_short n_tuple n_list F⟩
  have k__law_places : Kn P w K mg base "_law_places" 4 preLPl := by
    obtain ⟨fd, F⟩ := c.def_ 42 (d := gD 62 "_law_places") rfl
    exact ⟨_, fd, ["_law_board_here", "_law_state", "_law_hurry"], He.glo_ok X G (c.fact 42 (f := .glo "_law_places") rfl), F.kp, (FunD.bindsN F fun _ _ _ _ _ _ us hl => match us, hl with | [_, _, _], _ => rfl), ok_lpl k__law_due n_range n_len F⟩
  have k__law_move : Kn P w K mg base "_law_move" 1 preLMo := by
    obtain ⟨fd, F⟩ := c.def_ 43 (d := gD 63 "_law_move") rfl
    exact ⟨_, fd, ["_law_board_here", "_law_place"], He.glo_ok X G (c.fact 43 (f := .glo "_law_move") rfl), F.kp, (FunD.bindsN F fun _ _ _ _ _ _ us hl => match us, hl with | [_, _], _ => rfl), ok_lmo n_int F⟩
  have k__law_drawn : Kn P w K mg base "_law_drawn" 5 preLDr := by
    obtain ⟨fd, F⟩ := c.def_ 44 (d := gD 64 "_law_drawn") rfl
    exact ⟨_, fd, ["_law_board_here", "_law_numbers_here", "_law_at", "_law_many", "_law_hurry"], He.glo_ok X G (c.fact 44 (f := .glo "_law_drawn") rfl), F.kp, (FunD.bindsN F fun _ _ _ _ _ _ us hl => match us, hl with | [_, _, _, _, _], _ => rfl), ok_ldr k__law_first k__law_places k__law_pick k__law_move k__law_step n_range n_len F⟩
  have k__law_all_states : Kn P w K mg base "_law_all_states" 3 preLAl := by
    obtain ⟨fd, F⟩ := c.def_ 45 (d := gD 65 "_law_all_states") rfl
    exact ⟨_, fd, ["_law_board_here", "_law_numbers_here", "_law_at"], He.glo_ok X G (c.fact 45 (f := .glo "_law_all_states") rfl), F.kp, (FunD.bindsN F fun _ _ _ _ _ _ us hl => match us, hl with | [_, _, _], _ => rfl), ok_lal k__law_is_short n_range n_len n_tuple n_int F⟩
  exact ok_law k__law_numbers k__law_board k__law_pick k__law_made k_ranks k_check_ranks k__law_all_states k__law_drawn k__law_due k__law_step n_list n_min n_len n_range FL
end DL

namespace DL
open PySem PySem.W PySem.Calls PyProof.Rows L2
abbrev RR : OpenRow := OpenLaw.row PySem.Challenge.rw_leverhouse_k37_whole_shown_lists
abbrev qv : Program := view RR.prog [66]
def seenN0 : List PySem.Str := ["closes", "closed_contacts", "paths", "reached", "fed", "feeds", "is_short", "live_names", "live_relays", "check_state", "first_state", "due"]
def seenN1 : List PySem.Str := ["step", "moves", "explore_from", "explore", "relay_steps", "steps_from", "numbers_of", "ranks", "check_ranks", "are_names", "is_between", "are_loads"]
def seenN2 : List PySem.Str := ["is_contact", "_law_row", "_law_numbers", "_law_pick", "_law_word", "_law_names", "_law_ends", "_law_contact", "_law_board", "_law_told_contact", "_law_made", "_law_closed"]
def seenN3 : List PySem.Str := ["_law_reached", "_law_live", "_law_is_short", "_law_first", "_law_due", "_law_step", "_law_places", "_law_move", "_law_drawn", "_law_all_states", "law", "WHENS"]
def seenN4 : List PySem.Str := ["WAYS"]
def seenN : List PySem.Str := seenN0 ++ seenN1 ++ seenN2 ++ seenN3 ++ seenN4
def seenC : List PySem.Str := ["Board", "Search"]
abbrev hk : PySem.W.Hook := hookX 4 seenN seenC fa fn ex
def ob (s : SharedT) : He.AlD := obsXG 4 seenN seenC fa fn ex (HandSHeadRun.getT s)
theorem ob_eq (s : SharedT) : ob s = hk.obs s.abs := obsXG_eq (HandSHeadRun.getT_eq s)
def names0 : List PySem.Str := ["_wall", "LeverhouseError", "InvalidBoard", "UnknownName", "InvalidState", "TooMany", "closes", "closed_contacts", "paths", "reached", "fed", "feeds"]
def names1 : List PySem.Str := ["is_short", "live_names", "live_relays", "check_state", "first_state", "due", "step", "LIMIT", "Search", "moves", "explore_from", "explore"]
def names2 : List PySem.Str := ["relay_steps", "steps_from", "numbers_of", "ranks", "check_ranks", "NAME_CHARS", "MOST_NAME_CHARS", "WHENS", "WAYS", "are_names", "is_between", "are_loads"]
def names3 : List PySem.Str := ["is_contact", "Board", "_law_row", "_law_numbers", "_law_pick", "_law_word", "_law_names", "_law_ends", "_law_contact", "_law_board", "_law_told_contact", "_law_made"]
def names4 : List PySem.Str := ["_law_closed", "_law_reached", "_law_live", "_law_is_short", "_law_first", "_law_due", "_law_step", "_law_places", "_law_move", "_law_drawn", "_law_all_states"]
def names : List PySem.Str := names0 ++ names1 ++ names2 ++ names3 ++ names4
theorem run (w : World) : HandSHeadRun.RunEq RR qv hk ob 6000 names w := by
  intro os
  kernel_rfl
end DL

open PySem PySem.W PySem.Calls PyProof.Rows
theorem PySem.Challenge.cw_leverhouse_k37_whole_shown_lists_holds : PySem.Challenge.rw_leverhouse_k37_whole_shown_lists.Holds := by
  w_on; o_law
  refine HandSHeadRun.head_any (r := OpenLaw.row PySem.Challenge.rw_leverhouse_k37_whole_shown_lists) (q := DL.qv) (H := DL.hk) (ob := DL.ob) (M := 6000) (loose := DL.names) (d := HandSHeadRun.topDef (OpenLaw.row PySem.Challenge.rw_leverhouse_k37_whole_shown_lists).prog 66) (kwd := []) DL.ob_eq
    (by kernel_rfl) (fun s => by kernel_rfl) DL.run (by kernel_rfl) (by kernel_rfl) (by kernel_rfl) (by rfl) (by first | assumption | decide +kernel) (by decide +kernel) ⟨rfl, rfl, rfl, rfl, rfl, by decide +kernel⟩ ?hw ?hc
  case hw => w_witness2
  case hc =>
    refine L2.walk_ofE (l := PySem.Challenge.rw_leverhouse_k37_whole_shown_lists) (n := 63) (k := 13) (x := "_law_script") (CX := L2.CX0) rfl (by decide) (by kernel_rfl) ⟨rfl, by decide, by decide⟩ ?F (fun _ _ _ _ z => z)
    intro w mg fa h Y G hmg0
    obtain ⟨K, KX, c⟩ := Y
    have hmg : mg ("law" : PySem.Str) = some (.ref fa) := by
      have e : (HandSHeadRun.topDef (OpenLaw.row PySem.Challenge.rw_leverhouse_k37_whole_shown_lists).prog 66).name = ("law" : PySem.Str) := by kernel_rfl
      rw [← e]
      exact hmg0
    obtain ⟨fd, hb, hF⟩ := DL.law_facts (P := (PySem.Challenge.rw_leverhouse_k37_whole_shown_lists).prog) (w := w) KX G hmg c
    exact ⟨K, fd, DL.spD K DL.preLaw, KX, hb, fun H a ns hl _ hS => ⟨H, [.sq (ns.map L2.V.int)], DL.dB true, DL.ex_refl H, .cons (.sq hS) .nil, ⟨ns, hl, rfl, rfl⟩, fun x Hb' H' _ r => by cases r; rfl⟩, fun base _ _ => hF base⟩
