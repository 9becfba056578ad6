import PyProof.Rows.All
import Wide.All
import OpenK.AllK
import Wide.FinOn
import HandS.ForMost
import HandS.Exc
import HandS.ExcCtx
import HandS.HotCalls
import HandS.Hot
import HandS.TryOnly
import HandS.TryMany
import HandS.ExcOwn
import HandS.ExcIs
import HandS.WordsExc
import HandS.Zip
import HandS.FStr
import HandS.Conv
import HandS.Wide
import HandS.HeadHook2
import HandS.TupAny
import HandS.Deep
import HandS.IsInst
import HandS.SortInts
import HandS.HeadEnd
import HandS.Head0
import HandS.Head1
import HandS.Head2
import KE.GoesMore
import HandS.Rev
import HandS.TupMul
import HandS.More
import HandS.TupSets
import KE.GoesNew
import KE.DataMinMax
import KE.GoesRaise
import KE.SortData
import HandS.Dict
import HandS.Text
import HandS.StrSplit
import HandS.HeadHook3
import HandS.RaiseMore
import HandS.Replace
import HandS.ReplaceLit
import HandS.Iter
import HandS.Style
import PySem.Challenge.RW_cloak_k56_registers
set_option Elab.async false
set_option linter.all false
set_option maxRecDepth 100000
namespace DL
open PySem PySem.Spec PyProof.Rows L2
abbrev D := PyData

inductive Rs (α : Type) where
  | ok (a : α) | er (c : Str) | bad
def Rs.bind {α β : Type} : Rs α → (α → Rs β) → Rs β
  | .ok a, k => k a
  | .er c, _ => .er c
  | .bad, _ => .bad

/-- what a slot holds, what an expression gives: data that never changes; a list of one's own; a list that is read; the script; an exception -/
inductive Fv where
  | im (d : D) | ml (ds : List D) | dc (kvs : List (Key × D))
  /-- nothing is known of it -/
  | un
inductive Sl where
  | im (d : D)
  | ml (ds : List D)
  | br (ds : List D)
  | ro (ns : List Int)
  | xc (c : Str)
  /-- a dict of one's own, its keys numbers or texts -/
  | dc (kvs : List (Key × D))
  /-- an object: one's own, or one that stands still; its class, its fields -/
  | ob (o : Bool) (c : Str) (fs : List (Str × Fv))
abbrev En := List (Option Sl)

mutual
inductive Rp (K : PySem.W.Frag) (F : Hp) : V → D → Prop
  | non : Rp K F .non .none
  | bl (b : Bool) : Rp K F (.bl b) (.bool b)
  | int (i : Int) : Rp K F (.int i) (.int i)
  | str (x : Str) : Rp K F (.str x) (.str x)
  | lst {a : Addr} {xs : List V} {ds : List D} : F a = some (.lst xs) → RpA K F xs ds → Rp K F (.ref a) (.list ds)
  | tup {a : Addr} {xs : List V} {ds : List D} : SqT K F a xs → RpA K F xs ds → Rp K F (.ref a) (.tuple ds)
inductive RpA (K : PySem.W.Frag) (F : Hp) : List V → List D → Prop
  | nil : RpA K F [] []
  | cons {v : V} {vs : List V} {d : D} {ds : List D} : Rp K F v d → RpA K F vs ds → RpA K F (v :: vs) (d :: ds)
end

theorem same_t {K : PySem.W.Frag} {H H' : Hp} {a : Addr} {xs : List V} (e : Same H H') (h : SqT K H a xs) : SqT K H' a xs := by
  rcases h with (h | ⟨o, h⟩) | h
  · exact .inl (.inl (e _ _ h))
  · exact .inl (.inr ⟨o, e _ _ h⟩)
  · exact .inr h

section
variable {K : PySem.W.Frag} {F F' : Hp}
mutual
theorem Rp.mono (e : Same F F') : ∀ (d : D) (v : V), Rp K F v d → Rp K F' v d
  | .none, _, h => by cases h; exact .non
  | .bool _, _, h => by cases h; exact .bl _
  | .int _, _, h => by cases h; exact .int _
  | .str _, _, h => by cases h; exact .str _
  | .list ds, _, h => by
    cases h with
    | lst h1 h2 => exact .lst (e _ _ h1) (RpA.mono e ds _ h2)
  | .tuple ds, _, h => by
    cases h with
    | tup h1 h2 => exact .tup (same_t e h1) (RpA.mono e ds _ h2)
  | .dict _, _, h => by cases h
theorem RpA.mono (e : Same F F') : ∀ (ds : List D) (vs : List V), RpA K F vs ds → RpA K F' vs ds
  | [], _, h => by cases h; exact .nil
  | d :: ds, _, h => by
    cases h with
    | cons h1 h2 => exact .cons (Rp.mono e d _ h1) (RpA.mono e ds _ h2)
end
mutual
theorem Rp.dp (e : Same F F') : ∀ (d : D) (v : V), Rp K F v d → Dp K F' v d
  | .none, _, h => by cases h; exact .non
  | .bool _, _, h => by cases h; exact .bl _
  | .int _, _, h => by cases h; exact .int _
  | .str _, _, h => by cases h; exact .str _
  | .list ds, _, h => by
    cases h with
    | lst h1 h2 => exact .lst (SqL.of (e _ _ h1)) (RpA.dp e ds _ h2)
  | .tuple ds, _, h => by
    cases h with
    | tup h1 h2 => exact .tup (same_t e h1) (RpA.dp e ds _ h2)
  | .dict _, _, h => by cases h
theorem RpA.dp (e : Same F F') : ∀ (ds : List D) (vs : List V), RpA K F vs ds → DpAll K F' vs ds
  | [], _, h => by cases h; exact .nil
  | d :: ds, _, h => by
    cases h with
    | cons h1 h2 => exact .cons (Rp.dp e d _ h1) (RpA.dp e ds _ h2)
end
theorem RpA.length : ∀ {vs : List V} {ds : List D}, RpA K F vs ds → vs.length = ds.length
  | _, [], h => by cases h; rfl
  | _, _ :: _, h => by
    cases h with
    | cons _ h2 => simp [h2.length]
theorem RpA.append : ∀ {vs us : List V} {ds es : List D}, RpA K F vs ds → RpA K F us es → RpA K F (vs ++ us) (ds ++ es)
  | _, _, [], _, h, q => by cases h; exact q
  | _, _, _ :: _, _, h, q => by
    cases h with
    | cons h1 h2 => exact .cons h1 (h2.append q)
theorem RpA.get : ∀ {vs : List V} {ds : List D} {i : Nat} {d : D}, RpA K F vs ds → ds[i]? = some d → ∃ v, vs[i]? = some v ∧ Rp K F v d
  | _, [], _, _, h, e => by simp at e
  | _, d :: ds, 0, _, h, e => by
    cases h with
    | cons h1 h2 => simp at e; subst e; exact ⟨_, rfl, h1⟩
  | _, d :: ds, i + 1, _, h, e => by
    cases h with
    | cons h1 h2 =>
      obtain ⟨v, q, r⟩ := h2.get (i := i) (by simpa using e)
      exact ⟨v, by simpa using q, r⟩
theorem RpA.getV : ∀ {vs : List V} {ds : List D} {i : Nat} {v : V}, RpA K F vs ds → vs[i]? = some v → ∃ d, ds[i]? = some d ∧ Rp K F v d
  | _, [], _, _, h, e => by cases h; simp at e
  | _, d :: ds, 0, _, h, e => by
    cases h with
    | cons h1 h2 => simp at e; subst e; exact ⟨_, rfl, h1⟩
  | _, d :: ds, i + 1, _, h, e => by
    cases h with
    | cons h1 h2 =>
      obtain ⟨v, q, r⟩ := h2.getV (i := i) (by simpa using e)
      exact ⟨v, by simpa using q, r⟩
theorem RpA.take : ∀ {vs : List V} {ds : List D} (n : Nat), RpA K F vs ds → RpA K F (vs.take n) (ds.take n)
  | _, [], n, h => by cases h; simp; exact .nil
  | _, d :: ds, 0, h => .nil
  | _, d :: ds, n + 1, h => by
    cases h with
    | cons h1 h2 => exact .cons h1 (h2.take n)
theorem RpA.drop : ∀ {vs : List V} {ds : List D} (n : Nat), RpA K F vs ds → RpA K F (vs.drop n) (ds.drop n)
  | _, [], n, h => by cases h; simp; exact .nil
  | _, d :: ds, 0, h => h
  | _, d :: ds, n + 1, h => by
    cases h with
    | cons h1 h2 => exact h2.drop n
theorem RpA.set : ∀ {vs : List V} {ds : List D} {v : V} {d : D} (n : Nat), RpA K F vs ds → Rp K F v d → RpA K F (vs.set n v) (ds.set n d)
  | _, [], _, _, n, h, _ => by cases h; exact .nil
  | _, _ :: _, _, _, 0, h, q => by
    cases h with
    | cons h1 h2 => exact .cons q h2
  | _, _ :: _, _, _, n + 1, h, q => by
    cases h with
    | cons h1 h2 => exact .cons h1 (h2.set n q)
theorem RpA.ints : ∀ (ns : List Int), RpA K F (ns.map V.int) (ns.map PyData.int)
  | [] => .nil
  | n :: ns => .cons (.int n) (RpA.ints ns)
theorem RpA.ofInts : ∀ {vs : List V} {ns : List Int}, RpA K F vs (ns.map PyData.int) → vs = ns.map V.int
  | _, [], h => by cases h; rfl
  | _, n :: ns, h => by
    cases h with
    | cons h1 h2 => cases h1; rw [RpA.ofInts h2]; rfl
theorem RpA.ofBools : ∀ {vs : List V} {ns : List Bool}, RpA K F vs (ns.map PyData.bool) → vs = ns.map V.bl
  | _, [], h => by cases h; rfl
  | _, n :: ns, h => by
    cases h with
    | cons h1 h2 => cases h1; rw [RpA.ofBools h2]; rfl
theorem RpA.ofStrs : ∀ {vs : List V} {ns : List Str}, RpA K F vs (ns.map PyData.str) → vs = ns.map V.str
  | _, [], h => by cases h; rfl
  | _, n :: ns, h => by
    cases h with
    | cons h1 h2 => cases h1; rw [RpA.ofStrs h2]; rfl
end

/-! ### growing heaps: F what is frozen, H all -/
structure Grow (F H F' H' : Hp) : Prop where
  sm : Same F' H'
  hh : Same H H'
  ag : ∀ p o, H p = some o → F' p = F p
section
variable {F H F' H' F1 H1 F2 H2 : Hp}
theorem Grow.refl (s : Same F H) : Grow F H F H := ⟨s, Same.refl H, fun _ _ _ => rfl⟩
theorem Grow.trans (a : Grow F H F1 H1) (b : Grow F1 H1 F2 H2) : Grow F H F2 H2 :=
  ⟨b.sm, a.hh.trans b.hh, fun p o e => (b.ag p o (a.hh p o e)).trans (a.ag p o e)⟩
theorem Grow.ff (g : Grow F H F' H') (s : Same F H) : Same F F' := fun p o e => (g.ag p o (s p o e)).trans e
theorem Same.new {H : Hp} {p : Addr} {o : HO} (h : H p = none) : Same H (upd H p o) := fun b u e => by
  rw [upd_ne (ne_of_none e h)]; exact e
theorem Same.none {F H : Hp} (s : Same F H) {p : Addr} (h : H p = Option.none) : F p = Option.none := Same.free s h
theorem Grow.new {p : Addr} {o : HO} (s : Same F H) (h : H p = none) : Grow F H (upd F p o) (upd H p o) :=
  ⟨fun b u e => by
    by_cases q : b = p
    · subst q; rw [upd_same] at e; rw [upd_same]; exact e
    · rw [upd_ne q] at e; rw [upd_ne q]; exact s b u e, Same.new h, fun b u e => upd_ne (ne_of_none e h)⟩
theorem Grow.newO {p : Addr} {o : HO} (s : Same F H) (h : H p = none) : Grow F H F (upd H p o) :=
  ⟨s.trans (Same.new h), Same.new h, fun _ _ _ => rfl⟩
theorem Grow.freeze {p : Addr} {o : HO} (g : Grow F H F' H') (h : H p = none) (h' : H' p = some o) : Grow F H (upd F' p o) H' :=
  ⟨fun b u e => by
    by_cases q : b = p
    · subst q; rw [upd_same] at e; exact h'.trans e
    · rw [upd_ne q] at e; exact g.sm b u e, g.hh, fun b u e => (upd_ne (ne_of_none e h)).trans (g.ag b u e)⟩
end

/-- a dict's pairs -/
def RpK (K : PySem.W.Frag) (F : Hp) (xs : List (Key × V)) (kvs : List (Key × D)) : Prop := xs.map (·.1) = kvs.map (·.1) ∧ RpA K F (xs.map (·.2)) (kvs.map (·.2))
/-! ### objects: their fields hold data, lists and dicts of their own -/
def RepF (K : PySem.W.Frag) (F H : Hp) (w : V) : Fv → Prop
  | .im d => Rp K F w d
  | .ml ds => ∃ q ys, w = .ref q ∧ H q = some (.lst ys) ∧ RpA K F ys ds
  | .dc kvs => ∃ q ys, w = .ref q ∧ H q = some (.dK ys) ∧ RpK K F ys kvs
  | .un => True
def RepFs (K : PySem.W.Frag) (F H : Hp) : List (Str × V) → List (Str × Fv) → Prop
  | [], [] => True
  | x :: xs, f :: fs => x.1 = f.1 ∧ RepF K F H x.2 f.2 ∧ RepFs K F H xs fs
  | _, _ => False
def ownF : V → Fv → List Addr
  | .ref q, .ml _ => [q]
  | .ref q, .dc _ => [q]
  | _, _ => []
def ownFs : List (Str × V) → List (Str × Fv) → List Addr
  | x :: xs, f :: fs => ownF x.2 f.2 ++ ownFs xs fs
  | _, _ => []
/-- what the object at p owns -/
def OwO (H : Hp) (p : Addr) (fs : List (Str × Fv)) (a : Addr) : Prop := ∃ C dx xs, H p = some (.ins C dx xs) ∧ a ∈ p :: dx :: ownFs xs fs
def RepO (K : PySem.W.Frag) (N : Addr → Prop) (F H : Hp) (p : Addr) (C : Str) (fs : List (Str × Fv)) : Prop :=
  ∃ dx xs, H p = some (.ins (He.ga K C) dx xs) ∧ H dx = some (.own p) ∧ RepFs K F H xs fs ∧ (p :: dx :: ownFs xs fs).Nodup ∧ ∀ a ∈ p :: dx :: ownFs xs fs, N a
section
variable {K : PySem.W.Frag} {N N' : Addr → Prop} {F H F' H' : Hp} {p : Addr} {C : Str} {fs : List (Str × Fv)}
theorem RepF.frame (ff : Same F F') {w : V} : ∀ {f : Fv}, (∀ a ∈ ownF w f, H' a = H a) → RepF K F H w f → RepF K F' H' w f
  | .im d, _, r => Rp.mono ff d w r
  | .ml ds, h, ⟨q, ys, e, hq, r⟩ => by
    subst e
    exact ⟨q, ys, rfl, (h q (by simp [ownF])).trans hq, RpA.mono ff _ _ r⟩
  | .dc kvs, h, ⟨q, ys, e, hq, r⟩ => by
    subst e
    exact ⟨q, ys, rfl, (h q (by simp [ownF])).trans hq, r.1, RpA.mono ff _ _ r.2⟩
  | .un, _, _ => trivial
theorem RepFs.frame (ff : Same F F') : ∀ {xs : List (Str × V)} {fs : List (Str × Fv)}, (∀ a ∈ ownFs xs fs, H' a = H a) → RepFs K F H xs fs → RepFs K F' H' xs fs
  | [], [], _, _ => trivial
  | [], _ :: _, _, r => r.elim
  | _ :: _, [], _, r => r.elim
  | x :: xs, f :: fs, h, ⟨r1, r2, r3⟩ => ⟨r1, r2.frame ff fun a ha => h a (List.mem_append_left _ ha), RepFs.frame ff (fun a ha => h a (List.mem_append_right _ ha)) r3⟩
theorem RepF.mem {w : V} : ∀ {f : Fv} {a : Addr}, RepF K F H w f → a ∈ ownF w f → ∃ o, H a = some o
  | .im d, a, r, h => by cases w <;> cases h
  | .ml ds, a, ⟨q, ys, e, hq, r⟩, h => by
    subst e
    have : a = q := by simpa [ownF] using h
    exact ⟨_, this ▸ hq⟩
  | .dc kvs, a, ⟨q, ys, e, hq, r⟩, h => by
    subst e
    have : a = q := by simpa [ownF] using h
    exact ⟨_, this ▸ hq⟩
  | .un, a, _, h => by cases w <;> cases h
theorem RepFs.mem : ∀ {xs : List (Str × V)} {fs : List (Str × Fv)} {a : Addr}, RepFs K F H xs fs → a ∈ ownFs xs fs → ∃ o, H a = some o
  | [], [], _, _, h => nomatch h
  | [], _ :: _, _, r, _ => r.elim
  | _ :: _, [], _, r, _ => r.elim
  | x :: xs, f :: fs, a, ⟨r1, r2, r3⟩, h => by
    rcases List.mem_append.mp h with h | h
    · exact r2.mem h
    · exact RepFs.mem r3 h
theorem OwO.iff {C' : Addr} {dx : Addr} {xs : List (Str × V)} (e : H p = some (.ins C' dx xs)) {a : Addr} : OwO H p fs a ↔ a ∈ p :: dx :: ownFs xs fs := by
  constructor
  · rintro ⟨C2, dx2, xs2, e2, h⟩
    rw [e] at e2; cases e2; exact h
  · intro h; exact ⟨_, _, _, e, h⟩
theorem RepO.frame (ff : Same F F') (h : ∀ a, OwO H p fs a → H' a = H a) (hN : ∀ a, OwO H p fs a → N a → N' a) : RepO K N F H p C fs → RepO K N' F' H' p C fs
  | ⟨dx, xs, e1, e2, r, nd, hn⟩ => by
    have hw : ∀ a, a ∈ p :: dx :: ownFs xs fs → OwO H p fs a := fun a ha => (OwO.iff e1).mpr ha
    refine ⟨dx, xs, (h p (hw p (by simp))).trans e1, (h dx (hw dx (by simp))).trans e2, r.frame ff fun a ha => h a (hw a (by simp [ha])), nd, fun a ha => hN a (hw a ha) (hn a ha)⟩
theorem RepO.new {a : Addr} : RepO K N F H p C fs → OwO H p fs a → N a ∧ ∃ o, H a = some o
  | ⟨dx, xs, e1, e2, r, nd, hn⟩, h => by
    have h := (OwO.iff e1).mp h
    refine ⟨hn a h, ?_⟩
    rcases List.mem_cons.mp h with rfl | h
    · exact ⟨_, e1⟩
    · rcases List.mem_cons.mp h with rfl | h
      · exact ⟨_, e2⟩
      · exact r.mem h
theorem OwO.frame (r : RepO K N F H p C fs) (h : ∀ a, OwO H p fs a → H' a = H a) {a : Addr} : OwO H' p fs a ↔ OwO H p fs a := by
  obtain ⟨dx, xs, e1, _⟩ := r
  have e1' : H' p = _ := (h p ((OwO.iff e1).mpr (by simp))).trans e1
  rw [OwO.iff e1, OwO.iff e1']
end
/-- new to H, and no data -/
def Nw (H F : Hp) (a : Addr) : Prop := H a = none ∧ F a = none
def Any (_ : Addr) : Prop := True
/-- v stands for s; H the heap ahead (what is new is new to it), F H' behind -/
def RepR (K : PySem.W.Frag) (H F' H' : Hp) (v : V) : Sl → Prop
  | .im d => Rp K F' v d
  | .ml ds => ∃ p xs, v = .ref p ∧ H p = none ∧ F' p = none ∧ H' p = some (.lst xs) ∧ RpA K F' xs ds
  | .br ds => ∃ p xs, v = .ref p ∧ H' p = some (.lst xs) ∧ RpA K F' xs ds
  | .ro ns => ∃ p, v = .ref p ∧ SqL K F' p (ns.map V.int)
  | .xc _ => True
  | .dc kvs => ∃ p xs, v = .ref p ∧ H p = none ∧ F' p = none ∧ H' p = some (.dK xs) ∧ RpK K F' xs kvs
  | .ob true c fs => ∃ p, v = .ref p ∧ RepO K (Nw H F') F' H' p c fs
  | .ob false c fs => ∃ p, v = .ref p ∧ RepO K Any F' H' p c fs
theorem same_l {K : PySem.W.Frag} {H H' : Hp} {a : Addr} {xs : List V} (e : Same H H') (h : SqL K H a xs) : SqL K H' a xs := e.seq h
section
variable {K : PySem.W.Frag} {H F1 H1 F2 H2 : Hp} {v : V}
theorem RepR.grow (g : Grow F1 H1 F2 H2) (s : Same F1 H1) : ∀ {t : Sl}, RepR K H F1 H1 v t → RepR K H F2 H2 v t
  | .dc kvs, ⟨p, xs, e, n, f, h, r⟩ => ⟨p, xs, e, n, (g.ag p _ h).trans f, g.hh _ _ h, r.1, RpA.mono (g.ff s) _ _ r.2⟩
  | .im d, r => Rp.mono (g.ff s) d v r
  | .ml ds, ⟨p, xs, e, n, f, h, r⟩ => ⟨p, xs, e, n, (g.ag p _ h).trans f, g.hh _ _ h, RpA.mono (g.ff s) ds xs r⟩
  | .br ds, ⟨p, xs, e, h, r⟩ => ⟨p, xs, e, g.hh _ _ h, RpA.mono (g.ff s) ds xs r⟩
  | .ro ns, ⟨p, e, h⟩ => ⟨p, e, same_l (g.ff s) h⟩
  | .xc _, _ => trivial
  | .ob true c fs, ⟨p, e, r⟩ => ⟨p, e, r.frame (g.ff s) (fun a ha => by
      obtain ⟨_, o, ho⟩ := r.new ha
      rw [ho]; exact g.hh _ _ ho) (fun a ha n => by
      obtain ⟨_, o, ho⟩ := r.new ha
      exact ⟨n.1, (g.ag _ _ ho).trans n.2⟩)⟩
  | .ob false c fs, ⟨p, e, r⟩ => ⟨p, e, r.frame (g.ff s) (fun a ha => by
      obtain ⟨_, o, ho⟩ := r.new ha
      rw [ho]; exact g.hh _ _ ho) (fun a ha n => n)⟩
theorem RepO.imp {N N' : Addr → Prop} {p : Addr} {C : Str} {fs : List (Str × Fv)} (h : ∀ a, N a → N' a) (r : RepO K N F1 H1 p C fs) : RepO K N' F1 H1 p C fs := r.frame (Same.refl F1) (fun _ _ => rfl) (fun a _ n => h a n)
theorem RepR.pre {H0 : Hp} (e : Same H0 H) : ∀ {t : Sl}, RepR K H F1 H1 v t → RepR K H0 F1 H1 v t
  | .dc kvs, ⟨p, xs, ev, n, f, h, r⟩ => ⟨p, xs, ev, Same.free e n, f, h, r⟩
  | .im d, r => r
  | .ml ds, ⟨p, xs, ev, n, f, h, r⟩ => ⟨p, xs, ev, Same.free e n, f, h, r⟩
  | .br ds, r => r
  | .ro ns, r => r
  | .xc _, _ => trivial
  | .ob true c fs, ⟨p, ev, r⟩ => ⟨p, ev, r.imp fun a n => ⟨Same.free e n.1, n.2⟩⟩
  | .ob false c fs, r => r
end
/-- what may be put into a slot; what a slot may hold -/
def Sl.slot : Sl → Bool
  | .br _ => false
  | .ob false _ _ => false
  | _ => true
def Sl.keep : Sl → Bool
  | .br _ => false
  | _ => true
def Sl.own : Sl → Bool
  | .ml _ => true
  | .dc _ => true
  | _ => false
/-- an object that stands still -/
def Sl.bor : Sl → Bool
  | .ob false _ _ => true
  | _ => false
theorem Sl.keep_of : ∀ {s : Sl}, s.slot = true → s.keep = true
  | .br _, h => by cases h
  | .ob false _ _, _ => rfl
  | .ob true _ _, _ => rfl
  | .im _, _ => rfl
  | .ml _, _ => rfl
  | .ro _, _ => rfl
  | .xc _, _ => rfl
  | .dc _, _ => rfl
theorem Sl.nobor : ∀ {s : Sl}, s.slot = true → s.bor = false
  | .br _, h => by cases h
  | .ob false _ _, h => by cases h
  | .ob true _ _, _ => rfl
  | .im _, _ => rfl
  | .ml _, _ => rfl
  | .ro _, _ => rfl
  | .xc _, _ => rfl
  | .dc _, _ => rfl
/-- what a slot's value owns -/
def Ow (H : Hp) (v : V) : Sl → Addr → Prop
  | .ml _, a => v = .ref a
  | .dc _, a => v = .ref a
  | .ob true _ fs, a => ∃ p, v = .ref p ∧ OwO H p fs a
  | _, _ => False
section
variable {K : PySem.W.Frag} {H0 F H F' H' : Hp} {v : V}
theorem Ow.of_own {s : Sl} {a : Addr} (h : s.own = true) : Ow H (.ref a) s a := by
  cases s <;> first | rfl | cases h
theorem Ow.new : ∀ {s : Sl} {a : Addr}, RepR K H0 F H v s → Ow H v s a → Nw H0 F a ∧ ∃ o, H a = some o
  | .ml _, a, ⟨p, xs, e, n, f, h, _⟩, ho => by
    have ho : v = .ref a := ho
    rw [e] at ho; cases ho; exact ⟨⟨n, f⟩, _, h⟩
  | .dc _, a, ⟨p, xs, e, n, f, h, _⟩, ho => by
    have ho : v = .ref a := ho
    rw [e] at ho; cases ho; exact ⟨⟨n, f⟩, _, h⟩
  | .ob true _ fs, a, ⟨p, e, r⟩, ⟨p2, e2, ho⟩ => by
    rw [e] at e2; cases e2; exact r.new ho
  | .ob false _ _, _, _, ho => ho.elim
  | .im _, _, _, ho => ho.elim
  | .br _, _, _, ho => ho.elim
  | .ro _, _, _, ho => ho.elim
  | .xc _, _, _, ho => ho.elim
/-- what is owned stays as it is, the rest may change -/
theorem RepR.keeps (ff : Same F F') : ∀ {s : Sl}, s.keep = true → s.bor = false → (∀ a, Ow H v s a → H' a = H a ∧ F' a = F a) → RepR K H0 F H v s → RepR K H0 F' H' v s
  | .im d, _, _, _, r => Rp.mono ff d v r
  | .ml ds, _, _, h, ⟨p, xs, e, n, f, hp, r⟩ => ⟨p, xs, e, n, (h p e).2.trans f, (h p e).1.trans hp, RpA.mono ff _ _ r⟩
  | .dc ds, _, _, h, ⟨p, xs, e, n, f, hp, r⟩ => ⟨p, xs, e, n, (h p e).2.trans f, (h p e).1.trans hp, r.1, RpA.mono ff _ _ r.2⟩
  | .br _, k, _, _, _ => by cases k
  | .ro ns, _, _, _, ⟨p, e, h⟩ => ⟨p, e, same_l ff h⟩
  | .xc _, _, _, _, _ => trivial
  | .ob true c fs, _, _, h, ⟨p, e, r⟩ => ⟨p, e, r.frame ff (fun a ha => (h a ⟨p, e, ha⟩).1) (fun a ha n => ⟨n.1, (h a ⟨p, e, ha⟩).2.trans n.2⟩)⟩
  | .ob false _ _, _, b, _, _ => by cases b
theorem RepR.base {H1 : Hp} : ∀ {s : Sl}, RepR K H0 F H v s → (∀ a, Ow H v s a → H1 a = none) → RepR K H1 F H v s
  | .im d, r, _ => r
  | .ml ds, ⟨p, xs, e, n, f, hp, r⟩, h => ⟨p, xs, e, h p e, f, hp, r⟩
  | .dc ds, ⟨p, xs, e, n, f, hp, r⟩, h => ⟨p, xs, e, h p e, f, hp, r⟩
  | .br _, r, _ => r
  | .ro ns, r, _ => r
  | .xc _, _, _ => trivial
  | .ob true c fs, ⟨p, e, r⟩, h => ⟨p, e, r.frame (Same.refl F) (fun _ _ => rfl) (fun a ha n => ⟨h a ⟨p, e, ha⟩, n.2⟩)⟩
  | .ob false _ _, r, _ => r
theorem Ow.frame : ∀ {s : Sl} {a : Addr}, RepR K H0 F H v s → (∀ a, Ow H v s a → H' a = H a) → (Ow H' v s a ↔ Ow H v s a)
  | .ml _, _, _, _ => Iff.rfl
  | .dc _, _, _, _ => Iff.rfl
  | .im _, _, _, _ => Iff.rfl
  | .br _, _, _, _ => Iff.rfl
  | .ro _, _, _, _ => Iff.rfl
  | .xc _, _, _, _ => Iff.rfl
  | .ob false _ _, _, _, _ => Iff.rfl
  | .ob true c fs, a, ⟨p, e, r⟩, h => by
    subst e
    have k := fun b => OwO.frame (a := b) r fun a ha => h a ⟨p, rfl, ha⟩
    constructor
    · rintro ⟨q, eq, ho⟩; cases eq; exact ⟨p, rfl, (k a).mp ho⟩
    · rintro ⟨q, eq, ho⟩; cases eq; exact ⟨p, rfl, (k a).mpr ho⟩
end

/-- an exception's suite: its slot, address, class (in a def that changes its first argument: the slot and address of that argument) -/
abbrev Xi := List (Nat × Addr × Value)
def cvOf (K : PySem.W.Frag) (c : Str) : Value := .ref (He.ga K c)

/-- the state of a body: F0 H0 at its entry, F H now, σ the slots, δ what is known of them -/
structure Stt (K : PySem.W.Frag) (xi : Xi) (F0 H0 F H : Hp) (σ : L2.St) (δ : En) : Prop where
  sm : Same F H
  hh : Same H0 H
  ag : ∀ p o, H0 p = some o → F p = F0 p
  ln : δ.length = σ.length
  sl : ∀ (i : Nat) (s : Sl), δ[i]? = some (some s) → ∃ v, σ[i]? = some (some v) ∧ RepR K H0 F H v s ∧ s.keep = true
  dg : ∀ (i j : Nat) (s t : Sl) (v w : V) (a : Addr), δ[i]? = some (some s) → δ[j]? = some (some t) → σ[i]? = some (some v) → σ[j]? = some (some w) → Ow H v s a → Ow H w t a → i = j
  xi : ∀ i a c, (i, a, c) ∈ xi → σ[i]? = some (some (.ref a)) ∧ ∀ x, δ[i]? = some (some (.xc x)) → c = cvOf K x
  pb : ∀ (i : Nat) (c : Str) (fs : List (Str × Fv)), δ[i]? = some (some (Sl.ob false c fs)) → ∃ p : Addr, σ[i]? = some (some (.ref p)) ∧ RepO K Any F H0 p c fs
section
variable {K : PySem.W.Frag} {xi : Xi} {F0 H0 F H F' H' : Hp} {σ : L2.St} {δ : En}
theorem Stt.dj (st : Stt K xi F0 H0 F H σ δ) (i j : Nat) (s t : Sl) (p : Addr) (e1 : δ[i]? = some (some s)) (e2 : δ[j]? = some (some t)) (o1 : s.own = true) (o2 : t.own = true) (q1 : σ[i]? = some (some (.ref p))) (q2 : σ[j]? = some (some (.ref p))) : i = j :=
  st.dg i j s t _ _ p e1 e2 q1 q2 (Ow.of_own o1) (Ow.of_own o2)
theorem Stt.gr (st : Stt K xi F0 H0 F H σ δ) : Grow F0 H0 F H := ⟨st.sm, st.hh, st.ag⟩
/-- an object that stands still, later -/
theorem RepO.later {p : Addr} {c : Str} {fs : List (Str × Fv)} (s : Same H0 H') (ff : Same F F') (r : RepO K Any F H0 p c fs) : RepO K Any F' H' p c fs :=
  r.frame ff (fun a ha => by
    obtain ⟨_, o, ho⟩ := r.new ha
    rw [ho]; exact s _ _ ho) (fun _ _ n => n)
/-- the state behind a change that leaves alone what the slots own -/
theorem Stt.keeps (st : Stt K xi F0 H0 F H σ δ) (sm : Same F' H') (hh : Same H0 H') (ag : ∀ p o, H0 p = some o → F' p = F0 p) (ff : Same F F')
    (h : ∀ (i : Nat) (s : Sl) (v : V) (a : Addr), δ[i]? = some (some s) → σ[i]? = some (some v) → Ow H v s a → H' a = H a ∧ F' a = F a) : Stt K xi F0 H0 F' H' σ δ := by
  refine ⟨sm, hh, ag, st.ln, fun i s e => ?_, fun i j s t v w a e1 e2 q1 q2 o1 o2 => ?_, st.xi, fun i c fs e => ?_⟩
  · obtain ⟨v, ev, r, k⟩ := st.sl i s e
    refine ⟨v, ev, ?_, k⟩
    by_cases b : s.bor = true
    · obtain ⟨c, fs, rfl⟩ : ∃ (c : Str) (fs : List (Str × Fv)), s = .ob false c fs := by
        cases s with
        | ob o c fs => cases o with
          | false => exact ⟨c, fs, rfl⟩
          | true => cases b
        | _ => cases b
      obtain ⟨p, ep, rp⟩ := st.pb i c fs e
      rw [ev] at ep; cases ep
      exact ⟨p, rfl, rp.later hh ff⟩
    · exact r.keeps ff k (by simpa using b) fun a ha => h i s v a e ev ha
  · have f1 : Ow H v s a := by
      obtain ⟨v', ev, r, _⟩ := st.sl i s e1
      rw [q1] at ev; cases ev
      exact (Ow.frame r fun a ha => (h i s v a e1 q1 ha).1).mp o1
    have f2 : Ow H w t a := by
      obtain ⟨v', ev, r, _⟩ := st.sl j t e2
      rw [q2] at ev; cases ev
      exact (Ow.frame r fun a ha => (h j t w a e2 q2 ha).1).mp o2
    exact st.dg i j s t v w a e1 e2 q1 q2 f1 f2
  · obtain ⟨p, ep, rp⟩ := st.pb i c fs e
    exact ⟨p, ep, rp.later (Same.refl H0) ff⟩
theorem Stt.grow (st : Stt K xi F0 H0 F H σ δ) (g : Grow F H F' H') : Stt K xi F0 H0 F' H' σ δ :=
  st.keeps g.sm (st.gr.trans g).hh (st.gr.trans g).ag (g.ff st.sm) fun i s v a e ev ha => by
    obtain ⟨v', ev', r, _⟩ := st.sl i s e
    rw [ev] at ev'; cases ev'
    obtain ⟨_, o, ho⟩ := Ow.new r ha
    exact ⟨by rw [ho]; exact g.hh _ _ ho, g.ag _ _ ho⟩
theorem get_set {δ : En} {i j : Nat} {s t : Option Sl} (e : (δ.set i s)[j]? = some t) : (i = j ∧ i < δ.length ∧ t = s) ∨ (i ≠ j ∧ δ[j]? = some t) := by
  by_cases q : i = j
  · subst q
    by_cases hi : i < δ.length
    · rw [List.getElem?_set_self hi] at e; cases e; exact .inl ⟨rfl, hi, rfl⟩
    · rw [List.getElem?_eq_none (by simpa using hi)] at e; cases e
  · rw [List.getElem?_set_ne q] at e; exact .inr ⟨q, e⟩
/-- a slot's value is known otherwise, or changed in place -/
theorem Stt.chng (st : Stt K xi F0 H0 F H σ δ) {i : Nat} {s : Sl} {v : V} (e : δ[i]? = some (some s)) (ev : σ[i]? = some (some v)) (sm : Same F' H') (hh : Same H0 H') (ag : ∀ p o, H0 p = some o → F' p = F0 p) (ff : Same F F')
    (out : ∀ a o, ¬ Ow H v s a → H a = some o → H' a = some o ∧ F' a = F a) {t : Sl} (r : RepR K H0 F' H' v t) (kt : t.slot = true) (xt : ∀ x, t ≠ .xc x) (hn : ∀ a, Ow H' v t a → Ow H v s a ∨ H a = none) : Stt K xi F0 H0 F' H' σ (δ.set i (some t)) := by
  have hi : i < δ.length := (List.getElem?_eq_some_iff.mp e).1
  have oth : ∀ j u w a, i ≠ j → δ[j]? = some (some u) → σ[j]? = some (some w) → Ow H w u a → H' a = H a ∧ F' a = F a := fun j u w a n ej evj ha => by
    obtain ⟨w', ew', rj, _⟩ := st.sl j u ej
    rw [evj] at ew'; cases ew'
    obtain ⟨_, o, ho⟩ := Ow.new rj ha
    have := out a o (fun h => n (st.dg i j s u v w a e ej ev evj h ha)) ho
    exact ⟨by rw [ho]; exact this.1, this.2⟩
  have back : ∀ j u w a, i ≠ j → δ[j]? = some (some u) → σ[j]? = some (some w) → Ow H' w u a → Ow H w u a := fun j u w a n ej evj ha => by
    obtain ⟨w', ew', rj, _⟩ := st.sl j u ej
    rw [evj] at ew'; cases ew'
    exact (Ow.frame rj fun a ha => (oth j u w a n ej evj ha).1).mp ha
  have cross : ∀ j u w a, i ≠ j → δ[j]? = some (some u) → σ[j]? = some (some w) → Ow H' w u a → Ow H' v t a → False := fun j u w a n ej evj ha ht => by
    have ha := back j u w a n ej evj ha
    rcases hn a ht with h | h
    · exact n (st.dg i j s u v w a e ej ev evj h ha)
    · obtain ⟨w', ew', rj, _⟩ := st.sl j u ej
      rw [evj] at ew'; cases ew'
      obtain ⟨_, o, ho⟩ := Ow.new rj ha
      rw [ho] at h; cases h
  refine ⟨sm, hh, ag, by rw [List.length_set]; exact st.ln, fun j u q => ?_, fun j k u u' w w' a q1 q2 e1 e2 o1 o2 => ?_, fun j a c q => ?_, fun j c fs q => ?_⟩
  · rcases get_set q with ⟨rfl, _, h⟩ | ⟨n, q⟩
    · cases h; exact ⟨v, ev, r, Sl.keep_of kt⟩
    · obtain ⟨w, ew, rw', k⟩ := st.sl j u q
      refine ⟨w, ew, ?_, k⟩
      by_cases b : u.bor = true
      · obtain ⟨c, fs, rfl⟩ : ∃ (c : Str) (fs : List (Str × Fv)), u = .ob false c fs := by
          cases u with
          | ob o c fs => cases o with
            | false => exact ⟨c, fs, rfl⟩
            | true => cases b
          | _ => cases b
        obtain ⟨p, ep, rp⟩ := st.pb j c fs q
        rw [ew] at ep; cases ep
        exact ⟨p, rfl, rp.later hh ff⟩
      · exact rw'.keeps ff k (by simpa using b) fun a ha => oth j u w a n q ew ha
  · rcases get_set q1 with ⟨rfl, _, h⟩ | ⟨n1, q1⟩
    · rcases get_set q2 with ⟨h2, _, _⟩ | ⟨n2, q2⟩
      · exact h2
      · cases h
        rw [ev] at e1; cases e1
        exact (cross k u' w' a n2 q2 e2 o2 o1).elim
    · rcases get_set q2 with ⟨rfl, _, h⟩ | ⟨n2, q2⟩
      · cases h
        rw [ev] at e2; cases e2
        exact (cross j u w a n1 q1 e1 o1 o2).elim
      · exact st.dg j k u u' w w' a q1 q2 e1 e2 (back j u w a n1 q1 e1 o1) (back k u' w' a n2 q2 e2 o2)
  · obtain ⟨x1, x2⟩ := st.xi j a c q
    refine ⟨x1, fun x z => ?_⟩
    rcases get_set z with ⟨_, _, h⟩ | ⟨_, z⟩
    · cases h; exact (xt x rfl).elim
    · exact x2 x z
  · rcases get_set q with ⟨_, _, h⟩ | ⟨_, q⟩
    · cases h; cases kt
    · obtain ⟨p, ep, rp⟩ := st.pb j c fs q
      exact ⟨p, ep, rp.later (Same.refl H0) ff⟩
/-- slots forgotten -/
theorem Stt.less (st : Stt K xi F0 H0 F H σ δ) {xi' : Xi} {σ' : L2.St} {δ' : En} (hl : δ'.length = σ'.length) (h : ∀ (j : Nat) (s : Sl), δ'[j]? = some (some s) → δ[j]? = some (some s) ∧ σ'[j]? = σ[j]?)
    (hx : ∀ (i : Nat) (a : Addr) (c : Value), (i, a, c) ∈ xi' → σ'[i]? = some (some (.ref a)) ∧ ∀ x, δ'[i]? = some (some (.xc x)) → c = cvOf K x) : Stt K xi' F0 H0 F H σ' δ' :=
  ⟨st.sm, st.hh, st.ag, hl, fun i s e => by
    obtain ⟨e1, e2⟩ := h i s e
    rw [e2]; exact st.sl i s e1, fun i j s t v w a e1 e2 q1 q2 => by
    obtain ⟨h1, h2⟩ := h i s e1
    obtain ⟨h3, h4⟩ := h j t e2
    exact st.dg i j s t v w a h1 h3 (by rw [← h2]; exact q1) (by rw [← h4]; exact q2), hx, fun i c fs e => by
    obtain ⟨e1, e2⟩ := h i _ e
    rw [e2]; exact st.pb i c fs e1⟩
/-- a value is stored that no other slot owns -/
theorem Stt.put (st : Stt K xi F0 H0 F H σ δ) {i : Nat} {v : V} {s : Sl} (r : RepR K H0 F H v s) (hs : s.slot = true) (hd : ∀ (j : Nat) (u : Sl) (w : V) (a : Addr), i ≠ j → δ[j]? = some (some u) → σ[j]? = some (some w) → Ow H w u a → Ow H v s a → False)
    (hx : ∀ j a c, (j, a, c) ∈ xi → i ≠ j) : Stt K xi F0 H0 F H (σ.set i (some v)) (δ.set i (some s)) := by
  have gs : ∀ {j : Nat} {w : V}, (σ.set i (some v))[j]? = some (some w) → i ≠ j → σ[j]? = some (some w) := fun q n => by rwa [List.getElem?_set_ne n] at q
  refine ⟨st.sm, st.hh, st.ag, by simp [st.ln], fun j t e => ?_, fun j k u u' w w' a q1 q2 e1 e2 o1 o2 => ?_, fun j a c e => ?_, fun j c fs q => ?_⟩
  · rcases get_set e with ⟨rfl, hi, h⟩ | ⟨n, e⟩
    · cases h
      exact ⟨v, List.getElem?_set_self (by rw [← st.ln]; exact hi), r, Sl.keep_of hs⟩
    · obtain ⟨w, e1, r1, q1⟩ := st.sl j t e
      exact ⟨w, by rw [List.getElem?_set_ne n]; exact e1, r1, q1⟩
  · rcases get_set q1 with ⟨rfl, hi, h⟩ | ⟨n1, q1⟩
    · rcases get_set q2 with ⟨h2, _, _⟩ | ⟨n2, q2⟩
      · exact h2
      · cases h
        rw [List.getElem?_set_self (by rw [← st.ln]; exact hi)] at e1; cases e1
        exact (hd k u' w' a n2 q2 (gs e2 n2) o2 o1).elim
    · rcases get_set q2 with ⟨rfl, hi, h⟩ | ⟨n2, q2⟩
      · cases h
        rw [List.getElem?_set_self (by rw [← st.ln]; exact hi)] at e2; cases e2
        exact (hd j u w a n1 q1 (gs e1 n1) o1 o2).elim
      · exact st.dg j k u u' w w' a q1 q2 (gs e1 n1) (gs e2 n2) o1 o2
  · have n := hx j a c e
    obtain ⟨x1, x2⟩ := st.xi j a c e
    exact ⟨by rw [List.getElem?_set_ne n]; exact x1, fun x q => x2 x (by rw [List.getElem?_set_ne n] at q; exact q)⟩
  · rcases get_set q with ⟨_, _, h⟩ | ⟨n, q⟩
    · cases h; cases hs
    · obtain ⟨p, ep, rp⟩ := st.pb j c fs q
      exact ⟨p, by rw [List.getElem?_set_ne n]; exact ep, rp⟩
theorem Stt.forget (st : Stt K xi F0 H0 F H σ δ) (i : Nat) : Stt K xi F0 H0 F H σ (δ.set i none) :=
  st.less (by rw [List.length_set]; exact st.ln) (fun j s e => by
    rcases get_set e with ⟨_, _, h⟩ | ⟨_, e⟩
    · cases h
    · exact ⟨e, rfl⟩) (fun k a c e => ⟨(st.xi k a c e).1, fun x q => by
      rcases get_set q with ⟨_, _, h⟩ | ⟨_, q⟩
      · cases h
      · exact (st.xi k a c e).2 x q⟩)
/-- objects that stand still are forgotten -/
def dropB : Option Sl → Option Sl
  | some (.ob false _ _) => none
  | o => o
def dropBor (δ : En) : En := δ.map dropB
theorem dropBor_get {δ : En} {i : Nat} {s : Sl} (e : (dropBor δ)[i]? = some (some s)) : δ[i]? = some (some s) ∧ s.bor = false := by
  unfold dropBor at e
  rw [List.getElem?_map] at e
  cases h : δ[i]? with
  | none => rw [h] at e; cases e
  | some o =>
    rw [h] at e
    cases o with
    | none => cases e
    | some t =>
      cases t with
      | ob o c fs => cases o <;> cases e; exact ⟨rfl, rfl⟩
      | _ => cases e; exact ⟨rfl, rfl⟩
theorem Stt.dropBor (st : Stt K [] F0 H0 F H σ δ) : Stt K [] F0 H0 F H σ (dropBor δ) :=
  st.less (by unfold DL.dropBor; rw [List.length_map]; exact st.ln) (fun j s e => ⟨(dropBor_get e).1, rfl⟩) (fun _ _ _ e => nomatch e)
/-- a slot is stored -/
theorem Stt.set (st : Stt K xi F0 H0 F H σ δ) {i : Nat} {v : V} {s : Sl} (g : Grow F H F' H') (r : RepR K H F' H' v s) (hs : s.slot = true) (hx : ∀ j a c, (j, a, c) ∈ xi → i ≠ j) :
    Stt K xi F0 H0 F' H' (σ.set i (some v)) (δ.set i (some s)) := by
  have st' := st.grow g
  have cross : ∀ j u w a, i ≠ j → δ[j]? = some (some u) → σ[j]? = some (some w) → Ow H' w u a → Ow H' v s a → False := fun j u w a n ej evj ha ht => by
    obtain ⟨w', ew', rj, _⟩ := st.sl j u ej
    rw [evj] at ew'; cases ew'
    have ha : Ow H w u a := (Ow.frame rj fun a ha => by
      obtain ⟨_, o, ho⟩ := Ow.new rj ha
      rw [ho]; exact g.hh _ _ ho).mp ha
    obtain ⟨_, o, ho⟩ := Ow.new rj ha
    have := (Ow.new r ht).1.1
    rw [ho] at this; cases this
  have gs : ∀ {j : Nat} {w : V}, (σ.set i (some v))[j]? = some (some w) → i ≠ j → σ[j]? = some (some w) := fun q n => by rwa [List.getElem?_set_ne n] at q
  refine ⟨st'.sm, st'.hh, st'.ag, by simp [st'.ln], fun j t e => ?_, fun j k u u' w w' a q1 q2 e1 e2 o1 o2 => ?_, fun j a c e => ?_, fun j c fs q => ?_⟩
  · rcases get_set e with ⟨rfl, hi, h⟩ | ⟨n, e⟩
    · cases h
      exact ⟨v, List.getElem?_set_self (by rw [← st.ln]; exact hi), r.pre st.hh, Sl.keep_of hs⟩
    · obtain ⟨w, e1, r1, q1⟩ := st'.sl j t e
      exact ⟨w, by rw [List.getElem?_set_ne n]; exact e1, r1, q1⟩
  · rcases get_set q1 with ⟨rfl, hi, h⟩ | ⟨n1, q1⟩
    · rcases get_set q2 with ⟨h2, _, _⟩ | ⟨n2, q2⟩
      · exact h2
      · cases h
        rw [List.getElem?_set_self (by rw [← st.ln]; exact hi)] at e1; cases e1
        exact (cross k u' w' a n2 q2 (gs e2 n2) o2 o1).elim
    · rcases get_set q2 with ⟨rfl, hi, h⟩ | ⟨n2, q2⟩
      · cases h
        rw [List.getElem?_set_self (by rw [← st.ln]; exact hi)] at e2; cases e2
        exact (cross j u w a n1 q1 (gs e1 n1) o1 o2).elim
      · exact st'.dg j k u u' w w' a q1 q2 (gs e1 n1) (gs e2 n2) o1 o2
  · have n := hx j a c e
    obtain ⟨x1, x2⟩ := st.xi j a c e
    exact ⟨by rw [List.getElem?_set_ne n]; exact x1, fun x q => x2 x (by rw [List.getElem?_set_ne n] at q; exact q)⟩
  · rcases get_set q with ⟨_, _, h⟩ | ⟨n, q⟩
    · cases h; cases hs
    · obtain ⟨p, ep, rp⟩ := st'.pb j c fs q
      exact ⟨p, by rw [List.getElem?_set_ne n]; exact ep, rp⟩
end

/-! ### canonical readings -/
def Post (K : PySem.W.Frag) (xi : Xi) (W : WX) (F H : Hp) (σ : L2.St) (Q : VK) : Rs Sl → Prop
  | .ok s => ∀ v F' H', Grow F H F' H' → RepR K H F' H' v s → Q v H'
  | .er c => ∀ F' H', Grow F H F' H' → W (cvOf K c) none σ H'
  | .bad => False
def tD (K : PySem.W.Frag) (xi : Xi) (W : WX) (f : En → Rs Sl) : TE := fun σ H Q => ∃ F0 H0 F δ, Stt K xi F0 H0 F H σ δ ∧ Post K xi W F H σ Q (f δ)
def PostT (K : PySem.W.Frag) (xi : Xi) (W : WX) (F H : Hp) (σ : L2.St) (Q : Bool → Hp → Prop) : Rs Bool → Prop
  | .ok b => ∀ F' H', Grow F H F' H' → Q b H'
  | .er c => ∀ F' H', Grow F H F' H' → W (cvOf K c) none σ H'
  | .bad => False
def tT (K : PySem.W.Frag) (xi : Xi) (W : WX) (f : En → Rs Bool) : TT := fun σ H Q => ∃ F0 H0 F δ, Stt K xi F0 H0 F H σ δ ∧ PostT K xi W F H σ Q (f δ)
/-- v may be read as s -/
def RdR (K : PySem.W.Frag) (F' H' : Hp) (v : V) : Sl → Prop
  | .im d => Rp K F' v d
  | .ml ds => ∃ p xs, v = .ref p ∧ H' p = some (.lst xs) ∧ RpA K F' xs ds
  | .br ds => ∃ p xs, v = .ref p ∧ H' p = some (.lst xs) ∧ RpA K F' xs ds
  | .ro ns => ∃ p, v = .ref p ∧ SqL K F' p (ns.map V.int)
  | .xc _ => True
  | .dc kvs => ∃ p xs, v = .ref p ∧ H' p = some (.dK xs) ∧ RpK K F' xs kvs
  | .ob _ c fs => ∃ p, v = .ref p ∧ RepO K Any F' H' p c fs
theorem RepR.rd {K : PySem.W.Frag} {H F' H' : Hp} {v : V} : ∀ {t : Sl}, RepR K H F' H' v t → RdR K F' H' v t
  | .dc _, ⟨p, xs, e, _, _, h, r⟩ => ⟨p, xs, e, h, r⟩
  | .im _, r => r
  | .ml _, ⟨p, xs, e, _, _, h, r⟩ => ⟨p, xs, e, h, r⟩
  | .br _, r => r
  | .ro _, r => r
  | .xc _, _ => trivial
  | .ob true _ _, ⟨p, e, r⟩ => ⟨p, e, r.imp fun _ _ => trivial⟩
  | .ob false _ _, r => r
theorem RdR.grow {K : PySem.W.Frag} {F1 H1 F2 H2 : Hp} {v : V} (g : Grow F1 H1 F2 H2) (s : Same F1 H1) : ∀ {t : Sl}, RdR K F1 H1 v t → RdR K F2 H2 v t
  | .dc kvs, ⟨p, xs, e, h, r⟩ => ⟨p, xs, e, g.hh _ _ h, r.1, RpA.mono (g.ff s) _ _ r.2⟩
  | .im d, r => Rp.mono (g.ff s) d v r
  | .ml ds, ⟨p, xs, e, h, r⟩ => ⟨p, xs, e, g.hh _ _ h, RpA.mono (g.ff s) ds xs r⟩
  | .br ds, ⟨p, xs, e, h, r⟩ => ⟨p, xs, e, g.hh _ _ h, RpA.mono (g.ff s) ds xs r⟩
  | .ro ns, ⟨p, e, h⟩ => ⟨p, e, same_l (g.ff s) h⟩
  | .xc _, _ => trivial
  | .ob _ _ _, ⟨p, e, r⟩ => ⟨p, e, r.later g.hh (g.ff s)⟩
inductive RdL (K : PySem.W.Frag) (F' H' : Hp) : List V → List Sl → Prop
  | nil : RdL K F' H' [] []
  | cons {v : V} {vs : List V} {s : Sl} {ss : List Sl} : RdR K F' H' v s → RdL K F' H' vs ss → RdL K F' H' (v :: vs) (s :: ss)
def PostA (K : PySem.W.Frag) (xi : Xi) (W : WX) (F H : Hp) (σ : L2.St) (Q : List V → Hp → Prop) : Rs (List Sl) → Prop
  | .ok ss => ∀ vs F' H', Grow F H F' H' → RdL K F' H' vs ss → Q vs H'
  | .er c => ∀ F' H', Grow F H F' H' → W (cvOf K c) none σ H'
  | .bad => False
def tA (K : PySem.W.Frag) (xi : Xi) (W : WX) (f : En → Rs (List Sl)) : TA := fun σ H Q => ∃ F0 H0 F δ, Stt K xi F0 H0 F H σ δ ∧ PostA K xi W F H σ Q (f δ)

inductive Out where
  | nx (δ : En) | rt (s : Sl) | bk (δ : En) | ct (δ : En) | er (c : Str) (δ : En) | bad
  /-- data are returned, and what then is known of the slots -/
  | rm (d : D) (δ : En)
def PostS (K : PySem.W.Frag) (xi : Xi) (W : WX) (F0 H0 F H : Hp) (E : Ends) : Out → Prop
  | .nx δ => ∀ σ' F' H', Stt K xi F0 H0 F' H' σ' δ → Same F F' → E.nx σ' H'
  | .bk δ => ∀ σ' F' H', Stt K xi F0 H0 F' H' σ' δ → Same F F' → E.bk σ' H'
  | .ct δ => ∀ σ' F' H', Stt K xi F0 H0 F' H' σ' δ → Same F F' → E.ct σ' H'
  | .rt s => ∀ v F' H', Grow F0 H0 F' H' → RepR K H0 F' H' v s → E.rt v H'
  | .rm d δ => ∀ v σ' F' H', Stt K xi F0 H0 F' H' σ' δ → Same F F' → Rp K F' v d → E.rt v H'
  | .er c δ => ∀ σ' F' H', Stt K xi F0 H0 F' H' σ' δ → Same F F' → W (cvOf K c) none σ' H'
  | .bad => False
def tS (K : PySem.W.Frag) (xi : Xi) (W : WX) (g : En → Out) : TS := fun E σ H => ∃ F0 H0 F δ, Stt K xi F0 H0 F H σ δ ∧ PostS K xi W F0 H0 F H E (g δ)

abbrev PD (X : Cx) (xi : Xi) (W : WX) (e : Expr) (f : En → Rs Sl) : Prop := PE X e (tD X.K xi W f)
abbrev PDT (X : Cx) (xi : Xi) (W : WX) (e : Expr) (f : En → Rs Bool) : Prop := PT X e (tT X.K xi W f)
abbrev PDA (X : Cx) (xi : Xi) (W : WX) (es : List Expr) (f : En → Rs (List Sl)) : Prop := PA X es (tA X.K xi W f)
abbrev PDS (X : Cx) (xi : Xi) (W : WX) (s : Stmt) (g : En → Out) : Prop := PS X s (tS X.K xi W g)
abbrev PDB (X : Cx) (xi : Xi) (W : WX) (s : List Stmt) (g : En → Out) : Prop := PSs X s (tS X.K xi W g)

theorem PE.imp {X : Cx} {e : Expr} {t t' : TE} (h : PE X e t) (i : ∀ σ H Q, t' σ H Q → t σ H Q) : PE X e t' := ⟨fun pins s σ H Q I q => h.run pins s σ H Q I (i _ _ _ q)⟩
theorem PT.imp {X : Cx} {e : Expr} {t t' : TT} (h : PT X e t) (i : ∀ σ H Q, t' σ H Q → t σ H Q) : PT X e t' := ⟨fun pins s σ H Q I q => h.run pins s σ H Q I (i _ _ _ q)⟩
theorem PW.imp {X : Cx} {e : Expr} {t t' : TT} (h : PW X e t) (i : ∀ σ H Q, t' σ H Q → t σ H Q) : PW X e t' := ⟨fun wh pins s σ H Q I q => h.run wh pins s σ H Q I (i _ _ _ q)⟩
theorem PA.imp {X : Cx} {e : List Expr} {t t' : TA} (h : PA X e t) (i : ∀ σ H Q, t' σ H Q → t σ H Q) : PA X e t' := ⟨fun p pins s σ H Q I q => h.run p pins s σ H Q I (i _ _ _ q)⟩
theorem PS.imp {X : Cx} {e : Stmt} {t t' : TS} (h : PS X e t) (i : ∀ E σ H, t' E σ H → t E σ H) : PS X e t' := ⟨fun pins s σ H E I q => h.run pins s σ H E I (i _ _ _ q)⟩
theorem PSs.imp {X : Cx} {e : List Stmt} {t t' : TS} (h : PSs X e t) (i : ∀ E σ H, t' E σ H → t E σ H) : PSs X e t' := ⟨fun pins s σ H E I q => h.run pins s σ H E I (i _ _ _ q)⟩

section
variable {K : PySem.W.Frag} {xi : Xi} {W : WX} {F0 H0 F H F' H' : Hp} {σ : L2.St} {δ : En}
/-- the use of a part: what is wanted of it, told of the whole -/
theorem tD_use {f : En → Rs Sl} {Q : VK} (st : Stt K xi F0 H0 F H σ δ) (h1 : ∀ s v F' H', f δ = .ok s → Grow F H F' H' → RepR K H F' H' v s → Q v H')
    (h2 : ∀ c F' H', f δ = .er c → Grow F H F' H' → W (cvOf K c) none σ H') (h3 : f δ = .bad → False) : tD K xi W f σ H Q := by
  refine ⟨F0, H0, F, δ, st, ?_⟩
  cases e : f δ with
  | ok s => exact fun v F' H' g r => h1 s v F' H' e g r
  | er c => exact fun F' H' g => h2 c F' H' e g
  | bad => exact h3 e
theorem tT_use {f : En → Rs Bool} {Q : Bool → Hp → Prop} (st : Stt K xi F0 H0 F H σ δ) (h1 : ∀ s F' H', f δ = .ok s → Grow F H F' H' → Q s H')
    (h2 : ∀ c F' H', f δ = .er c → Grow F H F' H' → W (cvOf K c) none σ H') (h3 : f δ = .bad → False) : tT K xi W f σ H Q := by
  refine ⟨F0, H0, F, δ, st, ?_⟩
  cases e : f δ with
  | ok s => exact fun F' H' g => h1 s F' H' e g
  | er c => exact fun F' H' g => h2 c F' H' e g
  | bad => exact h3 e
theorem tA_use {f : En → Rs (List Sl)} {Q : List V → Hp → Prop} (st : Stt K xi F0 H0 F H σ δ) (h1 : ∀ s v F' H', f δ = .ok s → Grow F H F' H' → RdL K F' H' v s → Q v H')
    (h2 : ∀ c F' H', f δ = .er c → Grow F H F' H' → W (cvOf K c) none σ H') (h3 : f δ = .bad → False) : tA K xi W f σ H Q := by
  refine ⟨F0, H0, F, δ, st, ?_⟩
  cases e : f δ with
  | ok s => exact fun v F' H' g r => h1 s v F' H' e g r
  | er c => exact fun F' H' g => h2 c F' H' e g
  | bad => exact h3 e
theorem RdL.grow {F1 H1 F2 H2 : Hp} (g : Grow F1 H1 F2 H2) (s : Same F1 H1) : ∀ {vs : List V} {ss : List Sl}, RdL K F1 H1 vs ss → RdL K F2 H2 vs ss
  | _, _, .nil => .nil
  | _, _, .cons r t => .cons (r.grow g s) (RdL.grow g s t)
end
end DL

namespace DL
open PySem PySem.Spec PyProof.Rows L2

def ofO : Option Sl → Rs Sl
  | some s => .ok s
  | none => .bad
def eOp (m : Sl → Sl → Option Sl) (f g : En → Rs Sl) : En → Rs Sl := fun δ => (f δ).bind fun a => (g δ).bind fun b => ofO (m a b)
def eUn (m : Sl → Option Sl) (f : En → Rs Sl) : En → Rs Sl := fun δ => (f δ).bind fun a => ofO (m a)
def eVar (i : Nat) : En → Rs Sl := fun δ => match δ[i]? with
  | some (some (.ml ds)) => .ok (.br ds)
  | some (some (.dc _)) => .bad
  | some (some (.ob _ _ _)) => .bad
  | some (some s) => .ok s
  | _ => .bad
def eC (d : D) : En → Rs Sl := fun _ => .ok (.im d)
/-- a new list is frozen -/
def frz : Sl → Rs Sl
  | .ml ds => .ok (.im (.list ds))
  | .br _ => .bad
  | s => .ok s
def eIm (f : En → Rs Sl) : En → Rs Sl := fun δ => (f δ).bind frz
def eNil : En → Rs (List Sl) := fun _ => .ok []
def eCons (f : En → Rs Sl) (r : En → Rs (List Sl)) : En → Rs (List Sl) := fun δ => (f δ).bind fun a => (r δ).bind fun as => .ok (a :: as)
def imOf : Sl → Option D
  | .im d => some d
  | _ => none
def imAll : List Sl → Option (List D)
  | [] => some []
  | .im d :: r => (imAll r).map (d :: ·)
  | _ => none
def ofO' {α : Type} : Option α → (α → Rs Sl) → Rs Sl
  | some a, k => k a
  | none, _ => .bad
def eTup (r : En → Rs (List Sl)) : En → Rs Sl := fun δ => (r δ).bind fun as => ofO' (imAll as) fun ds => if ds.length ≤ 16777216 then .ok (.im (.tuple ds)) else .bad
def eLst (r : En → Rs (List Sl)) : En → Rs Sl := fun δ => (r δ).bind fun as => ofO' (imAll as) fun ds => if ds.length ≤ 16777216 then .ok (.ml ds) else .bad
def eCB (m : List Sl → Option Sl) (r : En → Rs (List Sl)) : En → Rs Sl := fun δ => (r δ).bind fun as => ofO (m as)
def isB : Sl → Option Bool
  | .im (.bool b) => some b
  | _ => none
def eAnd (f g : En → Rs Sl) : En → Rs Sl := fun δ => (f δ).bind fun a => match isB a with
  | some true => g δ
  | some false => .ok (.im (.bool false))
  | none => .bad
def eOr (f g : En → Rs Sl) : En → Rs Sl := fun δ => (f δ).bind fun a => match isB a with
  | some true => .ok (.im (.bool true))
  | some false => g δ
  | none => .bad
def eNot (f : En → Rs Sl) : En → Rs Sl := fun δ => (f δ).bind fun a => match isB a with
  | some b => .ok (.im (.bool (!b)))
  | none => .bad
def cTest (f : En → Rs Sl) : En → Rs Bool := fun δ => (f δ).bind fun a => match isB a with
  | some b => .ok b
  | none => .bad
def cAnd (f g : En → Rs Bool) : En → Rs Bool := fun δ => (f δ).bind fun a => if a = true then g δ else .ok false
def cOr (f g : En → Rs Bool) : En → Rs Bool := fun δ => (f δ).bind fun a => if a = true then .ok true else g δ
def cNot (f : En → Rs Bool) : En → Rs Bool := fun δ => (f δ).bind fun a => .ok (!a)
def eIf (c : En → Rs Bool) (f g : En → Rs Sl) : En → Rs Sl := fun δ => (c δ).bind fun b => if b = true then f δ else g δ
def eChain (m m' : Sl → Sl → Option Sl) (f g h : En → Rs Sl) : En → Rs Sl := fun δ => (f δ).bind fun a => (g δ).bind fun b => (ofO (m a b)).bind fun k => match isB k with
  | some true => (h δ).bind fun c => ofO (m' b c)
  | some false => .ok (.im (.bool false))
  | none => .bad

/-! ### by values -/
def rD (K : PySem.W.Frag) (m : Sl → Sl → Option Sl) : R2 := fun x y H Q => ∃ F a b s, Same F H ∧ RdR K F H x a ∧ RdR K F H y b ∧ m a b = some s ∧ ∀ v F' H', Grow F H F' H' → RepR K H F' H' v s → Q v H'
def rU (K : PySem.W.Frag) (m : Sl → Option Sl) : V → Hp → VK → Prop := fun x H Q => ∃ F a s, Same F H ∧ RdR K F H x a ∧ m a = some s ∧ ∀ v F' H', Grow F H F' H' → RepR K H F' H' v s → Q v H'
def rC (K : PySem.W.Frag) (m : List Sl → Option Sl) : List V → Hp → VK → Prop := fun xs H Q => ∃ F as s, Same F H ∧ RdL K F H xs as ∧ m as = some s ∧ ∀ v F' H', Grow F H F' H' → RepR K H F' H' v s → Q v H'
theorem OpR.imp {X : Cx} {f : Value → Value → Sem Value} {r r' : R2} (h : OpR X f r) (i : ∀ x y H Q, r' x y H Q → r x y H Q) : OpR X f r' := fun pins s σ H x y v u Q I rx ry q => h pins s σ H x y v u Q I rx ry (i _ _ _ _ q)
theorem UnR.imp {X : Cx} {f : Value → Sem Value} {r r' : V → Hp → VK → Prop} (h : UnR X f r) (i : ∀ x H Q, r' x H Q → r x H Q) : UnR X f r' := fun pins s σ H x v Q I rx q => h pins s σ H x v Q I rx (i _ _ _ q)
theorem CallR.imp {X : Cx} {f : Value} {r r' : List V → Hp → VK → Prop} (h : CallR X f r) (i : ∀ x H Q, r' x H Q → r x H Q) : CallR X f r' := fun pins s σ H x v Q I rx q => h pins s σ H x v Q I rx (i _ _ _ q)

section
variable {X : Cx} {xi : Xi} {W : WX} {a b c e : Expr} {f g h : En → Rs Sl} {pos : Pos}

theorem pd_var (i : Nat) {x : Str} {pos : Pos} (hN : X.N[i]? = some x := by rfl) (hv : Vis X.env.scope x := by first | exact Or.inl rfl | exact Or.inr (Or.inl rfl) | exact Or.inr (Or.inr rfl)) (hd : (x == ("__debug__" : Str)) = false := by decide)
    (hcd : (x == ("__classdict__" : Str)) = false := by decide) : PD X xi W (.Name x pos) (eVar i) := by
  refine PE.imp (pe_var hN hv hd hcd) ?_
  rintro σ H Q ⟨F0, H0, F, δ, st, p⟩
  unfold eVar at p
  cases e : δ[i]? with
  | none => rw [e] at p; exact p.elim
  | some o =>
    cases o with
    | none => rw [e] at p; exact p.elim
    | some s =>
      obtain ⟨v, ev, r, _⟩ := st.sl i s e
      refine ⟨v, ev, ?_⟩
      rw [e] at p
      cases s with
      | ml ds => exact p v F H (Grow.refl st.sm) r.rd
      | im d => exact p v F H (Grow.refl st.sm) r
      | br d => exact p v F H (Grow.refl st.sm) r
      | ro d => exact p v F H (Grow.refl st.sm) r
      | xc d => exact p v F H (Grow.refl st.sm) r
      | dc d => exact p.elim
      | ob o c fs => exact p.elim
theorem tC_of {K : PySem.W.Frag} {v : V} {d : D} (r : ∀ F, Rp K F v d) : ∀ σ H Q, tD K xi W (eC d) σ H Q → tC v σ H Q := by
  rintro σ H Q ⟨F0, H0, F, δ, st, p⟩
  exact p v F H (Grow.refl st.sm) (r F)
theorem pd_int {i j pos} : PD X xi W (.Constant (.int i) j pos) (eC (.int i)) := PE.imp pe_int (tC_of fun _ => .int i)
theorem pd_bl {i j pos} : PD X xi W (.Constant (.bool i) j pos) (eC (.bool i)) := PE.imp pe_bl (tC_of fun _ => .bl i)
theorem pd_non {j pos} : PD X xi W (.Constant .none j pos) (eC .none) := PE.imp pe_non (tC_of fun _ => .non)
theorem pd_str {i j pos} : PD X xi W (.Constant (.str i) j pos) (eC (.str i)) := PE.imp pe_str (tC_of fun _ => .str i)
/-- a constant of the module -/
theorem pd_gint {x : Str} {i : Int} {pos : Pos} (hg : Gl X x) (hm : ∃ t, X.mg x = some (.int i t)) (hd : (x == ("__debug__" : Str)) = false := by decide) : PD X xi W (.Name x pos) (eC (.int i)) := by
  obtain ⟨t, hm⟩ := hm
  exact PE.imp (pe_glob (v := .int i) hg hm ⟨t, rfl⟩ hd) (tC_of fun _ => .int i)
theorem pd_gstr {x : Str} {i : Str} {pos : Pos} (hg : Gl X x) (hm : ∃ t, X.mg x = some (.str i t)) (hd : (x == ("__debug__" : Str)) = false := by decide) : PD X xi W (.Name x pos) (eC (.str i)) := by
  obtain ⟨t, hm⟩ := hm
  exact PE.imp (pe_glob (v := .str i) hg hm ⟨t, rfl⟩ hd) (tC_of fun _ => .str i)
theorem pd_op {op : Operator} {m : Sl → Sl → Option Sl} (ho : OpR X (binaryOp op) (rD X.K m)) (ha : PD X xi W a f) (hb : PD X xi W b g) : PD X xi W (.BinOp a op b pos) (eOp m f g) := by
  refine PE.imp (pe_op ho ha hb) ?_
  rintro σ H Q ⟨F0, H0, F, δ, st, p⟩
  refine tD_use st (fun x v F1 H1 e1 g1 r1 => ?_) (fun c F1 H1 e1 g1 => by simp only [eOp, e1, Rs.bind] at p; exact p F1 H1 g1) (fun e1 => by simp only [eOp, e1, Rs.bind] at p; exact p)
  refine tD_use (st.grow g1) (fun y u F2 H2 e2 g2 r2 => ?_) (fun c F2 H2 e2 g2 => by simp only [eOp, e1, e2, Rs.bind] at p; exact p F2 H2 (g1.trans g2)) (fun e2 => by simp only [eOp, e1, e2, Rs.bind] at p; exact p)
  simp only [eOp, e1, e2, Rs.bind] at p
  cases em : m x y with
  | none => rw [em] at p; exact p.elim
  | some s =>
    rw [em] at p
    exact ⟨F2, x, y, s, g2.sm, r1.rd.grow g2 g1.sm, r2.rd, em, fun v F' H' gg r => p v F' H' (g1.trans (g2.trans gg)) (r.pre (g1.hh.trans g2.hh))⟩
theorem pd_cmp {op : CmpOp} {m : Sl → Sl → Option Sl} (ho : OpR X (compareOp op) (rD X.K m)) (ha : PD X xi W a f) (hb : PD X xi W b g) (hm : behindInMarks op b = false := by first | exact nomark _ | rfl) : PD X xi W (.Compare a [op] [b] pos) (eOp m f g) := by
  refine PE.imp (pe_cmpR ho ha hb hm) ?_
  rintro σ H Q ⟨F0, H0, F, δ, st, p⟩
  refine tD_use st (fun x v F1 H1 e1 g1 r1 => ?_) (fun c F1 H1 e1 g1 => by simp only [eOp, e1, Rs.bind] at p; exact p F1 H1 g1) (fun e1 => by simp only [eOp, e1, Rs.bind] at p; exact p)
  refine tD_use (st.grow g1) (fun y u F2 H2 e2 g2 r2 => ?_) (fun c F2 H2 e2 g2 => by simp only [eOp, e1, e2, Rs.bind] at p; exact p F2 H2 (g1.trans g2)) (fun e2 => by simp only [eOp, e1, e2, Rs.bind] at p; exact p)
  simp only [eOp, e1, e2, Rs.bind] at p
  cases em : m x y with
  | none => rw [em] at p; exact p.elim
  | some s =>
    rw [em] at p
    exact ⟨F2, x, y, s, g2.sm, r1.rd.grow g2 g1.sm, r2.rd, em, fun v F' H' gg r => p v F' H' (g1.trans (g2.trans gg)) (r.pre (g1.hh.trans g2.hh))⟩
/-- as tests -/
theorem tTest_of {K : PySem.W.Frag} {f : En → Rs Sl} : ∀ σ H Q, tT K xi W (cTest f) σ H Q → tTest (tD K xi W f) σ H Q := by
  rintro σ H Q ⟨F0, H0, F, δ, st, p⟩
  refine tD_use st (fun x v F1 H1 e1 g1 r1 => ?_) (fun c F1 H1 e1 g1 => by simp only [cTest, e1, Rs.bind] at p; exact p F1 H1 g1) (fun e1 => by simp only [cTest, e1, Rs.bind] at p; exact p)
  simp only [cTest, e1, Rs.bind] at p
  cases em : isB x with
  | none => rw [em] at p; exact p.elim
  | some k =>
    rw [em] at p
    unfold isB at em
    split at em
    · cases em
      cases r1
      exact ⟨_, rfl, p F1 H1 g1⟩
    · cases em
theorem pt_cmp {op : CmpOp} {m : Sl → Sl → Option Sl} (ho : OpR X (compareOp op) (rD X.K m)) (ha : PD X xi W a f) (hb : PD X xi W b g) (hm : behindInMarks op b = false := by first | exact nomark _ | rfl) : PDT X xi W (.Compare a [op] [b] pos) (cTest (eOp m f g)) := by
  have h := pd_cmp (pos := pos) ho ha hb hm
  refine PT.imp (pt_cmpR ho ha hb hm) fun σ H Q q => ?_
  obtain ⟨F0, H0, F, δ, st, p⟩ := q
  refine tD_use st (fun x v F1 H1 e1 g1 r1 => ?_) (fun c F1 H1 e1 g1 => by simp only [cTest, eOp, e1, Rs.bind] at p; exact p F1 H1 g1) (fun e1 => by simp only [cTest, eOp, e1, Rs.bind] at p; exact p)
  refine tD_use (st.grow g1) (fun y u F2 H2 e2 g2 r2 => ?_) (fun c F2 H2 e2 g2 => by simp only [cTest, eOp, e1, e2, Rs.bind] at p; exact p F2 H2 (g1.trans g2)) (fun e2 => by simp only [cTest, eOp, e1, e2, Rs.bind] at p; exact p)
  simp only [cTest, eOp, e1, e2, Rs.bind] at p
  cases em : m x y with
  | none => rw [em] at p; exact p.elim
  | some s =>
    rw [em] at p
    refine ⟨F2, x, y, s, g2.sm, r1.rd.grow g2 g1.sm, r2.rd, em, fun v F' H' gg r => ?_⟩
    simp only [ofO] at p
    cases eb : isB s with
    | none => rw [eb] at p; exact p.elim
    | some k =>
      rw [eb] at p
      unfold isB at eb
      split at eb
      · cases eb
        cases r
        exact ⟨_, rfl, p F' H' (g1.trans (g2.trans gg))⟩
      · cases eb
theorem pt_of (h : PD X xi W e f) (he : ∀ whole, isTrue e X.env whole = (do let v ← whole; standAt e.pos; holding [v] (truthy v)) := by intro _; rfl) : PDT X xi W e (cTest f) := PT.imp (pt_val h he) tTest_of

theorem pd_un {op : UnaryOp} {m : Sl → Option Sl} (ho : UnR X (unaryOp op) (rU X.K m)) (ha : PD X xi W a f) : PD X xi W (.UnaryOp op a pos) (eUn m f) := by
  refine PE.imp (pe_un ho ha) ?_
  rintro σ H Q ⟨F0, H0, F, δ, st, p⟩
  refine tD_use st (fun x v F1 H1 e1 g1 r1 => ?_) (fun c F1 H1 e1 g1 => by simp only [eUn, e1, Rs.bind] at p; exact p F1 H1 g1) (fun e1 => by simp only [eUn, e1, Rs.bind] at p; exact p)
  simp only [eUn, e1, Rs.bind] at p
  cases em : m x with
  | none => rw [em] at p; exact p.elim
  | some s =>
    rw [em] at p
    exact ⟨F1, x, s, g1.sm, r1.rd, em, fun v F' H' gg r => p v F' H' (g1.trans gg) (r.pre g1.hh)⟩
theorem isB_some {s : Sl} {k : Bool} (h : isB s = some k) : s = .im (.bool k) := by
  unfold isB at h
  split at h
  · cases h; rfl
  · cases h
theorem Rp.bool_v {K : PySem.W.Frag} {F : Hp} {v : V} {k : Bool} (h : Rp K F v (.bool k)) : v = .bl k := by cases h; rfl
theorem chain_of {K : PySem.W.Frag} {m m' : Sl → Sl → Option Sl} : ∀ σ H Q, tD K xi W (eChain m m' f g h) σ H Q → tChain (rD K m) (rD K m') (tD K xi W f) (tD K xi W g) (tD K xi W h) σ H Q := by
  rintro σ H Q ⟨F0, H0, F, δ, st, p⟩
  refine tD_use st (fun x v F1 H1 e1 g1 r1 => ?_) (fun c F1 H1 e1 g1 => by simp only [eChain, e1, Rs.bind] at p; exact p F1 H1 g1) (fun e1 => by simp only [eChain, e1, Rs.bind] at p; exact p)
  refine tD_use (st.grow g1) (fun y u F2 H2 e2 g2 r2 => ?_) (fun c F2 H2 e2 g2 => by simp only [eChain, e1, e2, Rs.bind] at p; exact p F2 H2 (g1.trans g2)) (fun e2 => by simp only [eChain, e1, e2, Rs.bind] at p; exact p)
  simp only [eChain, e1, e2, Rs.bind] at p
  cases em : m x y with
  | none => rw [em] at p; exact p.elim
  | some s =>
    rw [em] at p
    simp only [ofO] at p
    have g12 := g1.trans g2
    refine ⟨F2, x, y, s, g2.sm, r1.rd.grow g2 g1.sm, r2.rd, em, fun v F3 H3 g3 r3 => ?_⟩
    cases eb : isB s with
    | none => rw [eb] at p; exact p.elim
    | some k =>
      rw [eb] at p
      obtain rfl := isB_some eb
      obtain rfl := Rp.bool_v r3
      refine ⟨k, rfl, ?_⟩
      cases k with
      | false => exact p _ F3 H3 (g12.trans g3) (.bl false)
      | true =>
        simp only [if_true]
        refine tD_use ((st.grow g12).grow g3) (fun z w F4 H4 e4 g4 r4 => ?_) (fun c F4 H4 e4 g4 => by simp only [e4] at p; exact p F4 H4 ((g12.trans g3).trans g4)) (fun e4 => by simp only [e4] at p; exact p)
        simp only [e4] at p
        cases em' : m' y z with
        | none => rw [em'] at p; exact p.elim
        | some s' =>
          rw [em'] at p
          exact ⟨F4, y, z, s', g4.sm, (r2.rd.grow g3 g2.sm).grow g4 g3.sm, r4.rd, em', fun v F' H' gg r => p v F' H' (((g12.trans g3).trans g4).trans gg) (r.pre ((g12.trans g3).trans g4).hh)⟩
theorem pd_chain {op op' : CmpOp} {m m' : Sl → Sl → Option Sl} (ho : OpR X (compareOp op) (rD X.K m)) (ho' : OpR X (compareOp op') (rD X.K m')) (ha : PD X xi W a f) (hb : PD X xi W b g) (hc : PD X xi W c h)
    (h1 : lastMarks [op, op'] [b, c] = false := by first | rfl | decide) : PD X xi W (.Compare a [op, op'] [b, c] pos) (eChain m m' f g h) :=
  PE.imp (pe_chain ho ho' ha hb hc h1) chain_of
theorem ptt_of {K : PySem.W.Frag} {t : TE} (i : ∀ σ H Q, tD K xi W f σ H Q → t σ H Q) : ∀ σ H Q, tT K xi W (cTest f) σ H Q → t σ H (fun x H' => ∃ k, x = .bl k ∧ Q k H') := by
  intro σ H Q q
  exact i σ H _ (tTest_eq q)
where tTest_eq {K : PySem.W.Frag} {σ H Q} (q : tT K xi W (cTest f) σ H Q) : tD K xi W f σ H (fun x H' => ∃ k, x = .bl k ∧ Q k H') := tTest_of σ H Q q
theorem pt_chain {op op' : CmpOp} {m m' : Sl → Sl → Option Sl} (ho : OpR X (compareOp op) (rD X.K m)) (ho' : OpR X (compareOp op') (rD X.K m')) (ha : PD X xi W a f) (hb : PD X xi W b g) (hc : PD X xi W c h)
    (h1 : lastMarks [op, op'] [b, c] = false := by first | rfl | decide) : PDT X xi W (.Compare a [op, op'] [b, c] pos) (cTest (eChain m m' f g h)) :=
  PT.imp (L2.pt_chain ho ho' ha hb hc h1) (ptt_of chain_of)

/-! ### and, or, not, if -/
variable {rest : List Expr}
theorem pd_one {op} (h : PD X xi W a f) : PD X xi W (.BoolOp op [a] pos) f := pe_one h
theorem pd_and (ha : PD X xi W a f) (hb : PD X xi W (.BoolOp .And (b :: rest) pos) g) : PD X xi W (.BoolOp .And (a :: b :: rest) pos) (eAnd f g) := by
  refine PE.imp (pe_and ha hb) ?_
  rintro σ H Q ⟨F0, H0, F, δ, st, p⟩
  refine tD_use st (fun x v F1 H1 e1 g1 r1 => ?_) (fun c F1 H1 e1 g1 => by simp only [eAnd, e1, Rs.bind] at p; exact p F1 H1 g1) (fun e1 => by simp only [eAnd, e1, Rs.bind] at p; exact p)
  simp only [eAnd, e1, Rs.bind] at p
  cases eb : isB x with
  | none => rw [eb] at p; exact p.elim
  | some k =>
    rw [eb] at p
    obtain rfl := isB_some eb
    obtain rfl := Rp.bool_v r1
    refine ⟨k, rfl, ?_⟩
    cases k with
    | false => exact p _ F1 H1 g1 (.bl false)
    | true =>
      simp only [if_true]
      refine tD_use (st.grow g1) (fun z w F2 H2 e2 g2 r2 => ?_) (fun c F2 H2 e2 g2 => ?_) (fun e2 => ?_) <;> simp only [e2] at p
      · exact p w F2 H2 (g1.trans g2) (r2.pre g1.hh)
      · exact p F2 H2 (g1.trans g2)
      · exact p
theorem pd_or (ha : PD X xi W a f) (hb : PD X xi W (.BoolOp .Or (b :: rest) pos) g) : PD X xi W (.BoolOp .Or (a :: b :: rest) pos) (eOr f g) := by
  refine PE.imp (pe_or ha hb) ?_
  rintro σ H Q ⟨F0, H0, F, δ, st, p⟩
  refine tD_use st (fun x v F1 H1 e1 g1 r1 => ?_) (fun c F1 H1 e1 g1 => by simp only [eOr, e1, Rs.bind] at p; exact p F1 H1 g1) (fun e1 => by simp only [eOr, e1, Rs.bind] at p; exact p)
  simp only [eOr, e1, Rs.bind] at p
  cases eb : isB x with
  | none => rw [eb] at p; exact p.elim
  | some k =>
    rw [eb] at p
    obtain rfl := isB_some eb
    obtain rfl := Rp.bool_v r1
    refine ⟨k, rfl, ?_⟩
    cases k with
    | true => exact p _ F1 H1 g1 (.bl true)
    | false =>
      simp only [Bool.false_eq_true, if_false]
      refine tD_use (st.grow g1) (fun z w F2 H2 e2 g2 r2 => ?_) (fun c F2 H2 e2 g2 => ?_) (fun e2 => ?_) <;> simp only [e2] at p
      · exact p w F2 H2 (g1.trans g2) (r2.pre g1.hh)
      · exact p F2 H2 (g1.trans g2)
      · exact p
theorem pd_not (ha : PD X xi W a f) : PD X xi W (.UnaryOp .Not a pos) (eNot f) := by
  refine PE.imp (pe_not ha) ?_
  rintro σ H Q ⟨F0, H0, F, δ, st, p⟩
  refine tD_use st (fun x v F1 H1 e1 g1 r1 => ?_) (fun c F1 H1 e1 g1 => by simp only [eNot, e1, Rs.bind] at p; exact p F1 H1 g1) (fun e1 => by simp only [eNot, e1, Rs.bind] at p; exact p)
  simp only [eNot, e1, Rs.bind] at p
  cases eb : isB x with
  | none => rw [eb] at p; exact p.elim
  | some k =>
    rw [eb] at p
    obtain rfl := isB_some eb
    obtain rfl := Rp.bool_v r1
    exact ⟨k, rfl, p _ F1 H1 g1 (.bl _)⟩
variable {cf cg : En → Rs Bool}
abbrev PDW (X : Cx) (xi : Xi) (W : WX) (e : Expr) (f : En → Rs Bool) : Prop := PW X e (tT X.K xi W f)
theorem pw_and1' (ha : PDT X xi W a cf) : PDW X xi W (.BoolOp .And [a] pos) cf := pw_and1 ha
theorem pw_or1' (ha : PDT X xi W a cf) : PDW X xi W (.BoolOp .Or [a] pos) cf := pw_or1 ha
theorem pdw_and (ha : PDT X xi W a cf) (hb : PDW X xi W (.BoolOp .And (b :: rest) pos) cg) : PDW X xi W (.BoolOp .And (a :: b :: rest) pos) (cAnd cf cg) := by
  refine PW.imp (pw_and ha hb) ?_
  rintro σ H Q ⟨F0, H0, F, δ, st, p⟩
  refine tT_use st (fun x F1 H1 e1 g1 => ?_) (fun c F1 H1 e1 g1 => by simp only [cAnd, e1, Rs.bind] at p; exact p F1 H1 g1) (fun e1 => by simp only [cAnd, e1, Rs.bind] at p; exact p)
  simp only [cAnd, e1, Rs.bind] at p
  cases x with
  | false => exact p F1 H1 g1
  | true =>
    simp only [if_true] at p ⊢
    refine tT_use (st.grow g1) (fun z F2 H2 e2 g2 => ?_) (fun c F2 H2 e2 g2 => ?_) (fun e2 => ?_) <;> simp only [e2] at p
    · exact p F2 H2 (g1.trans g2)
    · exact p F2 H2 (g1.trans g2)
    · exact p
theorem pdw_or (ha : PDT X xi W a cf) (hb : PDW X xi W (.BoolOp .Or (b :: rest) pos) cg) : PDW X xi W (.BoolOp .Or (a :: b :: rest) pos) (cOr cf cg) := by
  refine PW.imp (pw_or ha hb) ?_
  rintro σ H Q ⟨F0, H0, F, δ, st, p⟩
  refine tT_use st (fun x F1 H1 e1 g1 => ?_) (fun c F1 H1 e1 g1 => by simp only [cOr, e1, Rs.bind] at p; exact p F1 H1 g1) (fun e1 => by simp only [cOr, e1, Rs.bind] at p; exact p)
  simp only [cOr, e1, Rs.bind] at p
  cases x with
  | true => exact p F1 H1 g1
  | false =>
    simp only [Bool.false_eq_true, if_false] at p ⊢
    refine tT_use (st.grow g1) (fun z F2 H2 e2 g2 => ?_) (fun c F2 H2 e2 g2 => ?_) (fun e2 => ?_) <;> simp only [e2] at p
    · exact p F2 H2 (g1.trans g2)
    · exact p F2 H2 (g1.trans g2)
    · exact p
theorem pdt_w (h : PDW X xi W e cf) : PDT X xi W e cf := h.pt
theorem pdt_not (ha : PDT X xi W a cf) : PDT X xi W (.UnaryOp .Not a pos) (cNot cf) := by
  refine PT.imp (pt_not ha) ?_
  rintro σ H Q ⟨F0, H0, F, δ, st, p⟩
  refine tT_use st (fun x F1 H1 e1 g1 => ?_) (fun c F1 H1 e1 g1 => by simp only [cNot, e1, Rs.bind] at p; exact p F1 H1 g1) (fun e1 => by simp only [cNot, e1, Rs.bind] at p; exact p)
  simp only [cNot, e1, Rs.bind] at p
  exact p F1 H1 g1
theorem pd_if (hc : PDT X xi W c cf) (ha : PD X xi W a f) (hb : PD X xi W b g) : PD X xi W (.IfExp c a b pos) (eIf cf f g) := by
  refine PE.imp (pe_ifExp hc ha hb) ?_
  rintro σ H Q ⟨F0, H0, F, δ, st, p⟩
  refine tT_use st (fun x F1 H1 e1 g1 => ?_) (fun c F1 H1 e1 g1 => by simp only [eIf, e1, Rs.bind] at p; exact p F1 H1 g1) (fun e1 => by simp only [eIf, e1, Rs.bind] at p; exact p)
  simp only [eIf, e1, Rs.bind] at p
  cases x with
  | true =>
    simp only [if_true] at p ⊢
    refine tD_use (st.grow g1) (fun z w F2 H2 e2 g2 r2 => ?_) (fun c F2 H2 e2 g2 => ?_) (fun e2 => ?_) <;> simp only [e2] at p
    · exact p w F2 H2 (g1.trans g2) (r2.pre g1.hh)
    · exact p F2 H2 (g1.trans g2)
    · exact p
  | false =>
    simp only [Bool.false_eq_true, if_false] at p ⊢
    refine tD_use (st.grow g1) (fun z w F2 H2 e2 g2 r2 => ?_) (fun c F2 H2 e2 g2 => ?_) (fun e2 => ?_) <;> simp only [e2] at p
    · exact p w F2 H2 (g1.trans g2) (r2.pre g1.hh)
    · exact p F2 H2 (g1.trans g2)
    · exact p

/-! ### freezing, arguments, displays -/
theorem pd_im (ha : PD X xi W a f) : PD X xi W a (eIm f) := by
  refine PE.imp ha ?_
  rintro σ H Q ⟨F0, H0, F, δ, st, p⟩
  refine ⟨F0, H0, F, δ, st, ?_⟩
  unfold eIm at p
  cases e1 : f δ with
  | bad => rw [e1] at p; exact p
  | er c => rw [e1] at p; exact p
  | ok s =>
    rw [e1] at p
    cases s with
    | im d => exact p
    | br d => exact p.elim
    | ro d => exact p
    | xc d => exact p
    | dc d => exact p
    | ob o c fs => exact p
    | ml ds =>
      rintro v F1 H1 g ⟨q, xs, rfl, n, n', h, r⟩
      have s1 : Same F1 (upd F1 q (.lst xs)) := Same.new n'
      exact p (.ref q) (upd F1 q (.lst xs)) H1 (g.freeze n h) (.lst upd_same (RpA.mono s1 ds xs r))
variable {es : List Expr} {fs : En → Rs (List Sl)}
theorem pda_nil : PDA X xi W [] eNil := PA.imp pa_nil (by
  rintro σ H Q ⟨F0, H0, F, δ, st, p⟩
  exact p [] F H (Grow.refl st.sm) .nil)
theorem pda_cons (ha : PD X xi W e f) (hr : PDA X xi W es fs) (hs : starEach (e :: es) X.env = (false, eval e X.env) :: starEach es X.env := by rfl) : PDA X xi W (e :: es) (eCons f fs) := by
  refine PA.imp (pa_cons ha hr hs) ?_
  rintro σ H Q ⟨F0, H0, F, δ, st, p⟩
  refine tD_use st (fun x v F1 H1 e1 g1 r1 => ?_) (fun c F1 H1 e1 g1 => by simp only [eCons, e1, Rs.bind] at p; exact p F1 H1 g1) (fun e1 => by simp only [eCons, e1, Rs.bind] at p; exact p)
  refine tA_use (st.grow g1) (fun y u F2 H2 e2 g2 r2 => ?_) (fun c F2 H2 e2 g2 => by simp only [eCons, e1, e2, Rs.bind] at p; exact p F2 H2 (g1.trans g2)) (fun e2 => by simp only [eCons, e1, e2, Rs.bind] at p; exact p)
  simp only [eCons, e1, e2, Rs.bind] at p
  exact p (v :: u) F2 H2 (g1.trans g2) (.cons (r1.rd.grow g2 g1.sm) r2)
theorem RdL.ims {K : PySem.W.Frag} {F H : Hp} : ∀ {vs : List V} {ss : List Sl} {ds : List D}, RdL K F H vs ss → imAll ss = some ds → RpA K F vs ds
  | _, _, ds, .nil, e => by cases e; exact .nil
  | _, s :: ss, ds, .cons r t, e => by
    cases s with
    | im d =>
      unfold imAll at e
      obtain ⟨r', e1, e2⟩ := Option.map_eq_some_iff.mp e
      subst e2
      exact .cons r (t.ims e1)
    | _ => cases e
theorem pd_tup {x1} (ha : PDA X xi W es fs) : PD X xi W (.Tuple es x1 pos) (eTup fs) := by
  refine PE.imp (pe_tup ha) ?_
  rintro σ H Q ⟨F0, H0, F, δ, st, p⟩
  refine tA_use st (fun x v F1 H1 e1 g1 r1 => ?_) (fun c F1 H1 e1 g1 => by simp only [eTup, e1, Rs.bind] at p; exact p F1 H1 g1) (fun e1 => by simp only [eTup, e1, Rs.bind] at p; exact p)
  simp only [eTup, e1, Rs.bind] at p
  cases em : imAll x with
  | none => rw [em] at p; exact p.elim
  | some ds =>
    rw [em] at p
    simp only [ofO'] at p
    by_cases hl : ds.length ≤ 16777216
    · rw [if_pos hl] at p
      have r := r1.ims em
      refine ⟨by rw [r.length, sizeLine_eq]; exact hl, fun q hq => ?_⟩
      exact p _ (upd F1 q (.tup v)) _ (g1.trans (Grow.new g1.sm hq)) (.tup (SqT.of upd_same) (RpA.mono (Same.new (Same.none g1.sm hq)) ds v r))
    · rw [if_neg hl] at p; exact p.elim
theorem pd_lst (ha : PDA X xi W es fs) : PD X xi W (.List es pos) (eLst fs) := by
  refine PE.imp (pe_lst ha) ?_
  rintro σ H Q ⟨F0, H0, F, δ, st, p⟩
  refine tA_use st (fun x v F1 H1 e1 g1 r1 => ?_) (fun c F1 H1 e1 g1 => by simp only [eLst, e1, Rs.bind] at p; exact p F1 H1 g1) (fun e1 => by simp only [eLst, e1, Rs.bind] at p; exact p)
  simp only [eLst, e1, Rs.bind] at p
  cases em : imAll x with
  | none => rw [em] at p; exact p.elim
  | some ds =>
    rw [em] at p
    simp only [ofO'] at p
    by_cases hl : ds.length ≤ 16777216
    · rw [if_pos hl] at p
      have r := r1.ims em
      refine ⟨by rw [r.length, sizeLine_eq]; exact hl, fun q hq => ?_⟩
      exact p _ F1 _ (g1.trans (Grow.newO g1.sm hq)) ⟨q, v, rfl, Same.free g1.hh hq, Same.none g1.sm hq, upd_same, r⟩
    · rw [if_neg hl] at p; exact p.elim

/-! ### built-in calls -/
theorem cb_of {K : PySem.W.Frag} {m : List Sl → Option Sl} : ∀ σ H Q, tD K xi W (eCB m fs) σ H Q → tCB (rC K m) (tA K xi W fs) σ H Q := by
  rintro σ H Q ⟨F0, H0, F, δ, st, p⟩
  refine tA_use st (fun x v F1 H1 e1 g1 r1 => ?_) (fun c F1 H1 e1 g1 => by simp only [eCB, e1, Rs.bind] at p; exact p F1 H1 g1) (fun e1 => by simp only [eCB, e1, Rs.bind] at p; exact p)
  simp only [eCB, e1, Rs.bind] at p
  cases em : m x with
  | none => rw [em] at p; exact p.elim
  | some s =>
    rw [em] at p
    exact ⟨F1, x, s, g1.sm, r1, em, fun v F' H' gg r => p v F' H' (g1.trans gg) (r.pre g1.hh)⟩
theorem pd_callB {x id : String} {p : Pos} {m : List Sl → Option Sl} (hc : CallR X (.builtin id) (rC X.K m)) (hg : Gl X x) (hm : X.mg x = none) (hv : bootBuiltins x = some (.builtin id)) (ha : PDA X xi W (e :: es) fs) (hn : (Str.ofString x) ≠ "__name__" := by decide) (hdb : ((Str.ofString x) == ("__debug__" : Str)) = false := by decide)
    (he : starEach (e :: es) X.env = (false, eval e X.env) :: starEach es X.env := by rfl) (hpl : (backTo pos (starEach es X.env)).any (·.1) = false := by rfl) : PD X xi W (.Call (.Name x p) (e :: es) [] pos) (eCB m fs) :=
  PE.imp (pe_callB hc hg hm hv ha hn hdb he hpl) cb_of
theorem pd_callTy {x T : String} {p : Pos} {m : List Sl → Option Sl} (hc : CallR X (.type T) (rC X.K m)) (hg : Gl X x) (hm : X.mg x = none) (hv : bootBuiltins x = some (.type T)) (ha : PDA X xi W (e :: es) fs) (hn : (Str.ofString x) ≠ "__name__" := by decide) (hdb : ((Str.ofString x) == ("__debug__" : Str)) = false := by decide)
    (he : starEach (e :: es) X.env = (false, eval e X.env) :: starEach es X.env := by rfl) (hpl : (backTo pos (starEach es X.env)).any (·.1) = false := by rfl) : PD X xi W (.Call (.Name x p) (e :: es) [] pos) (eCB m fs) :=
  PE.imp (pe_callTy hc hg hm hv ha hn hdb he hpl) cb_of
end

/-! ### calls of defs -/
def froz : Sl → Bool
  | .im _ => true
  | .ro _ => true
  | _ => false
def PostC (K : PySem.W.Frag) (F H : Hp) (Q : VK) (E : XK) : Rs Sl → Prop
  | .ok s => ∀ v F' H', Grow F H F' H' → RepR K H F' H' v s → Q v H'
  | .er c => ∀ F' H', Grow F H F' H' → E (cvOf K c) none H'
  | .bad => False
/-- a def that is the function m of its n arguments -/
def spD (K : PySem.W.Frag) (n : Nat) (m : List Sl → Rs Sl) : Sp := fun vs H Q E => vs.length = n ∧ ∃ F as, Same F H ∧ RdL K F H vs as ∧ as.all froz = true ∧ PostC K F H Q E (m as)
def eCall (m : List Sl → Rs Sl) (fs : En → Rs (List Sl)) : En → Rs Sl := fun δ => (fs δ).bind fun as => if as.all froz = true then m as else .bad
theorem RdL.length {K : PySem.W.Frag} {F H : Hp} : ∀ {vs : List V} {ss : List Sl}, RdL K F H vs ss → vs.length = ss.length
  | _, _, .nil => rfl
  | _, _, .cons _ t => by simp [t.length]
section
variable {X : Cx} {xi : Xi} {W : WX} {e : Expr} {es : List Expr} {fs : En → Rs (List Sl)} {pos p : Pos} {k n : Nat} {f : Addr} {fd : FuncData} {ps : List Str} {m : List Sl → Rs Sl} {x : Str}
def eLen (n : Nat) (fs : En → Rs (List Sl)) : Prop := ∀ δ as, fs δ = .ok as → as.length = n
theorem eLen_nil : eLen 0 eNil := fun δ as e => by cases e; rfl
theorem eLen_cons {g : En → Rs Sl} {n : Nat} (h : eLen n fs) : eLen (n + 1) (eCons g fs) := fun δ as e => by
  unfold eCons at e
  cases e1 : g δ with
  | ok s =>
    rw [e1] at e
    simp only [Rs.bind] at e
    cases e2 : fs δ with
    | ok r =>
      rw [e2] at e
      cases e
      simp [h δ r e2]
    | er c => rw [e2] at e; cases e
    | bad => rw [e2] at e; cases e
  | er c => rw [e1] at e; cases e
  | bad => rw [e1] at e; cases e
theorem pd_call (F : FnOk X.prog X.w X.K X.mg X.base (L2N.CX X.prog X.w) k f fd ps (spD X.K n m)) (hr : Room k X.A) (hg : Gl X x) (hm : X.mg x = some (.ref f)) (hk : PySem.W.keepIn X.K (.ref f) = true) (hb : Binds X.K fd ps []) (tk : L2N.Takes X W)
    (ha : PDA X xi W (e :: es) fs) (hl : eLen n fs) (hdb : (x == ("__debug__" : Str)) = false := by decide) (he : starEach (e :: es) X.env = (false, eval e X.env) :: starEach es X.env := by rfl) (hpl : (backTo pos (starEach es X.env)).any (·.1) = false := by rfl) :
    PD X xi W (.Call (.Name x p) (e :: es) [] pos) (eCall m fs) := by
  refine PE.imp (pe_callS F hr hg hm hk hb (fun σ => L2N.passAt tk σ) ha hdb he hpl) ?_
  rintro σ H Q ⟨F0, H0, F, δ, st, p⟩
  refine tA_use st (fun x v F1 H1 e1 g1 r1 => ?_) (fun c F1 H1 e1 g1 => by simp only [eCall, e1, Rs.bind] at p; exact p F1 H1 g1) (fun e1 => by simp only [eCall, e1, Rs.bind] at p; exact p)
  simp only [eCall, e1, Rs.bind] at p
  by_cases hf : x.all froz = true
  · rw [if_pos hf] at p
    refine ⟨by rw [r1.length]; exact hl δ x e1, F1, x, g1.sm, r1, hf, ?_⟩
    cases em : m x with
    | ok s =>
      rw [em] at p
      exact fun v F' H' gg r => p v F' H' (g1.trans gg) (r.pre g1.hh)
    | er c =>
      rw [em] at p
      exact fun F' H' gg => p F' H' (g1.trans gg)
    | bad => rw [em] at p; exact p
  · rw [if_neg hf] at p; exact p.elim
end
end DL

namespace DL
open PySem PySem.Spec PyProof.Rows L2

/-- the items of a list that is read -/
def lstOf : Sl → Option (List D)
  | .im (.list ds) => some ds
  | .ml ds => some ds
  | .br ds => some ds
  | .ro ns => some (ns.map PyData.int)
  | _ => none
/-- .. of one that is not the script -/
def lstOfM : Sl → Option (List D)
  | .im (.list ds) => some ds
  | .ml ds => some ds
  | .br ds => some ds
  | _ => none
def tupOf : Sl → Option (List D)
  | .im (.tuple ds) => some ds
  | _ => none
section
variable {K : PySem.W.Frag} {F H : Hp} {v : V}
theorem RdR.lst (s : Same F H) {t : Sl} {ds : List D} (r : RdR K F H v t) (e : lstOf t = some ds) : ∃ p xs, v = .ref p ∧ SqL K H p xs ∧ RpA K F xs ds := by
  unfold lstOf at e
  split at e
  · have e := Option.some.inj e
    subst e
    have r : Rp K F v (.list _) := r
    cases r with
    | lst h1 h2 => exact ⟨_, _, rfl, SqL.of (s _ _ h1), h2⟩
  · have e := Option.some.inj e
    subst e
    obtain ⟨p, xs, ev, h, r⟩ := r
    exact ⟨p, xs, ev, SqL.of h, r⟩
  · have e := Option.some.inj e
    subst e
    obtain ⟨p, xs, ev, h, r⟩ := r
    exact ⟨p, xs, ev, SqL.of h, r⟩
  · have e := Option.some.inj e
    subst e
    obtain ⟨p, ev, h⟩ := r
    exact ⟨p, _, ev, same_l s h, RpA.ints _⟩
  · cases e
theorem RdR.lstM (s : Same F H) {t : Sl} {ds : List D} (r : RdR K F H v t) (e : lstOfM t = some ds) : ∃ p xs, v = .ref p ∧ H p = some (.lst xs) ∧ RpA K F xs ds := by
  unfold lstOfM at e
  split at e
  · have e := Option.some.inj e
    subst e
    have r : Rp K F v (.list _) := r
    cases r with
    | lst h1 h2 => exact ⟨_, _, rfl, s _ _ h1, h2⟩
  · have e := Option.some.inj e
    subst e
    exact r
  · have e := Option.some.inj e
    subst e
    exact r
  · cases e
theorem RdR.tup (s : Same F H) {t : Sl} {ds : List D} (r : RdR K F H v t) (e : tupOf t = some ds) : ∃ p xs, v = .ref p ∧ SqT K H p xs ∧ RpA K F xs ds := by
  cases t with
  | im d =>
    cases d with
    | tuple _ =>
      cases e
      cases r with
      | tup h1 h2 => exact ⟨_, _, rfl, same_t s h1, h2⟩
    | _ => cases e
  | _ => cases e
end

/-! ### ints -/
def mInt (g : Int → Int → D) : Sl → Sl → Option Sl
  | .im (.int i), .im (.int j) => some (.im (g i j))
  | _, _ => none
def mIntC (C : Int → Int → Bool) (g : Int → Int → D) : Sl → Sl → Option Sl
  | .im (.int i), .im (.int j) => if C i j = true then some (.im (g i j)) else none
  | _, _ => none
def dV : D → V
  | .bool b => .bl b
  | .int i => .int i
  | .str x => .str x
  | _ => .non
theorem int_of {K : PySem.W.Frag} {g : Int → Int → D} {gv : Int → Int → V} (hg : ∀ F i j, Rp K F (gv i j) (g i j)) : ∀ x y H Q, rD K (mInt g) x y H Q → rI0 gv x y H Q := by
  rintro x y H Q ⟨F, a, b, s, sm, ra, rb, e, q⟩
  unfold mInt at e
  split at e
  · cases e
    cases ra; cases rb
    exact ⟨_, _, rfl, rfl, q _ F H (Grow.refl sm) (hg F _ _)⟩
  · cases e
theorem intC_of {K : PySem.W.Frag} {C : Int → Int → Bool} {P : Int → Int → Prop} {g : Int → Int → D} {gv : Int → Int → V} (hg : ∀ F i j, Rp K F (gv i j) (g i j)) (hC : ∀ i j, C i j = true → P i j) : ∀ x y H Q, rD K (mIntC C g) x y H Q → rI P gv x y H Q := by
  rintro x y H Q ⟨F, a, b, s, sm, ra, rb, e, q⟩
  unfold mIntC at e
  split at e
  · split at e
    · rename_i hc
      cases e
      cases ra; cases rb
      exact ⟨_, _, rfl, rfl, hC _ _ hc, q _ F H (Grow.refl sm) (hg F _ _)⟩
    · cases e
  · cases e
/-! + : ints, texts, lists, tuples -/
def mAdd (a b : Sl) : Option Sl := match a, b with
  | .im (.int i), .im (.int j) => some (.im (.int (i + j)))
  | .im (.str x), .im (.str y) => if x.length + y.length ≤ 16777216 then some (.im (.str (x ++ y))) else none
  | .im (.tuple xs), .im (.tuple ys) => if xs.length + ys.length ≤ 16777216 then some (.im (.tuple (xs ++ ys))) else none
  | a, b => match lstOfM a, lstOfM b with
    | some xs, some ys => if xs.length + ys.length ≤ 16777216 then some (.ml (xs ++ ys)) else none
    | _, _ => none
section
variable {X : Cx}
theorem o_add : OpR X (binaryOp .Add) (rD X.K mAdd) := by
  refine OpR.imp (op_add.or (op_add_str.or (op_cat.or op_catA))) ?_
  rintro x y H Q ⟨F, a, b, s, sm, ra, rb, e, q⟩
  unfold mAdd at e
  split at e
  · cases e
    cases ra; cases rb
    exact .inl ⟨_, _, rfl, rfl, q _ F H (Grow.refl sm) (.int _)⟩
  · split at e
    · rename_i h
      cases e
      cases ra; cases rb
      exact .inr (.inl ⟨_, _, rfl, rfl, by rw [sizeLine_eq]; exact h, q _ F H (Grow.refl sm) (.str _)⟩)
    · cases e
  · split at e
    · rename_i h
      cases e
      cases ra with
      | tup a1 a2 =>
        cases rb with
        | tup b1 b2 =>
          rename_i p xs p' ys
          refine .inr (.inr (.inr ⟨_, _, _, _, rfl, rfl, same_t sm a1, same_t sm b1, by rw [a2.length, b2.length, sizeLine_eq]; exact h, fun hn => ?_, fun _ hn => ?_, fun _ _ p hp => ?_⟩))
          · subst hn
            have e0 := a2.length
            cases a2
            exact q _ F H (Grow.refl sm) (.tup b1 (by simpa using b2))
          · subst hn
            cases b2
            exact q _ F H (Grow.refl sm) (.tup a1 (by simpa using a2))
          · exact q _ _ _ (Grow.new sm hp) (.tup (SqT.of upd_same) (RpA.mono (Same.new (Same.none sm hp)) _ _ (a2.append b2)))
    · cases e
  · split at e
    · rename_i h1 h2
      split at e
      · rename_i h
        cases e
        obtain ⟨p, xs, rfl, hp, r1⟩ := RdR.lstM sm ra h1
        obtain ⟨p', ys, rfl, hp', r2⟩ := RdR.lstM sm rb h2
        refine .inr (.inr (.inl ⟨p, p', xs, ys, rfl, rfl, hp, hp', by rw [r1.length, r2.length, sizeLine_eq]; exact h, fun z hz => ?_⟩))
        exact q _ F _ (Grow.newO sm hz) ⟨z, _, rfl, hz, Same.none sm hz, upd_same, r1.append r2⟩
      · cases e
    · cases e
def mSub : Sl → Sl → Option Sl := mInt fun i j => .int (i - j)
theorem o_sub : OpR X (binaryOp .Sub) (rD X.K mSub) := OpR.imp op_sub (int_of fun _ _ _ => .int _)
/-- by whole numbers from 0, so that it stops where a variable stands -/
def smI (n : Nat) (i : Int) : Bool := Nat.ble (i.natAbs + 1) n
theorem smI_lt {n : Nat} {i : Int} : smI n i = true ↔ i.natAbs < n := by
  unfold smI; rw [Nat.ble_eq]; exact Iff.rfl
def mulOk (i j : Int) : Bool := smI 18446744073709551616 i || (smI 18446744073709551616 j || decide (i.natAbs.log2 + j.natAbs.log2 < 1000000))
theorem smI_64 {i : Int} (h : smI 18446744073709551616 i = true) : -(2 ^ 64) < i ∧ i < 2 ^ 64 := by
  have := smI_lt.mp h
  have e : (2 : Int) ^ 64 = 18446744073709551616 := by decide
  rw [e]
  omega
def mMul (a b : Sl) : Option Sl := match a, b with
  | .im (.int i), .im (.int j) => if mulOk i j = true then some (.im (.int (i * j))) else none
  | a, .im (.int k) => match lstOfM a with
    | some xs => if smI 9223372036854775808 k && decide (xs.length * k.toNat ≤ 16777216) then some (.ml (List.replicate k.toNat xs).flatten) else none
    | none => none
  | _, _ => none
theorem RpA.rep {K : PySem.W.Frag} {F : Hp} {vs : List V} {ds : List D} (h : RpA K F vs ds) : ∀ n, RpA K F (List.replicate n vs).flatten (List.replicate n ds).flatten
  | 0 => .nil
  | n + 1 => by
    rw [List.replicate_succ, List.replicate_succ, List.flatten_cons, List.flatten_cons]
    exact h.append (RpA.rep h n)
theorem o_mul : OpR X (binaryOp .Mult) (rD X.K mMul) := by
  refine OpR.imp ((opI fun _ _ _ _ _ _ _ (hc : IntMulOk _ _) q => mul_int q hc).or op_rep) ?_
  rintro x y H Q ⟨F, a, b, s, sm, ra, rb, e, q⟩
  unfold mMul at e
  split at e
  · split at e
    · rename_i i j h
      cases e
      cases ra; cases rb
      refine .inl ⟨_, _, rfl, rfl, ?_, q _ F H (Grow.refl sm) (.int _)⟩
      unfold mulOk at h
      rw [Bool.or_eq_true, Bool.or_eq_true] at h
      rcases h with h | h | h
      · exact CMul.ok (.inl (smI_64 h))
      · exact CMul.ok (.inr (smI_64 h))
      · exact CMulW.ok (id (of_decide_eq_true h : _ < _))
    · cases e
  · split at e
    · rename_i xs hx
      split at e
      · rename_i h
        cases e
        simp only [Bool.and_eq_true, decide_eq_true_eq] at h
        have hk := smI_lt.mp h.1
        have e63 : (2 : Int) ^ 63 = 9223372036854775808 := by decide
        cases rb
        obtain ⟨p, vs, rfl, hp, r⟩ := RdR.lstM sm ra hx
        refine .inr ⟨p, _, vs, rfl, rfl, hp, by rw [e63]; omega, by rw [e63]; omega, by rw [r.length, sizeLine_eq]; exact h.2, fun z hz => ?_⟩
        exact q _ F _ (Grow.newO sm hz) ⟨z, _, rfl, hz, Same.none sm hz, upd_same, r.rep _⟩
      · cases e
    · cases e
  · cases e
def mMod : Sl → Sl → Option Sl := mIntC (fun _ j => decide (0 < j)) fun i j => .int (i % j)
theorem o_mod : OpR X (binaryOp .Mod) (rD X.K mMod) := OpR.imp op_mod (intC_of (fun _ _ _ => .int _) fun _ _ h => of_decide_eq_true h)
def fdivOk (j : Int) : Bool := decide (0 < j) && decide (j.natAbs.log2 < 9000)
def mFdiv : Sl → Sl → Option Sl := mIntC (fun _ j => fdivOk j) fun i j => .int (i / j)
theorem o_fdiv : OpR X (binaryOp .FloorDiv) (rD X.K mFdiv) := OpR.imp op_fdivW (intC_of (fun _ _ _ => .int _) fun i j h => by
  unfold fdivOk at h
  simp only [Bool.and_eq_true, decide_eq_true_eq] at h
  exact h)
def powOk (i j : Int) : Bool := decide (0 ≤ j) && smI 1000001 j && smI 18446744073709551616 i
def mPow : Sl → Sl → Option Sl := mIntC powOk fun i j => .int (i ^ j.toNat)
theorem o_pow : OpR X (binaryOp .Pow) (rD X.K mPow) := OpR.imp op_pow (intC_of (fun _ _ _ => .int _) fun i j h => by
  unfold powOk at h
  simp only [Bool.and_eq_true, decide_eq_true_eq] at h
  have e64 : (2 : Nat) ^ 64 = 18446744073709551616 := by decide
  have h1 := smI_lt.mp h.1.2
  have h2 := smI_lt.mp h.2
  exact ⟨h.1.1, by omega, by rw [e64]; exact h2⟩)
/-! op= -/
theorem io_add : OpR X (inplaceOp .Add) (rD X.K (mInt fun i j => .int (i + j))) := OpR.imp iop_add (int_of fun _ _ _ => .int _)
theorem io_sub : OpR X (inplaceOp .Sub) (rD X.K mSub) := OpR.imp iop_sub (int_of fun _ _ _ => .int _)
def mMulI : Sl → Sl → Option Sl := mIntC mulOk fun i j => .int (i * j)
theorem io_mul : OpR X (inplaceOp .Mult) (rD X.K mMulI) := OpR.imp (opI fun _ _ _ _ _ _ _ (hc : IntMulOk _ _) q => imul_int q hc) (intC_of (fun _ _ _ => .int _) fun i j h => by
  unfold mulOk at h
  rw [Bool.or_eq_true, Bool.or_eq_true] at h
  rcases h with h | h | h
  · exact CMul.ok (.inl (smI_64 h))
  · exact CMul.ok (.inr (smI_64 h))
  · exact CMulW.ok (id (of_decide_eq_true h : _ < _)))
def fdivOkI (j : Int) : Bool := decide (0 < j) && smI 1073741824 j
def mFdivI : Sl → Sl → Option Sl := mIntC (fun _ j => fdivOkI j) fun i j => .int (i / j)
theorem io_fdiv : OpR X (inplaceOp .FloorDiv) (rD X.K mFdivI) := OpR.imp iop_fdiv (intC_of (fun _ _ _ => .int _) fun i j h => by
  unfold fdivOkI at h
  simp only [Bool.and_eq_true, decide_eq_true_eq] at h
  have h1 := smI_lt.mp h.2
  exact ⟨h.1, by omega⟩)
def mNeg : Sl → Option Sl
  | .im (.int i) => some (.im (.int (-i)))
  | _ => none
theorem o_neg : UnR X (unaryOp .USub) (rU X.K mNeg) := UnR.imp un_neg (by
  rintro x H Q ⟨F, a, s, sm, ra, e, q⟩
  unfold mNeg at e
  split at e
  · cases e
    cases ra
    exact ⟨_, rfl, q _ F H (Grow.refl sm) (.int _)⟩
  · cases e)

/-! ### comparisons -/
def mLt : Sl → Sl → Option Sl := mInt fun i j => .bool (decide (i < j))
def mLe : Sl → Sl → Option Sl := mInt fun i j => .bool (decide (i ≤ j))
def mGt : Sl → Sl → Option Sl := mInt fun i j => .bool (decide (j < i))
def mGe : Sl → Sl → Option Sl := mInt fun i j => .bool (decide (j ≤ i))
theorem o_lt : OpR X (compareOp .Lt) (rD X.K mLt) := OpR.imp op_lt (int_of fun _ _ _ => .bl _)
theorem o_le : OpR X (compareOp .LtE) (rD X.K mLe) := OpR.imp op_le (int_of fun _ _ _ => .bl _)
theorem o_gt : OpR X (compareOp .Gt) (rD X.K mGt) := OpR.imp op_gt (int_of fun _ _ _ => .bl _)
theorem o_ge : OpR X (compareOp .GtE) (rD X.K mGe) := OpR.imp op_ge (int_of fun _ _ _ => .bl _)
/-- the data of a value -/
def datOf : Sl → Option D
  | .im d => some d
  | .ml ds => some (.list ds)
  | .br ds => some (.list ds)
  | _ => none
theorem RdR.dp {K : PySem.W.Frag} {F H : Hp} {v : V} (s : Same F H) {t : Sl} {d : D} (r : RdR K F H v t) (e : datOf t = some d) : Dp K H v d := by
  unfold datOf at e
  split at e
  · have e := Option.some.inj e
    subst e
    exact Rp.dp s _ _ r
  · have e := Option.some.inj e
    subst e
    obtain ⟨p, xs, ev, h, r⟩ := r
    subst ev
    exact .lst (SqL.of h) (RpA.dp s _ _ r)
  · have e := Option.some.inj e
    subst e
    obtain ⟨p, xs, ev, h, r⟩ := r
    subst ev
    exact .lst (SqL.of h) (RpA.dp s _ _ r)
  · cases e
def eqD (a b : Sl) : Option Bool := match a, b with
  | .im (.int i), .im (.int j) => some (decide (i = j))
  | .im (.str x), .im (.str y) => some (decide (x = y))
  | .im (.bool x), .im (.bool y) => some (decide (x = y))
  | .im .none, .im .none => some true
  | .im .none, .im (.str _) => some false
  | .im (.str _), .im .none => some false
  | .im .none, .im (.int _) => some false
  | .im (.int _), .im .none => some false
  | .im (.int _), .im (.str _) => some false
  | .im (.str _), .im (.int _) => some false
  | a, b => match datOf a, datOf b with
    | some d, some e => if SeqAt.shaped d && SeqAt.shaped e then some (PyData.eqv d e) else none
    | _, _ => none
def mEq (a b : Sl) : Option Sl := (eqD a b).map fun k => .im (.bool k)
def mNe (a b : Sl) : Option Sl := (eqD a b).map fun k => .im (.bool (!k))
theorem eqD_of {K : PySem.W.Frag} {F H : Hp} {x y : V} {a b : Sl} {k : Bool} (sm : Same F H) (ra : RdR K F H x a) (rb : RdR K F H y b) (e : eqD a b = some k) :
    (scal x y = true ∧ decide (x = y) = k) ∨ ∃ d e, Dp K H x d ∧ Dp K H y e ∧ SeqAt.shaped d = true ∧ SeqAt.shaped e = true ∧ PyData.eqv d e = k := by
  unfold eqD at e
  split at e
  · cases e; cases ra; cases rb; exact .inl ⟨rfl, by rw [Bool.eq_iff_iff]; simp⟩
  · cases e; cases ra; cases rb; exact .inl ⟨rfl, by rw [Bool.eq_iff_iff]; simp⟩
  · cases e; cases ra; cases rb; exact .inl ⟨rfl, by rw [Bool.eq_iff_iff]; simp⟩
  · cases e; cases ra; cases rb; exact .inl ⟨rfl, rfl⟩
  · cases e; cases ra; cases rb; exact .inl ⟨rfl, rfl⟩
  · cases e; cases ra; cases rb; exact .inl ⟨rfl, rfl⟩
  · cases e; cases ra; cases rb; exact .inl ⟨rfl, rfl⟩
  · cases e; cases ra; cases rb; exact .inl ⟨rfl, rfl⟩
  · cases e; cases ra; cases rb; exact .inl ⟨rfl, rfl⟩
  · cases e; cases ra; cases rb; exact .inl ⟨rfl, rfl⟩
  · split at e
    · rename_i d e' h1 h2
      split at e
      · rename_i h
        simp only [Bool.and_eq_true] at h
        cases e
        exact .inr ⟨d, e', RdR.dp sm ra h1, RdR.dp sm rb h2, h.1, h.2, rfl⟩
      · cases e
    · cases e
theorem o_eq (hu : X.A.units + 64 < cLine) : OpR X (compareOp .Eq) (rD X.K mEq) := by
  refine OpR.imp (op_eq.or (op_eqD hu)) ?_
  rintro x y H Q ⟨F, a, b, s, sm, ra, rb, e, q⟩
  obtain ⟨k, ek, rfl⟩ := Option.map_eq_some_iff.mp e
  have q' := q (.bl k) F H (Grow.refl sm) (.bl k)
  rcases eqD_of sm ra rb ek with ⟨h1, h2⟩ | ⟨d, e, h1, h2, h3, h4, h5⟩
  · exact .inl ⟨h1, by rw [h2]; exact q'⟩
  · exact .inr ⟨d, e, h1, h2, h3, h4, by rw [h5]; exact q'⟩
theorem o_ne (hu : X.A.units + 64 < cLine) : OpR X (compareOp .NotEq) (rD X.K mNe) := by
  refine OpR.imp (op_ne.or (op_neD hu)) ?_
  rintro x y H Q ⟨F, a, b, s, sm, ra, rb, e, q⟩
  obtain ⟨k, ek, rfl⟩ := Option.map_eq_some_iff.mp e
  have q' := q (.bl (!k)) F H (Grow.refl sm) (.bl (!k))
  rcases eqD_of sm ra rb ek with ⟨h1, h2⟩ | ⟨d, e, h1, h2, h3, h4, h5⟩
  · exact .inl ⟨h1, by rw [h2]; exact q'⟩
  · exact .inr ⟨d, e, h1, h2, h3, h4, by rw [h5]; exact q'⟩
def isNone : Sl → Bool
  | .im .none => true
  | _ => false
def mIs : Sl → Sl → Option Sl
  | a, .im .none => some (.im (.bool (isNone a)))
  | .im (.bool x), .im (.bool y) => some (.im (.bool (decide (x = y))))
  | _, _ => none
def mIsNot : Sl → Sl → Option Sl
  | a, .im .none => some (.im (.bool (!isNone a)))
  | .im (.bool x), .im (.bool y) => some (.im (.bool (!decide (x = y))))
  | _, _ => none
theorem none_of {K : PySem.W.Frag} {F H : Hp} {x : V} {a : Sl} (hx : ∀ c, a ≠ .xc c) (r : RdR K F H x a) : decide (x = .non) = isNone a := by
  cases a with
  | im d =>
    cases r <;> rfl
  | ml ds => obtain ⟨p, xs, rfl, _⟩ := r; rfl
  | br ds => obtain ⟨p, xs, rfl, _⟩ := r; rfl
  | ro ds => obtain ⟨p, rfl, _⟩ := r; rfl
  | dc ds => obtain ⟨p, xs, rfl, _⟩ := r; rfl
  | ob o c fs => obtain ⟨p, rfl, _⟩ := r; rfl
  | xc c => exact absurd rfl (hx c)
def notXc : Sl → Bool
  | .xc _ => false
  | _ => true
def mIs' (a b : Sl) : Option Sl := if notXc a then mIs a b else none
def mIsNot' (a b : Sl) : Option Sl := if notXc a then mIsNot a b else none
theorem op_isB : OpR X (compareOp .Is) (fun x y H Q => ∃ a b, x = .bl a ∧ y = .bl b ∧ Q (.bl (decide (a = b))) H) := by
  intro pins s σ H x y v u Q I rx ry h
  obtain ⟨a, b, rfl, rfl, q⟩ := h
  cases rx; cases ry
  show wpAny _ _ ((isSame (.bool a) (.bool b)) >>= fun z => pure (Value.bool z)) _ _ s
  exact wpAny_bind (wpAny_of_eq (rfl : isSame (.bool a) (.bool b) = pure (Value.bool a == Value.bool b)) (wpAny_pure (fin_bl I q (by cases a <;> cases b <;> rfl))))
theorem op_notB : OpR X (compareOp .IsNot) (fun x y H Q => ∃ a b, x = .bl a ∧ y = .bl b ∧ Q (.bl (!decide (a = b))) H) := by
  intro pins s σ H x y v u Q I rx ry h
  obtain ⟨a, b, rfl, rfl, q⟩ := h
  cases rx; cases ry
  show wpAny _ _ ((isSame (.bool a) (.bool b)) >>= fun z => pure (Value.bool (!z))) _ _ s
  exact wpAny_bind (wpAny_of_eq (rfl : isSame (.bool a) (.bool b) = pure (Value.bool a == Value.bool b)) (wpAny_pure (fin_bl I q (by cases a <;> cases b <;> rfl))))
theorem o_is : OpR X (compareOp .Is) (rD X.K mIs') := by
  refine OpR.imp (op_isN.or op_isB) ?_
  rintro x y H Q ⟨F, a, b, s, sm, ra, rb, e, q⟩
  unfold mIs' at e
  split at e
  · rename_i hx
    unfold mIs at e
    split at e
    · cases e
      cases rb
      refine .inl ⟨rfl, ?_⟩
      rw [none_of (fun c z => by subst z; cases hx) ra]
      exact q _ F H (Grow.refl sm) (.bl _)
    · cases e
      cases ra; cases rb
      exact .inr ⟨_, _, rfl, rfl, q _ F H (Grow.refl sm) (.bl _)⟩
    · cases e
  · cases e
theorem o_isnot : OpR X (compareOp .IsNot) (rD X.K mIsNot') := by
  refine OpR.imp (op_notN.or op_notB) ?_
  rintro x y H Q ⟨F, a, b, s, sm, ra, rb, e, q⟩
  unfold mIsNot' at e
  split at e
  · rename_i hx
    unfold mIsNot at e
    split at e
    · cases e
      cases rb
      refine .inl ⟨rfl, ?_⟩
      rw [none_of (fun c z => by subst z; cases hx) ra]
      exact q _ F H (Grow.refl sm) (.bl _)
    · cases e
      cases ra; cases rb
      exact .inr ⟨_, _, rfl, rfl, q _ F H (Grow.refl sm) (.bl _)⟩
    · cases e
  · cases e
end
end DL

namespace DL
open PySem PySem.Spec PyProof.Rows L2

/-! ### statements -/
def sNext : En → Out := fun δ => .nx δ
def sSeq (a b : En → Out) : En → Out := fun δ => match a δ with
  | .nx δ' => b δ'
  | o => o
def sIf (c : En → Rs Bool) (a b : En → Out) : En → Out := fun δ => match c δ with
  | .ok true => a δ
  | .ok false => b δ
  | .er x => .er x δ
  | .bad => .bad
/-- a target: what is stored where -/
abbrev Tg := Sl → En → Option En
def gN (i : Nat) : Tg := fun s δ => if s.slot = true then some (δ.set i (some s)) else none
def gT (n : Nat) (t : List D → En → Option En) : Tg := fun s δ => match tupOf s with
  | some ds => if ds.length = n then t ds δ else none
  | none => none
def gsN : List D → En → Option En := fun ds δ => match ds with
  | [] => some δ
  | _ => none
def gsC (t : Tg) (u : List D → En → Option En) : List D → En → Option En := fun ds δ => match ds with
  | d :: r => (t (.im d) δ).bind fun δ' => u r δ'
  | [] => none
def sAsg (f : En → Rs Sl) (t : Tg) : En → Out := fun δ => match f δ with
  | .ok s => (match t s δ with
    | some δ' => .nx δ'
    | none => .bad)
  | .er x => .er x δ
  | .bad => .bad
def sExpr (f : En → Rs Sl) : En → Out := fun δ => match f δ with
  | .ok _ => .nx δ
  | .er x => .er x δ
  | .bad => .bad
def sRet (f : En → Rs Sl) : En → Out := fun δ => match f δ with
  | .ok (.br _) => .bad
  | .ok (.ob _ _ _) => .bad
  | .ok s => .rt s
  | .er x => .er x δ
  | .bad => .bad
/-- return of an own list -/
def sRetV (i : Nat) : En → Out := fun δ => match δ[i]? with
  | some (some (.ml ds)) => .rt (.ml ds)
  | some (some (.im d)) => .rt (.im d)
  | _ => .bad
def sRaise (c : Str) : En → Out := fun δ => .er c δ
def sBreak : En → Out := fun δ => .bk δ
def sCont : En → Out := fun δ => .ct δ
/-- own lists that are frozen from here on -/
def fzS (i : Nat) (δ : En) : En := match δ[i]? with
  | some (some (.ml ds)) => δ.set i (some (.im (.list ds)))
  | _ => δ
def sFz (i : Nat) (a : En → Out) : En → Out := fun δ => a (fzS i δ)
/-- slots forgotten -/
def sAppend (i : Nat) (f : En → Rs Sl) : En → Out := fun δ => match δ[i]? with
  | some (some (.ml ds)) => (match f δ with
    | .ok (.im d) => if ds.length < 16777216 then .nx (δ.set i (some (.ml (ds ++ [d])))) else .bad
    | .er x => .er x δ
    | _ => .bad)
  | _ => .bad
/-- ixN of HandS, at an own list -/
def sSetI (i : Nat) (g f : En → Rs Sl) : En → Out := fun δ => match f δ with
  | .ok (.im d) => (match g δ with
    | .ok (.im (.int k)) => (match δ[i]? with
      | some (some (.ml ds)) => (match ixN ds.length k with
        | some j => .nx (δ.set i (some (.ml (ds.set j d))))
        | none => .bad)
      | _ => .bad)
    | .er x => .bad
    | _ => .bad)
  | .er x => .er x δ
  | _ => .bad
def sExtend (i : Nat) (f : En → Rs Sl) : En → Out := fun δ => match δ[i]? with
  | some (some (.ml ds)) => (match f δ with
    | .ok s => (match lstOfM s with
      | some es => if ds.length + es.length ≤ 16777216 then .nx (δ.set i (some (.ml (ds ++ es)))) else .bad
      | none => .bad)
    | .er x => .er x δ
    | .bad => .bad)
  | _ => .bad
def sAug (m : Sl → Sl → Option Sl) (i : Nat) (f : En → Rs Sl) : En → Out := fun δ => match δ[i]? with
  | some (some s) => (match f δ with
    | .ok a => (match m s a with
      | some (.im d) => .nx (δ.set i (some (.im d)))
      | _ => .bad)
    | .er x => .er x δ
    | .bad => .bad)
  | _ => .bad
/-! exceptions: the classes of the text, CloakError over all others -/
def isSub (c d : Str) : Bool := c == d || d == ("CloakError" : Str)
def sTry (body : En → Out) (h : Str → En → Option Out) : En → Out := fun δ => match body δ with
  | .er c δ' => (match h c δ' with
    | some o => o
    | none => .er c δ')
  | o => o
def offX (i : Nat) : Out → Out
  | .nx δ => .nx (δ.set i none)
  | .bk δ => .bk (δ.set i none)
  | .ct δ => .ct (δ.set i none)
  | .rt s => .rt s
  | .rm d δ => .rm d (δ.set i none)
  | .er _ _ => .bad
  | .bad => .bad
def noEr : Out → Out
  | .er _ _ => .bad
  | o => o
/-- except d as (slot i): suite; a class that is none of cs: nothing is told -/
def hAs (cs : List Str) (i : Nat) (d : Str) (suite : En → Out) (more : Str → En → Option Out) : Str → En → Option Out := fun c δ =>
  if c ∈ cs ∧ i < δ.length then (if isSub c d = true then some (offX i (suite (δ.set i (some (.xc c))))) else more c δ) else some .bad
def hOnly (cs : List Str) (d : Str) (suite : En → Out) (more : Str → En → Option Out) : Str → En → Option Out := fun c δ =>
  if c ∈ cs then (if isSub c d = true then some (noEr (suite δ)) else more c δ) else some .bad
def hNil : Str → En → Option Out := fun _ _ => none
def lpE (b : Out) (k : En → Out) : Out := match b with
  | .nx δ => k δ
  | .ct δ => k δ
  | .bk δ => .nx δ
  | .rt s => .rt s
  | .rm d δ => .rm d δ
  | .er c δ => .er c δ
  | .bad => .bad
def forL (t : Tg) (b : En → Out) : List D → En → Out
  | [], δ => .nx δ
  | d :: r, δ => match t (.im d) δ with
    | some δ1 => lpE (b δ1) (forL t b r)
    | none => .bad
/-- what is walked -/
def ofD {α β : Type} : Option α → (α → Rs β) → Rs β
  | some a, k => k a
  | none, _ => .bad
/-- a list that stays: data, or the script -/
def itL : Sl → Option (List D)
  | .im (.list ds) => some ds
  | .ro ns => some (ns.map PyData.int)
  | _ => none
def iLst (f : En → Rs Sl) : En → Rs (List D) := fun δ => (f δ).bind fun s => ofD (itL s) .ok
def iAny (f : En → Rs Sl) : En → Rs (List D) := fun δ => (f δ).bind fun s => ofD (lstOf s) .ok
def iTup (f : En → Rs Sl) : En → Rs (List D) := fun δ => (f δ).bind fun s => ofD (tupOf s) .ok
def rng (lo : Int) (n : Nat) : List D := (List.range n).map fun k => PyData.int (lo + (k : Nat))
def rgOk (i j : Int) : Bool := smI 4611686018427387904 i && smI 4611686018427387904 j
def rg1 : List Sl → Option (List D)
  | [.im (.int j)] => if rgOk 0 j = true then some (rng 0 j.toNat) else none
  | _ => none
def rg2 : List Sl → Option (List D)
  | [.im (.int i), .im (.int j)] => if rgOk i j = true then some (rng i (j - i).toNat) else none
  | _ => none
def zipD (as bs : List D) : List D := List.zipWith (fun a b => PyData.tuple [a, b]) as bs
/-- lists that stay, or tuples -/
def zpF : List Sl → Option (List D)
  | [a, b] => match itL a, itL b with
    | some x, some y => some (zipD x y)
    | _, _ => match tupOf a, tupOf b with
      | some x, some y => some (zipD x y)
      | _, _ => none
  | _ => none
def zpH : List Sl → Option (List D)
  | [a, b] => match lstOf a, lstOf b with
    | some x, some y => some (zipD x y)
    | _, _ => match tupOf a, tupOf b with
      | some x, some y => some (zipD x y)
      | _, _ => none
  | _ => none
def enumD : Nat → List D → List D
  | _, [] => []
  | k, d :: r => .tuple [.int (k : Nat), d] :: enumD (k + 1) r
def enF : List Sl → Option (List D)
  | [a] => (itL a).map (enumD 0)
  | _ => none
def enH : List Sl → Option (List D)
  | [a] => (lstOf a).map (enumD 0)
  | _ => none
def rvF : List Sl → Option (List D)
  | [a] => (itL a).map List.reverse
  | _ => none
def iCall (m : List Sl → Option (List D)) (fs : En → Rs (List Sl)) : En → Rs (List D) := fun δ => (fs δ).bind fun as => ofD (m as) .ok
def sFor (it : En → Rs (List D)) (t : Tg) (b : En → Out) : En → Out := fun δ => match it δ with
  | .ok ds => forL t b ds δ
  | .er x => .er x δ
  | .bad => .bad
def wLoop (c : En → Rs Bool) (b : En → Out) : Nat → En → Out
  | 0, _ => .bad
  | n + 1, δ => match c δ with
    | .ok true => lpE (b δ) (wLoop c b n)
    | .ok false => .nx δ
    | .er x => .er x δ
    | .bad => .bad
def sWhile (n : Nat) (c : En → Rs Bool) (b : En → Out) : En → Out := wLoop c b n

/-! ### targets -/
def tG (K : PySem.W.Frag) (xi : Xi) (t : Tg) : TG := fun v σ H Q => ∃ F0 H0 F1 H1 F δ s δ', Stt K xi F0 H0 F1 H1 σ δ ∧ Grow F1 H1 F H ∧ RepR K H1 F H v s ∧ t s δ = some δ' ∧ ∀ σ' F', Stt K xi F0 H0 F' H σ' δ' → Same F1 F' → Q σ' H
def tGs (K : PySem.W.Frag) (xi : Xi) (t : List D → En → Option En) : TGs := fun vs σ H Q => ∃ F0 H0 F ds δ δ', Stt K xi F0 H0 F H σ δ ∧ RpA K F vs ds ∧ t ds δ = some δ' ∧ ∀ σ' F', Stt K xi F0 H0 F' H σ' δ' → Same F F' → Q σ' H
abbrev PDG (X : Cx) (xi : Xi) (e : Expr) (t : Tg) : Prop := PG X e (tG X.K xi t)
abbrev PDGs (X : Cx) (xi : Xi) (es : List Expr) (t : List D → En → Option En) : Prop := PGs X es (tGs X.K xi t)
theorem PG.imp {X : Cx} {e : Expr} {t t' : TG} (h : PG X e t) (i : ∀ v σ H Q, t' v σ H Q → t v σ H Q) : PG X e t' := ⟨fun pins s σ H v u Q I r q => h.run pins s σ H v u Q I r (i _ _ _ _ q)⟩
theorem PGs.imp {X : Cx} {e : List Expr} {t t' : TGs} (h : PGs X e t) (i : ∀ v σ H Q, t' v σ H Q → t v σ H Q) : PGs X e t' := ⟨fun pins s σ H v u Q I r q => h.run pins s σ H v u Q I r (i _ _ _ _ q)⟩
/-- the slot of the caught exception is not stored to -/
def XiOk (xi : Xi) (i : Nat) : Prop := ∀ j a c, (j, a, c) ∈ xi → i ≠ j
theorem xiN {i : Nat} : XiOk [] i := fun _ _ _ h => nomatch h
theorem xiC {i j : Nat} {a : Addr} {c : Value} {xi : Xi} (h : i ≠ j) (r : XiOk xi i) : XiOk ((j, a, c) :: xi) i := fun _ _ _ e => by
  rcases List.mem_cons.mp e with e | e
  · cases e; exact h
  · exact r _ _ _ e
theorem xiS {i j : Nat} {a : Addr} {c : Value} (h : i ≠ j) : XiOk [(j, a, c)] i := xiC h xiN
section
variable {X : Cx} {xi : Xi} {pos : Pos}
theorem tG_name {K : PySem.W.Frag} {i : Nat} (hx : XiOk xi i) : ∀ v σ H Q, tG K xi (gN i) v σ H Q → gName i v σ H Q := by
  rintro v σ H Q ⟨F0, H0, F1, H1, F, δ, s, δ', st, g, r, e, q⟩
  unfold gN at e
  split at e
  · rename_i hs
    cases e
    exact q _ F (st.set g r hs hx) (g.ff st.sm)
  · cases e
theorem pdg_name {i : Nat} {x : Str} (hN : X.N.Nodup) (hx : XiOk xi i) (hi : X.N[i]? = some x := by rfl) (hl : Loc X.env.scope x := by first | exact Or.inl rfl | exact Or.inr rfl) (hf : X.fn x = true ∨ X.env.scope.names.lookup x = some .local := by first | exact .inl rfl | exact .inr rfl | assumption) : PDG X xi (.Name x pos) (gN i) :=
  PG.imp (pg_name hN hi hl hf) (tG_name hx)
theorem pdgs_nil : PDGs X xi [] gsN := PGs.imp pgs_nil (by
  rintro v σ H Q ⟨F0, H0, F, ds, δ, δ', st, r, e, q⟩
  cases ds with
  | nil =>
    cases r
    cases e
    exact ⟨rfl, q σ F st (Same.refl F)⟩
  | cons _ _ => cases e)
theorem pdgs_cons {e : Expr} {es : List Expr} {t : Tg} {u : List D → En → Option En} (h1 : PDG X xi e t) (h2 : PDGs X xi es u)
    (hs : (assignEach (e :: es) X.env).map (·.2) = assign e X.env :: (assignEach es X.env).map (·.2) := by rfl) : PDGs X xi (e :: es) (gsC t u) := by
  refine PGs.imp (pgs_cons h1 h2 hs) ?_
  rintro v σ H Q ⟨F0, H0, F, ds, δ, δ', st, r, e, q⟩
  cases ds with
  | nil => cases e
  | cons d ds =>
    cases r with
    | cons r1 r2 =>
      unfold gsC at e
      obtain ⟨δ1, e1, e2⟩ := Option.bind_eq_some_iff.mp e
      refine ⟨_, _, rfl, F0, H0, F, H, F, δ, .im d, δ1, st, Grow.refl st.sm, r1, e1, fun σ1 F1 st1 s1 => ?_⟩
      exact ⟨F0, H0, F1, ds, δ1, δ', st1, RpA.mono s1 _ _ r2, e2, fun σ2 F2 st2 s2 => q σ2 F2 st2 (s1.trans s2)⟩
theorem pdg_tup {es : List Expr} {k : Nat} {t : List D → En → Option En} {n : Nat} (hc : X.calm = true) (h : PDGs X xi es t)
    (hn : (assignEach es X.env).length = n := by rfl) (hst : (assignEach es X.env).findIdx? (·.1) = none := by rfl) : PDG X xi (.Tuple es k pos) (gT n t) := by
  refine PG.imp (pg_tup hc h hn hst) ?_
  rintro v σ H Q ⟨F0, H0, F1, H1, F, δ, s, δ', st, g, r, e, q⟩
  unfold gT at e
  split at e
  · rename_i ds hd
    split at e
    · rename_i hl
      obtain ⟨p, xs, rfl, ht, ra⟩ := RdR.tup g.sm r.rd hd
      refine ⟨p, xs, rfl, ht, by rw [ra.length]; exact hl, F0, H0, F, ds, δ, δ', st.grow g, ra, e, fun σ' F' st' s' => q σ' F' st' ((g.ff st.sm).trans s')⟩
    · cases e
  · cases e
end

section
variable {X : Cx} {xi : Xi} {W : WX} {st : Stmt} {rest : List Stmt} {a b : En → Out} {e c : Expr} {f : En → Rs Sl} {pos : Pos} {A B : List Stmt} {cf : En → Rs Bool}
theorem Stt.next {K : PySem.W.Frag} {F0 H0 F H F' H' F2 H2 : Hp} {σ σ' : L2.St} {δ δ' : En} (s1 : Same F F') (_ : Stt K xi F0 H0 F' H' σ' δ') (s2 : Same F' F2) : Same F F2 := s1.trans s2
/-- what follows is told of a later state -/
theorem PostS.later {K : PySem.W.Frag} {F0 H0 F H F1 H1 : Hp} {E : Ends} {o : Out} (p : PostS K xi W F0 H0 F H E o) (s : Same F F1) : PostS K xi W F0 H0 F1 H1 E o := by
  cases o with
  | nx δ => exact fun σ' F' H' st s' => p σ' F' H' st (s.trans s')
  | bk δ => exact fun σ' F' H' st s' => p σ' F' H' st (s.trans s')
  | ct δ => exact fun σ' F' H' st s' => p σ' F' H' st (s.trans s')
  | rt v => exact p
  | rm d δ => exact fun v σ' F' H' st s' => p v σ' F' H' st (s.trans s')
  | er c δ => exact fun σ' F' H' st s' => p σ' F' H' st (s.trans s')
  | bad => exact p
theorem pdb_nil : PDB X xi W [] sNext := PSs.imp pss_nil (by
  rintro E σ H ⟨F0, H0, F, δ, st, p⟩
  exact p σ F H st (Same.refl F))
theorem seq_of {K : PySem.W.Frag} : ∀ E σ H, tS K xi W (sSeq a b) E σ H → tSeq (tS K xi W a) (tS K xi W b) E σ H := by
  rintro E σ H ⟨F0, H0, F, δ, st, p⟩
  refine ⟨F0, H0, F, δ, st, ?_⟩
  unfold sSeq at p
  cases e : a δ with
  | nx δ' =>
    rw [e] at p
    exact fun σ' F' H' st' s' => ⟨F0, H0, F', δ', st', p.later s'⟩
  | bk δ' => rw [e] at p; exact p
  | ct δ' => rw [e] at p; exact p
  | rt v => rw [e] at p; exact p
  | rm d δ' => rw [e] at p; exact p
  | er c δ' => rw [e] at p; exact p
  | bad => rw [e] at p; exact p
theorem pdb_cons (h1 : PDS X xi W st a) (h2 : PDB X xi W rest b) : PDB X xi W (st :: rest) (sSeq a b) := PSs.imp (pss_cons h1 h2) seq_of
theorem pdb_one (h1 : PDS X xi W st a) : PDB X xi W [st] a := pss_one h1
theorem pds_pass : PDS X xi W (.Pass pos) sNext := PS.imp ps_pass (by
  rintro E σ H ⟨F0, H0, F, δ, st, p⟩
  exact p σ F H st (Same.refl F))
theorem pds_break : PDS X xi W (.Break pos) sBreak := PS.imp ps_break (by
  rintro E σ H ⟨F0, H0, F, δ, st, p⟩
  exact p σ F H st (Same.refl F))
theorem pds_cont : PDS X xi W (.Continue pos) sCont := PS.imp ps_continue (by
  rintro E σ H ⟨F0, H0, F, δ, st, p⟩
  exact p σ F H st (Same.refl F))
theorem pds_if (hc : PDT X xi W c cf) (ha : PDB X xi W A a) (hb : PDB X xi W B b) : PDS X xi W (.If c A B pos) (sIf cf a b) := by
  refine PS.imp (ps_if hc ha hb) ?_
  rintro E σ H ⟨F0, H0, F, δ, st, p⟩
  refine tT_use st (fun x F1 H1 e1 g1 => ?_) (fun x F1 H1 e1 g1 => by simp only [sIf, e1] at p; exact p σ F1 H1 (st.grow g1) (g1.ff st.sm)) (fun e1 => by simp only [sIf, e1] at p; exact p)
  simp only [sIf, e1] at p
  cases x with
  | true => exact ⟨F0, H0, F1, δ, st.grow g1, p.later (g1.ff st.sm)⟩
  | false => exact ⟨F0, H0, F1, δ, st.grow g1, p.later (g1.ff st.sm)⟩
theorem asg_of {K : PySem.W.Frag} {t : Tg} : ∀ E σ H, tS K xi W (sAsg f t) E σ H → tAsg (tD K xi W f) (tG K xi t) E σ H := by
  rintro E σ H ⟨F0, H0, F, δ, st, p⟩
  refine tD_use st (fun x v F1 H1 e1 g1 r1 => ?_) (fun x F1 H1 e1 g1 => by simp only [sAsg, e1] at p; exact p σ F1 H1 (st.grow g1) (g1.ff st.sm)) (fun e1 => by simp only [sAsg, e1] at p; exact p)
  simp only [sAsg, e1] at p
  cases e2 : t x δ with
  | none => rw [e2] at p; exact p.elim
  | some δ' =>
    rw [e2] at p
    exact ⟨F0, H0, F, H, F1, δ, x, δ', st, g1, r1, e2, fun σ' F' st' s' => p σ' F' H1 st' s'⟩
theorem pds_asg {tg : Expr} {t : Tg} (he : PD X xi W e f) (hg : PDG X xi tg t) (hs : swapsWithSole [tg] e pos.line X.env = pure false := by rfl) (hw : swappedStores [tg] e X.env = pure none := by rfl)
    (h1 : (assignEach [tg] X.env).map (·.2) = [assign tg X.env] := by rfl) : PDS X xi W (.Assign [tg] e pos) (sAsg f t) := PS.imp (ps_asg he hg hs hw h1) asg_of
theorem pds_set {i : Nat} {x : Str} {pos' : Pos} (hN : X.N.Nodup) (he : PD X xi W e f) (hx : XiOk xi i) (hi : X.N[i]? = some x := by rfl) (hl : Loc X.env.scope x := by first | exact Or.inl rfl | exact Or.inr rfl) (hs : swapsWith e (some (.Name x pos')) pos.line X.env = pure false := by rfl)
    (hf : X.fn x = true ∨ X.env.scope.names.lookup x = some .local := by first | exact .inl rfl | exact .inr rfl | assumption) : PDS X xi W (.Assign [.Name x pos'] e pos) (sAsg f (gN i)) :=
  PS.imp (ps_set hN hi hl he hs hf) fun E σ H q => by
    have q2 := asg_of E σ H q
    obtain ⟨F0, H0, F, δ, s0, p⟩ := q2
    refine tD_use s0 (fun x v F1 H1 e1 g1 r1 => ?_) (fun x F1 H1 e1 g1 => by rw [e1] at p; exact p F1 H1 g1) (fun e1 => by rw [e1] at p; exact p)
    rw [e1] at p
    exact tG_name hx _ _ _ _ (p v F1 H1 g1 r1)
theorem pds_expr (he : PD X xi W e f) (hs : swapsWith e none pos.line X.env = pure false := by rfl) : PDS X xi W (.Expr e pos) (sExpr f) := by
  refine PS.imp (ps_expr he hs) ?_
  rintro E σ H ⟨F0, H0, F, δ, st, p⟩
  refine tD_use st (fun x v F1 H1 e1 g1 r1 => ?_) (fun x F1 H1 e1 g1 => by simp only [sExpr, e1] at p; exact p σ F1 H1 (st.grow g1) (g1.ff st.sm)) (fun e1 => by simp only [sExpr, e1] at p; exact p)
  simp only [sExpr, e1] at p
  exact p σ F1 H1 (st.grow g1) (g1.ff st.sm)
theorem pds_ret (he : PD X xi W e f) : PDS X xi W (.Return (some e) pos) (sRet f) := by
  refine PS.imp (ps_ret he) ?_
  rintro E σ H ⟨F0, H0, F, δ, st, p⟩
  refine tD_use st (fun x v F1 H1 e1 g1 r1 => ?_) (fun x F1 H1 e1 g1 => by simp only [sRet, e1] at p; exact p σ F1 H1 (st.grow g1) (g1.ff st.sm)) (fun e1 => by simp only [sRet, e1] at p; exact p)
  simp only [sRet, e1] at p
  have gg := st.gr.trans g1
  cases x with
  | br ds => exact p.elim
  | im d => exact p v F1 H1 gg r1
  | ml ds => exact p v F1 H1 gg (r1.pre st.hh)
  | ro ds => exact p v F1 H1 gg r1
  | dc ds => exact p v F1 H1 gg (r1.pre st.hh)
  | xc ds => exact p v F1 H1 gg r1
  | ob o c fs => exact p.elim
theorem pds_retN : PDS X xi W (.Return none pos) (sRet (eC .none)) := PS.imp ps_retN (by
  rintro E σ H ⟨F0, H0, F, δ, st, p⟩
  exact p .non F H st.gr .non)
theorem pds_retV (i : Nat) {x : Str} {pos' : Pos} (hN : X.N[i]? = some x := by rfl) (hv : Vis X.env.scope x := by first | exact Or.inl rfl | exact Or.inr (Or.inl rfl) | exact Or.inr (Or.inr rfl)) (hd : (x == ("__debug__" : Str)) = false := by decide)
    (hcd : (x == ("__classdict__" : Str)) = false := by decide) : PDS X xi W (.Return (some (.Name x pos')) pos) (sRetV i) := by
  refine PS.imp (ps_ret (pe_var hN hv hd hcd)) ?_
  rintro E σ H ⟨F0, H0, F, δ, st, p⟩
  unfold sRetV at p
  cases e : δ[i]? with
  | none => rw [e] at p; exact p.elim
  | some o =>
    cases o with
    | none => rw [e] at p; exact p.elim
    | some s =>
      obtain ⟨v, ev, r, _⟩ := st.sl i s e
      refine ⟨v, ev, ?_⟩
      rw [e] at p
      cases s with
      | ml ds => exact p v F H st.gr r
      | im d => exact p v F H st.gr r
      | _ => exact p.elim
/-- an own list is frozen -/
theorem Stt.fz {K : PySem.W.Frag} {F0 H0 F H : Hp} {σ : L2.St} {δ : En} (i : Nat) (st : Stt K xi F0 H0 F H σ δ) : ∃ F', Same F F' ∧ Stt K xi F0 H0 F' H σ (fzS i δ) := by
  unfold fzS
  split
  · rename_i ds e
    obtain ⟨v, ev, ⟨p, xs, rfl, n0, nF, hp, r⟩, _⟩ := st.sl i _ e
    have s1 : Same F (upd F p (.lst xs)) := Same.new nF
    refine ⟨upd F p (.lst xs), s1, st.chng e ev (fun b o q => ?_) st.hh (fun b o q => (upd_ne (ne_of_none q n0)).trans (st.ag b o q)) s1 (fun a o na ha => ⟨ha, upd_ne fun z => na (by rw [z]; rfl)⟩) (t := .im (.list ds)) (Rp.lst upd_same (RpA.mono s1 _ _ r)) rfl (fun _ h => nomatch h) (fun a ha => False.elim ha)⟩
    by_cases z : b = p
    · subst z; rw [upd_same] at q; exact hp.trans q
    · rw [upd_ne z] at q; exact st.sm b o q
  · exact ⟨F, Same.refl F, st⟩
theorem pdb_fz (i : Nat) (h : PDB X xi W A a) : PDB X xi W A (sFz i a) := PSs.imp h (by
  rintro E σ H ⟨F0, H0, F, δ, st, p⟩
  obtain ⟨F', s, st'⟩ := st.fz i
  exact ⟨F0, H0, F', fzS i δ, st', p.later s⟩)
/-- an own list is changed -/
theorem Stt.mut {K : PySem.W.Frag} {F0 H0 F H : Hp} {σ : L2.St} {δ : En} {i : Nat} {ds es : List D} {p : Addr} {ys : List V} (st : Stt K xi F0 H0 F H σ δ) (e : δ[i]? = some (some (.ml ds))) (ev : σ[i]? = some (some (.ref p))) (n0 : H0 p = none) (nF : F p = none) (r : RpA K F ys es) :
    Stt K xi F0 H0 F (upd H p (.lst ys)) σ (δ.set i (some (.ml es))) :=
  st.chng e ev (fun b o q => by rw [upd_ne (ne_of_none q nF)]; exact st.sm b o q) (fun b o q => by rw [upd_ne (ne_of_none q n0)]; exact st.hh b o q) st.ag (Same.refl F) (fun a o na ha => ⟨by rw [upd_ne fun z => na (by rw [z]; rfl)]; exact ha, rfl⟩)
    (t := .ml es) ⟨p, ys, rfl, n0, nF, upd_same, r⟩ rfl (fun _ h => nomatch h) (fun a ha => .inl ha)
end
end DL

namespace DL
open PySem PySem.Spec PyProof.Rows L2

/-! ### what is walked -/
/-- J gives the data ds, while P holds of the heaps -/
structure ItOk (K : PySem.W.Frag) (P : Hp → Hp → Prop) (J : It) (ds : List D) : Prop where
  go : ∀ i F' H', P F' H' → Same F' H' → i < ds.length → J.go i H'
  stop : ∀ F' H', P F' H' → Same F' H' → J.stop ds.length H'
  yld : ∀ i d F' H' x H'', P F' H' → Same F' H' → ds[i]? = some d → J.yld i H' x H'' → ∃ F'', Grow F' H' F'' H'' ∧ Rp K F'' x d
def PostI (K : PySem.W.Frag) (xi : Xi) (W : WX) (F H : Hp) (σ : L2.St) (Z : Hp → Hp → Hp → Hp → Prop) (R : It → Hp → Prop) : Rs (List D) → Prop
  | .ok ds => ∀ J F' H', Grow F H F' H' → ItOk K (Z F' H') J ds → R J H'
  | .er c => ∀ F' H', Grow F H F' H' → W (cvOf K c) none σ H'
  | .bad => False
/-- over what stays while F grows; over what stays while the heap grows -/
def zF : Hp → Hp → Hp → Hp → Prop := fun F _ A _ => Same F A
def zH : Hp → Hp → Hp → Hp → Prop := fun F H A B => Same F A ∧ Same H B
def tI (K : PySem.W.Frag) (xi : Xi) (W : WX) (Z : Hp → Hp → Hp → Hp → Prop) (it : En → Rs (List D)) : TI := fun σ H R => ∃ F0 H0 F δ, Stt K xi F0 H0 F H σ δ ∧ PostI K xi W F H σ Z R (it δ)
abbrev PDI (X : Cx) (xi : Xi) (W : WX) (Z : Hp → Hp → Hp → Hp → Prop) (tg e : Expr) (it : En → Rs (List D)) : Prop := PI X tg e (tI X.K xi W Z it)
theorem PI.imp {X : Cx} {tg e : Expr} {t t' : TI} (h : PI X tg e t) (i : ∀ σ H R, t' σ H R → t σ H R) : PI X tg e t' := ⟨fun pins s σ H R I q => h.run pins s σ H R I (i _ _ _ q)⟩
theorem ItOk.zH {K : PySem.W.Frag} {J : It} {ds : List D} {F H : Hp} (h : ItOk K (zF F H) J ds) : ItOk K (zH F H) J ds :=
  ⟨fun i F' H' p s => h.go i F' H' p.1 s, fun F' H' p s => h.stop F' H' p.1 s, fun i d F' H' x H'' p s => h.yld i d F' H' x H'' p.1 s⟩
section
variable {X : Cx} {xi : Xi} {W : WX} {tg e : Expr} {f : En → Rs Sl} {fs : En → Rs (List Sl)} {it : En → Rs (List D)}
theorem pdi_H (h : PDI X xi W zF tg e it) : PDI X xi W zH tg e it := PI.imp h (by
  rintro σ H R ⟨F0, H0, F, δ, st, p⟩
  refine ⟨F0, H0, F, δ, st, ?_⟩
  cases e1 : it δ with
  | ok ds =>
    rw [e1] at p
    exact fun J F' H' g j => p J F' H' g j.zH
  | er c => rw [e1] at p; exact p
  | bad => rw [e1] at p; exact p)
theorem itl_ok {K : PySem.W.Frag} {P : Hp → Hp → Prop} {p : Addr} {xs : List V} {ds : List D} (hS : ∀ F' H', P F' H' → Same F' H' → SqL K H' p xs) (r : ∀ F' H', P F' H' → RpA K F' xs ds) : ItOk K P (Itl K p) ds where
  go := fun i F' H' q s hi => by
    obtain ⟨v, hv, _⟩ := (r F' H' q).get (List.getElem?_eq_getElem hi)
    exact ⟨xs, v, hS F' H' q s, hv⟩
  stop := fun F' H' q s => ⟨xs, hS F' H' q s, by rw [(r F' H' q).length]; exact Nat.le_refl _⟩
  yld := fun i d F' H' x H'' q s hd ⟨eH, hy⟩ => by
    subst eH
    obtain ⟨d', hd', rd⟩ := (r F' _ q).getV (hy xs (hS F' _ q s))
    rw [hd] at hd'
    cases hd'
    exact ⟨F', Grow.refl s, rd⟩
theorem itt_ok {K : PySem.W.Frag} {P : Hp → Hp → Prop} {p : Addr} {xs : List V} {ds : List D} (hS : ∀ F' H', P F' H' → Same F' H' → SqT K H' p xs) (r : ∀ F' H', P F' H' → RpA K F' xs ds) : ItOk K P (Itt K p) ds where
  go := fun i F' H' q s hi => by
    obtain ⟨v, hv, _⟩ := (r F' H' q).get (List.getElem?_eq_getElem hi)
    exact ⟨xs, v, hS F' H' q s, hv⟩
  stop := fun F' H' q s => ⟨xs, hS F' H' q s, by rw [(r F' H' q).length]; exact Nat.le_refl _⟩
  yld := fun i d F' H' x H'' q s hd ⟨eH, hy⟩ => by
    subst eH
    obtain ⟨d', hd', rd⟩ := (r F' _ q).getV (hy xs (hS F' _ q s))
    rw [hd] at hd'
    cases hd'
    exact ⟨F', Grow.refl s, rd⟩
theorem rng_get {lo : Int} {n i : Nat} : (rng lo n)[i]? = if i < n then some (.int (lo + (i : Nat))) else none := by
  unfold rng
  rw [List.getElem?_map]
  by_cases h : i < n
  · rw [List.getElem?_range h, if_pos h]
    rfl
  · rw [List.getElem?_eq_none (by simpa using h), if_neg h]
    rfl
theorem itr_ok {K : PySem.W.Frag} {P : Hp → Hp → Prop} {lo : Int} {n : Nat} : ItOk K P (Itr lo n) (rng lo n) where
  go := fun i F' H' q s hi => by
    unfold rng at hi
    rw [List.length_map, List.length_range] at hi
    exact hi
  stop := fun F' H' q s => by
    unfold rng
    rw [List.length_map, List.length_range]
    exact Nat.le_refl n
  yld := fun i d F' H' x H'' q s hd ⟨eH, ex⟩ => by
    subst eH ex
    rw [rng_get] at hd
    split at hd
    · cases hd
      exact ⟨F', Grow.refl s, .int _⟩
    · cases hd
/-- a list that stays -/
theorem RdR.itl {K : PySem.W.Frag} {F H : Hp} {v : V} {t : Sl} {ds : List D} (r : RdR K F H v t) (e : itL t = some ds) : ∃ p xs, v = .ref p ∧ SqL K F p xs ∧ RpA K F xs ds := by
  unfold itL at e
  split at e
  · have e := Option.some.inj e
    subst e
    have r : Rp K F v (.list _) := r
    cases r with
    | lst h1 h2 => exact ⟨_, _, rfl, SqL.of h1, h2⟩
  · have e := Option.some.inj e
    subst e
    obtain ⟨p, ev, h⟩ := r
    exact ⟨p, _, ev, h, RpA.ints _⟩
  · cases e
theorem RdR.tupF {K : PySem.W.Frag} {F H : Hp} {v : V} {t : Sl} {ds : List D} (r : RdR K F H v t) (e : tupOf t = some ds) : ∃ p xs, v = .ref p ∧ SqT K F p xs ∧ RpA K F xs ds := by
  unfold tupOf at e
  split at e
  · have e := Option.some.inj e
    subst e
    have r : Rp K F v (.tuple _) := r
    cases r with
    | tup h1 h2 => exact ⟨_, _, rfl, h1, h2⟩
  · cases e
theorem pdi_lst (he : PD X xi W e f) : PDI X xi W zF tg e (iLst f) := by
  refine PI.imp (pi_list he) ?_
  rintro σ H R ⟨F0, H0, F, δ, st, p⟩
  refine tD_use st (fun x v F1 H1 e1 g1 r1 => ?_) (fun x F1 H1 e1 g1 => by simp only [iLst, e1, Rs.bind] at p; exact p F1 H1 g1) (fun e1 => by simp only [iLst, e1, Rs.bind] at p; exact p)
  simp only [iLst, e1, Rs.bind] at p
  cases e2 : itL x with
  | none => rw [e2] at p; exact p.elim
  | some ds =>
    rw [e2] at p
    obtain ⟨pp, xs, rfl, hS, ra⟩ := r1.rd.itl e2
    exact ⟨pp, rfl, ⟨xs, same_l g1.sm hS⟩, p _ F1 H1 g1 (itl_ok (fun F' H' q s => same_l s (same_l q hS)) fun F' H' q => RpA.mono q _ _ ra)⟩
theorem pdi_any (he : PD X xi W e f) : PDI X xi W zH tg e (iAny f) := by
  refine PI.imp (pi_list he) ?_
  rintro σ H R ⟨F0, H0, F, δ, st, p⟩
  refine tD_use st (fun x v F1 H1 e1 g1 r1 => ?_) (fun x F1 H1 e1 g1 => by simp only [iAny, e1, Rs.bind] at p; exact p F1 H1 g1) (fun e1 => by simp only [iAny, e1, Rs.bind] at p; exact p)
  simp only [iAny, e1, Rs.bind] at p
  cases e2 : lstOf x with
  | none => rw [e2] at p; exact p.elim
  | some ds =>
    rw [e2] at p
    obtain ⟨pp, xs, rfl, hS, ra⟩ := RdR.lst g1.sm r1.rd e2
    exact ⟨pp, rfl, ⟨xs, hS⟩, p _ F1 H1 g1 (itl_ok (fun F' H' q s => same_l q.2 hS) fun F' H' q => RpA.mono q.1 _ _ ra)⟩
theorem pdi_tup (he : PD X xi W e f) : PDI X xi W zF tg e (DL.iTup f) := by
  refine PI.imp (pi_tup he) ?_
  rintro σ H R ⟨F0, H0, F, δ, st, p⟩
  refine tD_use st (fun x v F1 H1 e1 g1 r1 => ?_) (fun x F1 H1 e1 g1 => by simp only [DL.iTup, e1, Rs.bind] at p; exact p F1 H1 g1) (fun e1 => by simp only [DL.iTup, e1, Rs.bind] at p; exact p)
  simp only [DL.iTup, e1, Rs.bind] at p
  cases e2 : tupOf x with
  | none => rw [e2] at p; exact p.elim
  | some ds =>
    rw [e2] at p
    obtain ⟨pp, xs, rfl, hS, ra⟩ := r1.rd.tupF e2
    exact ⟨pp, rfl, ⟨xs, same_t g1.sm hS⟩, p _ F1 H1 g1 (itt_ok (fun F' H' q s => same_t s (same_t q hS)) fun F' H' q => RpA.mono q _ _ ra)⟩
variable {p p2 : Pos} {e2 : Expr}
theorem rgOk_ok {i j : Int} (h : rgOk i j = true) : -(2 ^ 62) ≤ i ∧ i < 2 ^ 62 ∧ -(2 ^ 62) ≤ j ∧ j < 2 ^ 62 := by
  unfold rgOk at h
  simp only [Bool.and_eq_true] at h
  have h1 := smI_lt.mp h.1
  have h2 := smI_lt.mp h.2
  have e : (2 : Int) ^ 62 = 4611686018427387904 := by decide
  rw [e]
  omega
theorem pdi_range1 {Z : Hp → Hp → Hp → Hp → Prop} (hG : Gl X "range") (hm : X.mg "range" = none) (ha : PDA X xi W [e] fs) (h1 : starEach [e] X.env = [(false, eval e X.env)] := by rfl) : PDI X xi W Z tg (.Call (.Name "range" p) [e] [] p2) (iCall rg1 fs) := by
  refine PI.imp (pi_range1 hG hm ha h1) ?_
  rintro σ H R ⟨F0, H0, F, δ, st, p⟩
  refine tA_use st (fun x v F1 H1 e1 g1 r1 => ?_) (fun x F1 H1 e1 g1 => by simp only [iCall, e1, Rs.bind] at p; exact p F1 H1 g1) (fun e1 => by simp only [iCall, e1, Rs.bind] at p; exact p)
  simp only [iCall, e1, Rs.bind] at p
  cases e2 : rg1 x with
  | none => rw [e2] at p; exact p.elim
  | some q =>
    rw [e2] at p
    unfold rg1 at e2
    split at e2
    · split at e2
      · rename_i j hj
        cases e2
        obtain ⟨_, _, h3, h4⟩ := rgOk_ok hj
        cases r1 with
        | cons r1 r2 =>
          cases r2
          have r1 : Rp X.K F1 _ (.int j) := r1
          cases r1
          exact ⟨j, rfl, h3, h4, p _ F1 H1 g1 itr_ok⟩
      · cases e2
    · cases e2
theorem pdi_range2 {Z : Hp → Hp → Hp → Hp → Prop} (hG : Gl X "range") (hm : X.mg "range" = none) (ha : PDA X xi W [e, e2] fs) (h1 : starEach [e, e2] X.env = [(false, eval e X.env), (false, eval e2 X.env)] := by rfl) (h2 : starEach [e2] X.env = [(false, eval e2 X.env)] := by rfl) : PDI X xi W Z tg (.Call (.Name "range" p) [e, e2] [] p2) (iCall rg2 fs) := by
  refine PI.imp (pi_range2 hG hm ha h1 h2) ?_
  rintro σ H R ⟨F0, H0, F, δ, st, p⟩
  refine tA_use st (fun x v F1 H1 e1 g1 r1 => ?_) (fun x F1 H1 e1 g1 => by simp only [iCall, e1, Rs.bind] at p; exact p F1 H1 g1) (fun e1 => by simp only [iCall, e1, Rs.bind] at p; exact p)
  simp only [iCall, e1, Rs.bind] at p
  cases e2 : rg2 x with
  | none => rw [e2] at p; exact p.elim
  | some q =>
    rw [e2] at p
    unfold rg2 at e2
    split at e2
    · split at e2
      · rename_i i j hj
        cases e2
        have h3 := rgOk_ok hj
        cases r1 with
        | cons r1 r2 =>
          cases r2 with
          | cons r2 r3 =>
            cases r3
            have r1 : Rp X.K F1 _ (.int i) := r1
            have r2 : Rp X.K F1 _ (.int j) := r2
            cases r1; cases r2
            exact ⟨i, j, rfl, h3, p _ F1 H1 g1 itr_ok⟩
      · cases e2
    · cases e2
theorem zipD_get {as bs : List D} {i : Nat} {d : D} (h : (zipD as bs)[i]? = some d) : ∃ a b, as[i]? = some a ∧ bs[i]? = some b ∧ d = .tuple [a, b] := by
  unfold zipD at h
  rw [List.getElem?_zipWith] at h
  split at h
  · rename_i a b ha hb
    cases h
    exact ⟨a, b, ha, hb, rfl⟩
  · cases h
theorem itz_ok {K : PySem.W.Frag} {P : Hp → Hp → Prop} {p q : Addr} {xs ys : List V} {as bs : List D} (hS : ∀ F' H', P F' H' → Same F' H' → SqL K H' p xs) (r : ∀ F' H', P F' H' → RpA K F' xs as) (hS2 : ∀ F' H', P F' H' → Same F' H' → SqL K H' q ys) (r2 : ∀ F' H', P F' H' → RpA K F' ys bs) : ItOk K P (Itz K p q) (zipD as bs) where
  go := fun i F' H' z s hi => by
    obtain ⟨a, b, ha, hb, _⟩ := zipD_get (List.getElem?_eq_getElem hi)
    obtain ⟨v, hv, _⟩ := (r F' H' z).get ha
    obtain ⟨w, hw, _⟩ := (r2 F' H' z).get hb
    exact ⟨xs, ys, v, w, hS F' H' z s, hS2 F' H' z s, hv, hw⟩
  stop := fun F' H' z s => ⟨xs, ys, hS F' H' z s, hS2 F' H' z s, by
    rw [(r F' H' z).length, (r2 F' H' z).length]
    unfold zipD
    rw [List.length_zipWith]
    omega⟩
  yld := fun i d F' H' x H'' z s hd ⟨T, a, b, ex, hT, eH, h1, h2⟩ => by
    subst ex eH
    obtain ⟨a', b', ha, hb, rfl⟩ := zipD_get hd
    obtain ⟨d1, e1, r1⟩ := (r F' _ z).getV (h1 xs (hS F' _ z s))
    obtain ⟨d2, e2, r2⟩ := (r2 F' _ z).getV (h2 ys (hS2 F' _ z s))
    rw [ha] at e1; cases e1
    rw [hb] at e2; cases e2
    have n := Same.new (o := .tup [a, b]) (Same.none s hT)
    exact ⟨_, Grow.new s hT, .tup (SqT.of upd_same) (.cons (Rp.mono n _ _ r1) (.cons (Rp.mono n _ _ r2) .nil))⟩
theorem itzT_ok {K : PySem.W.Frag} {P : Hp → Hp → Prop} {p q : Addr} {xs ys : List V} {as bs : List D} (hS : ∀ F' H', P F' H' → Same F' H' → SqT K H' p xs) (r : ∀ F' H', P F' H' → RpA K F' xs as) (hS2 : ∀ F' H', P F' H' → Same F' H' → SqT K H' q ys) (r2 : ∀ F' H', P F' H' → RpA K F' ys bs) : ItOk K P (RZ.ItzT K p q) (zipD as bs) where
  go := fun i F' H' z s hi => by
    obtain ⟨a, b, ha, hb, _⟩ := zipD_get (List.getElem?_eq_getElem hi)
    obtain ⟨v, hv, _⟩ := (r F' H' z).get ha
    obtain ⟨w, hw, _⟩ := (r2 F' H' z).get hb
    exact ⟨xs, ys, v, w, hS F' H' z s, hS2 F' H' z s, hv, hw⟩
  stop := fun F' H' z s => ⟨xs, ys, hS F' H' z s, hS2 F' H' z s, by
    rw [(r F' H' z).length, (r2 F' H' z).length]
    unfold zipD
    rw [List.length_zipWith]
    omega⟩
  yld := fun i d F' H' x H'' z s hd ⟨T, a, b, ex, hT, eH, h1, h2⟩ => by
    subst ex eH
    obtain ⟨a', b', ha, hb, rfl⟩ := zipD_get hd
    obtain ⟨d1, e1, r1⟩ := (r F' _ z).getV (h1 xs (hS F' _ z s))
    obtain ⟨d2, e2, r2⟩ := (r2 F' _ z).getV (h2 ys (hS2 F' _ z s))
    rw [ha] at e1; cases e1
    rw [hb] at e2; cases e2
    have n := Same.new (o := .tup [a, b]) (Same.none s hT)
    exact ⟨_, Grow.new s hT, .tup (SqT.of upd_same) (.cons (Rp.mono n _ _ r1) (.cons (Rp.mono n _ _ r2) .nil))⟩
variable {elts : List Expr} {kk : Nat} {tpos : Pos}
theorem RdL.two {K : PySem.W.Frag} {F H : Hp} {vs : List V} {a b : Sl} (h : RdL K F H vs [a, b]) : ∃ v w, vs = [v, w] ∧ RdR K F H v a ∧ RdR K F H w b := by
  cases h with
  | cons r1 r2 =>
    cases r2 with
    | cons r2 r3 =>
      cases r3
      exact ⟨_, _, rfl, r1, r2⟩
theorem RdL.one {K : PySem.W.Frag} {F H : Hp} {vs : List V} {a : Sl} (h : RdL K F H vs [a]) : ∃ v, vs = [v] ∧ RdR K F H v a := by
  cases h with
  | cons r1 r2 =>
    cases r2
    exact ⟨_, rfl, r1⟩
theorem pdi_zip (hG : Gl X "zip") (hm : X.mg "zip" = none) (ha : PDA X xi W [e, e2] fs)
    (hs : starEach [e, e2] X.env = (false, eval e X.env) :: starEach [e2] X.env := by rfl) (hpl : (backTo p2 (starEach [e2] X.env)).any (·.1) = false := by rfl) : PDI X xi W zF (.Tuple elts kk tpos) (.Call (.Name "zip" p) [e, e2] [] p2) (iCall zpF fs) := by
  refine PI.imp (RZ.pi_zipA hG hm ha hs hpl) ?_
  rintro σ H R ⟨F0, H0, F, δ, st, p⟩
  refine tA_use st (fun x v F1 H1 e1 g1 r1 => ?_) (fun x F1 H1 e1 g1 => by simp only [iCall, e1, Rs.bind] at p; exact p F1 H1 g1) (fun e1 => by simp only [iCall, e1, Rs.bind] at p; exact p)
  simp only [iCall, e1, Rs.bind] at p
  cases e2 : zpF x with
  | none => rw [e2] at p; exact p.elim
  | some q =>
    rw [e2] at p
    unfold zpF at e2
    split at e2
    · obtain ⟨v1, v2, rfl, ra, rb⟩ := r1.two
      split at e2
      · rename_i ha hb
        cases e2
        obtain ⟨p1, xs, rfl, hS, ra⟩ := ra.itl ha
        obtain ⟨p2, ys, rfl, hS2, rb⟩ := rb.itl hb
        exact ⟨p1, p2, xs, ys, rfl, .inl ⟨same_l g1.sm hS, same_l g1.sm hS2, p _ F1 H1 g1 (itz_ok (fun F' H' q s => same_l s (same_l q hS)) (fun F' H' q => RpA.mono q _ _ ra) (fun F' H' q s => same_l s (same_l q hS2)) fun F' H' q => RpA.mono q _ _ rb)⟩⟩
      · split at e2
        · rename_i ha hb
          cases e2
          obtain ⟨p1, xs, rfl, hS, ra⟩ := ra.tupF ha
          obtain ⟨p2, ys, rfl, hS2, rb⟩ := rb.tupF hb
          exact ⟨p1, p2, xs, ys, rfl, .inr ⟨same_t g1.sm hS, same_t g1.sm hS2, p _ F1 H1 g1 (itzT_ok (fun F' H' q s => same_t s (same_t q hS)) (fun F' H' q => RpA.mono q _ _ ra) (fun F' H' q s => same_t s (same_t q hS2)) fun F' H' q => RpA.mono q _ _ rb)⟩⟩
        · cases e2
    · cases e2
end
end DL

namespace DL
open PySem PySem.Spec PyProof.Rows L2

/-! ### loops -/
section
variable {X : Cx} {xi : Xi} {W : WX} {a b : En → Out} {e c tg : Expr} {f : En → Rs Sl} {pos : Pos} {A B : List Stmt} {cf : En → Rs Bool} {t : Tg} {it : En → Rs (List D)}
/-- a turn's end -/
theorem lp_step {K : PySem.W.Frag} {F0 H0 F H : Hp} {E : Ends} {o : Out} {k : En → Out} {P : L2.St → Hp → Prop} (p : PostS K xi W F0 H0 F H E (lpE o k))
    (hP : ∀ σ' F' H' δ, Stt K xi F0 H0 F' H' σ' δ → Same F F' → PostS K xi W F0 H0 F' H' E (k δ) → P σ' H') : PostS K xi W F0 H0 F H { E with nx := P, ct := P, bk := E.nx } o := by
  cases o with
  | nx δ => exact fun σ' F' H' st s => hP σ' F' H' δ st s (PostS.later (H := H) (F := F) p s)
  | ct δ => exact fun σ' F' H' st s => hP σ' F' H' δ st s (PostS.later (H := H) (F := F) p s)
  | bk δ => exact p
  | rt v => exact p
  | rm d δ => exact p
  | er c δ => exact p
  | bad => exact p
theorem forL_drop {δ : En} {ds : List D} {i : Nat} {d : D} (h : ds[i]? = some d) : forL t b (ds.drop i) δ = match t (.im d) δ with
    | some δ1 => lpE (b δ1) (forL t b (ds.drop (i + 1)))
    | none => .bad := by
  obtain ⟨hi, e⟩ := List.getElem?_eq_some_iff.mp h
  rw [List.drop_eq_getElem_cons hi, e]
  rfl
theorem pds_for (hp : PassesOwn (model X.prog X.w) X.A X.env X.xe) (hc : X.calm = true) (hi : PDI X xi W zF tg e it) (hg : PDG X xi tg t) (hb : PDB X xi W A b) (hs : ∀ x, foldedSetIterable e X.env x = pure x := by intro _; rfl) :
    PDS X xi W (.For tg e A [] pos) (sFor it t b) := by
  refine PS.imp (ps_for hp hc hi hg hb hs) ?_
  rintro E σ H ⟨F0, H0, F, δ, st, p⟩
  refine ⟨F0, H0, F, δ, st, ?_⟩
  unfold sFor at p
  cases e1 : it δ with
  | bad => rw [e1] at p; exact p
  | er c => rw [e1] at p; exact fun F1 H1 g1 => p σ F1 H1 (st.grow g1) (g1.ff st.sm)
  | ok ds =>
    rw [e1] at p
    intro J F1 H1 g1 j
    have st1 := st.grow g1
    refine ⟨fun i m σ H => m = ds.length - i ∧ i ≤ ds.length ∧ ∃ F' δ, Stt X.K xi F0 H0 F' H σ δ ∧ Same F1 F' ∧ PostS X.K xi W F0 H0 F' H E (forL t b (ds.drop i) δ), ⟨_, rfl, Nat.zero_le _, F1, δ, st1, Same.refl F1, PostS.later p (g1.ff st.sm)⟩, ?_⟩
    rintro i m σ2 H2 ⟨rfl, hi, F', δ', st', s', q⟩
    by_cases hlt : i < ds.length
    · have hd : ds[i]? = some ds[i] := List.getElem?_eq_getElem hlt
      rw [forL_drop hd] at q
      refine .inr ⟨j.go i F' H2 s' st'.sm hlt, fun σ' H' => ∃ F' δ, Stt X.K xi F0 H0 F' H' σ' δ ∧ Same F1 F' ∧ PostS X.K xi W F0 H0 F' H' E (forL t b (ds.drop (i + 1)) δ), fun σ' H' h => ⟨ds.length - (i + 1), by omega, rfl, hlt, h⟩, fun x H3 y => ?_⟩
      obtain ⟨F3, g3, rx⟩ := j.yld i _ F' H2 x H3 s' st'.sm hd y
      cases e2 : t (.im ds[i]) δ' with
      | none => rw [e2] at q; exact q.elim
      | some δ1 =>
        rw [e2] at q
        refine ⟨F0, H0, F', H2, F3, δ', .im ds[i], δ1, st', g3, rx, e2, fun σ4 F4 st4 s4 => ⟨F0, H0, F4, δ1, st4, ?_⟩⟩
        exact lp_step (PostS.later (H1 := H3) q s4) fun σ5 F5 H5 δ5 st5 s5 q5 => ⟨F5, δ5, st5, (s'.trans s4).trans s5, q5⟩
    · have e : i = ds.length := by omega
      subst e
      rw [List.drop_length] at q
      exact .inl ⟨j.stop F' H2 s' st'.sm, q σ2 F' H2 st' (Same.refl F')⟩
theorem pds_while (n : Nat) (hp : PassesOwn (model X.prog X.w) X.A X.env X.xe) (hc : PDT X xi W c cf) (hb : PDB X xi W A b) : PDS X xi W (.While c A [] pos) (sWhile n cf b) := by
  refine PS.imp (ps_while hp hc hb) ?_
  rintro E σ H ⟨F0, H0, F, δ, st, p⟩
  refine ⟨fun m σ H => ∃ F' δ, Stt X.K xi F0 H0 F' H σ δ ∧ PostS X.K xi W F0 H0 F' H E (wLoop cf b m δ), ⟨n, F, δ, st, p⟩, ?_⟩
  rintro m σ H ⟨F', δ, st', q⟩
  cases m with
  | zero => exact q.elim
  | succ m =>
    unfold wLoop at q
    refine tT_use st' (fun x F1 H1 e1 g1 => ?_) (fun x F1 H1 e1 g1 => by simp only [e1] at q; exact q σ F1 H1 (st'.grow g1) (g1.ff st'.sm)) (fun e1 => by simp only [e1] at q; exact q)
    rw [e1] at q
    have st1 := st'.grow g1
    cases x with
    | true =>
      simp only [if_true]
      refine ⟨fun σ' H' => ∃ F' δ, Stt X.K xi F0 H0 F' H' σ' δ ∧ PostS X.K xi W F0 H0 F' H' E (wLoop cf b m δ), fun σ' H' h => ⟨m, Nat.lt_succ_self m, h⟩, F0, H0, F1, δ, st1, ?_⟩
      exact lp_step (PostS.later (H1 := H1) q (g1.ff st'.sm)) fun σ3 F3 H3 δ3 st3 s3 q3 => ⟨F3, δ3, st3, q3⟩
    | false =>
      simp only [Bool.false_eq_true, if_false]
      exact q σ F1 H1 st1 (g1.ff st'.sm)

/-! ### own lists changed -/
theorem pds_append (i : Nat) {ce : Expr} (h : PE X ce (tBM X.K "list" rAppend (tVar i) (tCons (tD X.K xi W f) tNil))) (hs : swapsWith ce none pos.line X.env = pure false := by rfl) : PDS X xi W (.Expr ce pos) (sAppend i f) := by
  refine PS.imp (ps_expr h hs) ?_
  rintro E σ H ⟨F0, H0, F, δ, st, p⟩
  unfold sAppend at p
  split at p
  · rename_i ds e2
    obtain ⟨v, ev, ⟨pp, xs, rfl, n0, nF, hp, r⟩, _⟩ := st.sl i _ e2
    refine ⟨_, ev, .inl ⟨rfl, xs, SqL.of hp⟩, ?_⟩
    refine tD_use st (fun x v F1 H1 e1 g1 r1 => ?_) (fun x F1 H1 e1 g1 => by rw [e1] at p; exact p σ F1 H1 (st.grow g1) (g1.ff st.sm)) (fun e1 => by rw [e1] at p; exact p)
    rw [e1] at p
    cases x with
    | im d =>
      simp only at p
      split at p
      · rename_i hl
        have hp1 := g1.hh _ _ hp
        refine ⟨pp, xs, v, rfl, rfl, hp1, by rw [r.length, sizeLine_eq]; exact hl, ?_⟩
        have st1 := st.grow g1
        exact p σ F1 _ (st1.mut e2 ev n0 ((g1.ag _ _ hp).trans nF) ((RpA.mono (g1.ff st.sm) _ _ r).append (.cons r1 .nil))) (g1.ff st.sm)
      · exact p.elim
    | _ => exact p.elim
  · exact p.elim
theorem pds_extend (i : Nat) {ce : Expr} (h : PE X ce (tBM X.K "list" rExtend (tVar i) (tCons (tD X.K xi W f) tNil))) (hs : swapsWith ce none pos.line X.env = pure false := by rfl) : PDS X xi W (.Expr ce pos) (sExtend i f) := by
  refine PS.imp (ps_expr h hs) ?_
  rintro E σ H ⟨F0, H0, F, δ, st, p⟩
  unfold sExtend at p
  split at p
  · rename_i ds e2
    obtain ⟨v, ev, ⟨pp, xs, rfl, n0, nF, hp, r⟩, _⟩ := st.sl i _ e2
    refine ⟨_, ev, .inl ⟨rfl, xs, SqL.of hp⟩, ?_⟩
    refine tD_use st (fun x v F1 H1 e1 g1 r1 => ?_) (fun x F1 H1 e1 g1 => by rw [e1] at p; exact p σ F1 H1 (st.grow g1) (g1.ff st.sm)) (fun e1 => by rw [e1] at p; exact p)
    rw [e1] at p
    simp only at p
    split at p
    · rename_i es he
      split at p
      · rename_i hl
        have hp1 := g1.hh _ _ hp
        obtain ⟨b, zs, rfl, hb, rb⟩ := RdR.lstM g1.sm r1.rd he
        refine ⟨pp, b, xs, zs, rfl, rfl, hp1, hb, by rw [r.length, rb.length, sizeLine_eq]; exact hl, ?_⟩
        have st1 := st.grow g1
        exact p σ F1 _ (st1.mut e2 ev n0 ((g1.ag _ _ hp).trans nF) ((RpA.mono (g1.ff st.sm) _ _ r).append rb)) (g1.ff st.sm)
      · exact p.elim
    · exact p.elim
  · exact p.elim
theorem ixN_lt {n : Nat} {k : Int} {j : Nat} (h : ixN n k = some j) : j < n := (ixN_seq h).2.1
/-- xs[k] = e -/
theorem pds_setI {i : Nat} {x : Str} {k : Expr} {g : En → Rs Sl} {p1 p3 : Pos} (he : PD X xi W e f) (hk : PD X xi W k g) (hN : X.N[i]? = some x := by rfl) (hv : Vis X.env.scope x := by first | exact Or.inl rfl | exact Or.inr (Or.inl rfl) | exact Or.inr (Or.inr rfl))
    (ha : ∀ v, assign (.Subscript (.Name x p1) k p3) X.env v = (do
      let ov ← holding [v] (eval (.Name x p1) X.env)
      let iv ← holding [v, ov] (eval k X.env)
      standAt p3
      holding [v, ov, iv] (setItem ov iv v)
      release [v, ov, iv] []) := by intro _; rfl)
    (hd : (x == ("__debug__" : Str)) = false := by decide) (hcd : (x == ("__classdict__" : Str)) = false := by decide)
    (hs : swapsWithSole [.Subscript (.Name x p1) k p3] e pos.line X.env = pure false := by rfl) (hw : swappedStores [.Subscript (.Name x p1) k p3] e X.env = pure none := by rfl)
    (h1 : (assignEach [.Subscript (.Name x p1) k p3] X.env).map (·.2) = [assign (.Subscript (.Name x p1) k p3) X.env] := by rfl) : PDS X xi W (.Assign [.Subscript (.Name x p1) k p3] e pos) (sSetI i g f) := by
  refine PS.imp (ps_asg he (pg_sub (pe_var hN hv hd hcd) hk set_list ha) hs hw h1) ?_
  rintro E σ H ⟨F0, H0, F, δ, st, p⟩
  unfold sSetI at p
  refine tD_use st (fun s v F1 H1 e1 g1 r1 => ?_) (fun x F1 H1 e1 g1 => by rw [e1] at p; exact p σ F1 H1 (st.grow g1) (g1.ff st.sm)) (fun e1 => by rw [e1] at p; exact p)
  rw [e1] at p
  cases s with
  | im d =>
    simp only at p
    have st1 := st.grow g1
    cases e2 : g δ with
    | er c => rw [e2] at p; exact p.elim
    | bad => rw [e2] at p; exact p.elim
    | ok s2 =>
      rw [e2] at p
      cases s2 with
      | im d2 =>
        cases d2 with
        | int kk =>
          simp only at p
          split at p
          · rename_i ds e3
            split at p
            · rename_i j hj
              obtain ⟨vo, ev, ⟨pp, xs, rfl, n0, nF, hp, r⟩, _⟩ := st1.sl i _ e3
              refine ⟨_, ev, ?_⟩
              refine tD_use st1 (fun s3 v3 F2 H2 e4 g2 r3 => ?_) (fun x F2 H2 e4 g2 => by rw [e2] at e4; cases e4) (fun e4 => by rw [e2] at e4; cases e4)
              rw [e2] at e4
              cases e4
              cases r3
              refine ⟨pp, xs, kk, j, rfl, rfl, g2.hh _ _ hp, by rw [r.length]; exact hj, ?_⟩
              have st2 := st1.grow g2
              have ff := g2.ff st1.sm
              exact p σ F2 _ (st2.mut e3 ev n0 ((g2.ag _ _ hp).trans nF) ((RpA.mono ff _ _ r).set j (Rp.mono ff _ _ r1))) ((g1.ff st.sm).trans ff)
            · exact p.elim
          · exact p.elim
        | _ => exact p.elim
      | _ => exact p.elim
  | _ => exact p.elim
/-- x op= e -/
theorem pds_aug {i : Nat} {x : Str} {op : Operator} {m : Sl → Sl → Option Sl} {pos' : Pos} (hN : X.N.Nodup) (ho : OpR X (inplaceOp op) (rD X.K m)) (he : PD X xi W e f) (hx : XiOk xi i) (hi : X.N[i]? = some x := by rfl) (hl : Loc X.env.scope x := by first | exact Or.inl rfl | exact Or.inr rfl)
    (hf : X.fn x = true ∨ X.env.scope.names.lookup x = some .local := by first | exact .inl rfl | exact .inr rfl | assumption) : PDS X xi W (.AugAssign (.Name x pos') op e pos) (sAug m i f) := by
  refine PS.imp (ps_aug (ti := rD X.K m) hN hi hl he (fun pins s σ H x y v u Q I rx ry q => ho pins s σ H x y v u Q I rx ry q) hf) ?_
  rintro E σ H ⟨F0, H0, F, δ, st, p⟩
  unfold sAug at p
  split at p
  · rename_i s e2
    obtain ⟨v, ev, r, _⟩ := st.sl i _ e2
    refine ⟨v, ev, ?_⟩
    refine tD_use st (fun a u F1 H1 e1 g1 r1 => ?_) (fun x F1 H1 e1 g1 => by rw [e1] at p; exact p σ F1 H1 (st.grow g1) (g1.ff st.sm)) (fun e1 => by rw [e1] at p; exact p)
    rw [e1] at p
    simp only at p
    split at p
    · rename_i d em
      refine ⟨F1, s, a, .im d, g1.sm, r.rd.grow g1 st.sm, r1.rd, em, fun z F2 H2 g2 r2 => ?_⟩
      exact p _ F2 H2 (st.set (g1.trans g2) r2 rfl hx) ((g1.trans g2).ff st.sm)
    · exact p.elim
  · exact p.elim
theorem pds_raise {C : Str} (hc : X.calm = true) (tk : L2N.Takes X W) (he : L2N.PMk X e (fun _ H Q => Q (.ref (He.ga X.K C)) none H)) : PDS X xi W (.Raise (some e) none pos) (sRaise C) := by
  refine PS.imp (L2N.ps_raise hc tk he) ?_
  rintro E σ H ⟨F0, H0, F, δ, st, p⟩
  exact p σ F H st (Same.refl F)
end
end DL

namespace DL
open PySem PySem.Spec PyProof.Rows L2

/-! ### list comprehensions: one clause -/
def wipeE (δ : En) : List Nat → En
  | [] => δ
  | v :: vs => (wipeE δ vs).set v none
def compL (t : Tg) (c : En → Rs Bool) (f : En → Rs Sl) (δ : En) : List D → Rs (List D)
  | [] => .ok []
  | d :: r => match t (.im d) δ with
    | none => .bad
    | some δ1 => match c δ1 with
      | .ok true => (match f δ1 with
        | .ok (.im y) => (compL t c f δ r).bind fun ys => .ok (y :: ys)
        | _ => .bad)
      | .ok false => compL t c f δ r
      | _ => .bad
/-- the new list may not be longer than a list can be -/
def eComp (it : En → Rs (List D)) (vs : List Nat) (t : Tg) (c : En → Rs Bool) (f : En → Rs Sl) : En → Rs Sl := fun δ => (it δ).bind fun ds => if ds.length ≤ 16777216 then (match compL t c f (wipeE δ vs) ds with
  | .ok ys => .ok (.ml ys)
  | _ => .bad) else .bad
def cYes : En → Rs Bool := fun _ => .ok true
theorem wipe_get {σ : L2.St} {i : Nat} : ∀ {vs : List Nat}, i ∉ vs → (wipe σ vs)[i]? = σ[i]?
  | [], _ => rfl
  | v :: vs, h => by
    unfold wipe
    rw [List.getElem?_set_ne (fun e => h (by simp [e])), wipe_get fun q => h (by simp [q])]
theorem wipeE_some {δ : En} {i : Nat} {s : Sl} : ∀ {vs : List Nat}, (wipeE δ vs)[i]? = some (some s) → δ[i]? = some (some s) ∧ i ∉ vs
  | [], h => ⟨h, by simp⟩
  | v :: vs, h => by
    unfold wipeE at h
    by_cases hi : v = i
    · subst hi
      by_cases hv : v < (wipeE δ vs).length
      · rw [List.getElem?_set_self hv] at h; cases h
      · rw [List.getElem?_eq_none (by simpa using hv)] at h; cases h
    · rw [List.getElem?_set_ne hi] at h
      obtain ⟨h1, h2⟩ := wipeE_some h
      exact ⟨h1, by simp only [List.mem_cons, not_or]; exact ⟨fun e => hi e.symm, h2⟩⟩
theorem wipeE_length (δ : En) : ∀ vs : List Nat, (wipeE δ vs).length = δ.length
  | [] => rfl
  | v :: vs => by unfold wipeE; rw [List.length_set, wipeE_length δ vs]
theorem Stt.wipe {K : PySem.W.Frag} {F0 H0 F H : Hp} {σ : L2.St} {δ : En} (st : Stt K [] F0 H0 F H σ δ) (vs : List Nat) : Stt K [] F0 H0 F H (L2.wipe σ vs) (wipeE δ vs) :=
  st.less (by rw [wipeE_length, L2.wipe_length, st.ln]) (fun i s e => by
    obtain ⟨h1, h2⟩ := wipeE_some e
    exact ⟨h1, wipe_get h2⟩) (fun _ _ _ e => nomatch e)
/-- a target of the comprehension's own names alone -/
def OwnTg (K : PySem.W.Frag) (vs : List Nat) (g : TG) (t : Tg) : Prop := ∀ (F0 H0 F H : Hp) (σ : L2.St) (δ δ1 : En) (v : V) (d : D) (Q : L2.St → Hp → Prop), Stt K [] F0 H0 F H σ δ → Rp K F v d → t (.im d) δ = some δ1 →
  (∀ σ', Stt K [] F0 H0 F H σ' δ1 → L2.wipe σ' vs = L2.wipe σ vs → Q σ' H) → g v σ H Q
theorem wipe_set {σ : L2.St} {i : Nat} {x : Option V} : ∀ {vs : List Nat}, i ∈ vs → L2.wipe (σ.set i x) vs = L2.wipe σ vs
  | [], h => by cases h
  | v :: vs, h => by
    unfold L2.wipe
    by_cases e : i ∈ vs
    · rw [wipe_set e]
    · have hv : i = v := by
        rcases List.mem_cons.mp h with q | q
        · exact q
        · exact absurd q e
      subst hv
      rw [wipe_off e, List.set_set]
where wipe_off {σ : L2.St} {i : Nat} {x : Option V} : ∀ {vs : List Nat}, i ∉ vs → L2.wipe (σ.set i x) vs = (L2.wipe σ vs).set i x
  | [], _ => rfl
  | v :: vs, h => by
    unfold L2.wipe
    rw [wipe_off (fun q => h (by simp [q])), List.set_comm _ _ (fun e => h (by simp [e]))]
theorem own_name {K : PySem.W.Frag} {i : Nat} {vs : List Nat} (hi : i ∈ vs) : OwnTg K vs (gName i) (gN i) := by
  intro F0 H0 F H σ δ δ1 v d Q st r e q
  cases e
  exact q _ (st.set (Grow.refl st.sm) (s := .im d) r rfl xiN) (wipe_set hi)
/-- several names -/
def OwnTgs (K : PySem.W.Frag) (vs : List Nat) (g : TGs) (t : List D → En → Option En) : Prop := ∀ (F0 H0 F H : Hp) (σ : L2.St) (δ δ1 : En) (v : List V) (d : List D) (Q : L2.St → Hp → Prop), Stt K [] F0 H0 F H σ δ → RpA K F v d → t d δ = some δ1 →
  (∀ σ', Stt K [] F0 H0 F H σ' δ1 → L2.wipe σ' vs = L2.wipe σ vs → Q σ' H) → g v σ H Q
theorem own_nil {K : PySem.W.Frag} {vs : List Nat} : OwnTgs K vs gNil gsN := by
  intro F0 H0 F H σ δ δ1 v d Q st r e q
  cases d with
  | nil => cases r; cases e; exact ⟨rfl, q σ st rfl⟩
  | cons _ _ => cases e
theorem own_cons {K : PySem.W.Frag} {vs : List Nat} {g : TG} {t : Tg} {gs : TGs} {u : List D → En → Option En} (h1 : OwnTg K vs g t) (h2 : OwnTgs K vs gs u) : OwnTgs K vs (gCons g gs) (gsC t u) := by
  intro F0 H0 F H σ δ δ1 v d Q st r e q
  cases d with
  | nil => cases e
  | cons d ds =>
    cases r with
    | cons r1 r2 =>
      unfold gsC at e
      obtain ⟨δ2, e1, e2⟩ := Option.bind_eq_some_iff.mp e
      exact ⟨_, _, rfl, h1 F0 H0 F H σ δ δ2 _ d _ st r1 e1 fun σ' st' w' => h2 F0 H0 F H σ' δ2 δ1 _ ds Q st' r2 e2 fun σ2 st2 w2 => q σ2 st2 (w2.trans w')⟩
theorem own_tup {K : PySem.W.Frag} {vs : List Nat} {gs : TGs} {n : Nat} {u : List D → En → Option En} (h : OwnTgs K vs gs u) : OwnTg K vs (gTup K n gs) (gT n u) := by
  intro F0 H0 F H σ δ δ1 v d Q st r e q
  unfold gT at e
  split at e
  · rename_i ds hd
    split at e
    · rename_i hl
      obtain ⟨p, xs, rfl, ht, ra⟩ := RdR.tupF (t := .im d) (H := H) r hd
      exact ⟨p, xs, rfl, same_t st.sm ht, by rw [ra.length]; exact hl, h F0 H0 F H σ δ δ1 xs ds Q st ra e q⟩
    · cases e
  · cases e

theorem wipe_none {σ : L2.St} {i : Nat} : ∀ {vs : List Nat}, i ∈ vs → (L2.wipe σ vs)[i]? = if i < σ.length then some none else none
  | [], h => by cases h
  | v :: vs, h => by
    unfold L2.wipe
    by_cases e : v = i
    · subst e
      by_cases hv : v < σ.length
      · rw [List.getElem?_set_self (by rw [L2.wipe_length]; exact hv), if_pos hv]
      · rw [if_neg hv, List.getElem?_eq_none (by rw [List.length_set, L2.wipe_length]; omega)]
    · rw [List.getElem?_set_ne e]
      have hm : i ∈ vs := by
        rcases List.mem_cons.mp h with q | q
        · exact absurd q.symm e
        · exact q
      exact wipe_none hm
theorem wipe_wipe (σ : L2.St) (vs : List Nat) : L2.wipe (L2.wipe σ vs) vs = L2.wipe σ vs := by
  apply List.ext_getElem?
  intro i
  by_cases h : i ∈ vs
  · rw [wipe_none h, wipe_none h, L2.wipe_length]
  · rw [wipe_get h]
section
variable {X : Cx} {W : WX} {elt tg iter : Expr} {ifs : List Expr} {scope : Scope} {own : List (Str × Nat)} {pos : Pos} {it : En → Rs (List D)} {g : TG} {t : Tg} {c : En → Rs Bool} {f : En → Rs Sl}
abbrev WF : WX := fun _ _ _ _ => False
theorem compL_drop {δ : En} {ds : List D} {i : Nat} {d : D} (h : ds[i]? = some d) : compL t c f δ (ds.drop i) = match t (.im d) δ with
    | none => .bad
    | some δ1 => match c δ1 with
      | .ok true => (match f δ1 with
        | .ok (.im y) => (compL t c f δ (ds.drop (i + 1))).bind fun ys => .ok (y :: ys)
        | _ => .bad)
      | .ok false => compL t c f δ (ds.drop (i + 1))
      | _ => .bad := by
  obtain ⟨hi, e⟩ := List.getElem?_eq_some_iff.mp h
  rw [List.drop_eq_getElem_cons hi, e]
  rfl
/-- the comprehension's tests -/
abbrev PDTs (X : Cx) (xi : Xi) (W : WX) (ifs : List Expr) (c : En → Rs Bool) : Prop := PTs X ifs (tT X.K xi W c)
theorem pdts_nil {xi : Xi} : PDTs X xi W [] cYes := ⟨fun pins s σ H Q I ⟨F0, H0, F, δ, st, p⟩ => pts_nil.run pins s σ H Q I (p F H (Grow.refl st.sm))⟩
theorem pdts_one {xi : Xi} {e : Expr} (h : PDT X xi W e c) : PDTs X xi W [e] c := pts_one h
theorem comp_of {K : PySem.W.Frag} {vs : List Nat} (ho : OwnTg K vs g t) : ∀ σ H Q, tD K [] W (eComp it vs t c f) σ H Q → tLc (tI K [] W zH it) g (tT K [] WF c) (tD K [] WF f) vs σ H Q := by
  rintro σ H Q ⟨F0, H0, F, δ, st, p⟩
  refine ⟨F0, H0, F, δ, st, ?_⟩
  unfold eComp at p
  cases e1 : it δ with
  | bad => rw [e1] at p; exact p.elim
  | er x => rw [e1] at p; exact fun F1 H1 g1 => p F1 H1 g1
  | ok ds =>
    rw [e1] at p
    simp only [Rs.bind] at p
    intro J F1 H1 g1 j D hD
    split at p
    · rename_i hlen
      cases e2 : compL t c f (wipeE δ vs) ds with
      | bad => rw [e2] at p; exact p.elim
      | er x => rw [e2] at p; exact p.elim
      | ok total =>
        rw [e2] at p
        have hDH : H D = none := Same.free g1.hh hD
        refine ⟨fun i m H => m = ds.length - i ∧ i ≤ ds.length ∧ ∃ F' acc ys zs, Grow F1 H1 F' H ∧ H D = some (.lst acc) ∧ F' D = none ∧ RpA K F' acc ys ∧ compL t c f (wipeE δ vs) (ds.drop i) = .ok zs ∧ ys ++ zs = total ∧ ys.length ≤ i,
          ⟨_, rfl, Nat.zero_le _, F1, [], [], total, Grow.newO g1.sm hD, upd_same, Same.none g1.sm hD, .nil, e2, rfl, Nat.le_refl _⟩, ?_⟩
        rintro i m H2 ⟨rfl, hi, F', acc, ys, zs, g2, hd2, hf2, ra, ec, et, hl⟩
        have pz : zH F1 H1 F' H2 := ⟨g2.ff g1.sm, g2.hh⟩
        by_cases hlt : i < ds.length
        · have hd : ds[i]? = some ds[i] := List.getElem?_eq_getElem hlt
          rw [compL_drop hd] at ec
          refine .inr ⟨j.go i F' H2 pz g2.sm hlt, fun H => ∃ F' acc ys zs, Grow F1 H1 F' H ∧ H D = some (.lst acc) ∧ F' D = none ∧ RpA K F' acc ys ∧ compL t c f (wipeE δ vs) (ds.drop (i + 1)) = .ok zs ∧ ys ++ zs = total ∧ ys.length ≤ i + 1,
            fun H' h => ⟨ds.length - (i + 1), by omega, rfl, hlt, h⟩, fun x H3 y => ?_⟩
          obtain ⟨F3, g3, rx⟩ := j.yld i _ F' H2 x H3 pz g2.sm hd y
          have g13 := g2.trans g3
          have st3 : Stt K [] F0 H0 F3 H3 (L2.wipe σ vs) (wipeE δ vs) := ((st.grow g1).grow g13).wipe vs
          have hd3 : H3 D = some (.lst acc) := g3.hh _ _ hd2
          have hf3 : F3 D = none := (g3.ag _ _ hd2).trans hf2
          cases et1 : t (.im ds[i]) (wipeE δ vs) with
          | none => rw [et1] at ec; cases ec
          | some δ1 =>
            rw [et1] at ec
            refine ho F0 H0 F3 H3 _ _ δ1 x _ _ st3 rx et1 fun σ4 st4 w4 => ⟨w4.trans ?_, ?_⟩
            · exact wipe_wipe σ vs
            · refine tT_use st4 (fun k F5 H5 e5 g5 => ?_) (fun k F5 H5 e5 g5 => by simp only [e5] at ec; cases ec) (fun e5 => by simp only [e5] at ec; cases ec)
              simp only [e5] at ec
              have hd5 : H5 D = some (.lst acc) := g5.hh _ _ hd3
              have hf5 : F5 D = none := (g5.ag _ _ hd3).trans hf3
              cases k with
              | false =>
                simp only [Bool.false_eq_true, if_false]
                exact ⟨F5, acc, ys, zs, g13.trans g5, hd5, hf5, RpA.mono ((g3.trans g5).ff g2.sm) _ _ ra, ec, et, Nat.le_succ_of_le hl⟩
              | true =>
                simp only [if_true]
                refine tD_use (st4.grow g5) (fun s v F6 H6 e6 g6 r6 => ?_) (fun k F5 H5 e6 g5 => by simp only [e6] at ec; cases ec) (fun e6 => by simp only [e6] at ec; cases ec)
                simp only [e6] at ec
                cases s with
                | im yv =>
                  simp only at ec
                  cases e7 : compL t c f (wipeE δ vs) (ds.drop (i + 1)) with
                  | ok rest =>
                    rw [e7] at ec
                    simp only [Rs.bind] at ec
                    cases ec
                    have hd6 : H6 D = some (.lst acc) := g6.hh _ _ hd5
                    have hf6 : F6 D = none := (g6.ag _ _ hd5).trans hf5
                    have gA := (g13.trans g5).trans g6
                    have ff := ((g3.trans g5).trans g6).ff g2.sm
                    refine ⟨acc, hd6, by rw [ra.length, sizeLine_eq]; omega, F6, _, ys ++ [yv], rest, ⟨fun b o q => ?_, fun b o q => ?_, gA.ag⟩, upd_same, hf6, (RpA.mono ff _ _ ra).append (.cons r6 .nil), rfl, by rw [← et]; simp, by rw [List.length_append, List.length_singleton]; omega⟩
                    · rw [upd_ne (ne_of_none q hf6)]; exact gA.sm b o q
                    · rw [upd_ne (ne_of_none q hD)]; exact gA.hh b o q
                  | er x => rw [e7] at ec; cases ec
                  | bad => rw [e7] at ec; cases ec
                | _ => cases ec
        · have e : i = ds.length := by omega
          subst e
          rw [List.drop_length] at ec
          cases ec
          refine .inl ⟨j.stop F' H2 pz g2.sm, p (.ref D) F' H2 (g1.trans g2) ⟨D, acc, rfl, hDH, hf2, hd2, ?_⟩⟩
          rw [← et, List.append_nil]
          exact ra
    · exact p.elim
/-- as a value -/
theorem pd_lc {vs : List Nat} (hc : X.calm = true) (hN : X.N.Nodup) (hi : PDI X [] W zH tg iter it) (ok : BlkOk X.N X.env.scope scope own) (ho : OwnTg X.K (own.map (·.2)) g t)
    (hg : ∀ (s : Shared) (H : Hp) (C : Addr) (cl : List (Str × Addr)) (fp : List Addr), PG (X.blk s H scope (compEnvC scope cl C X.env) fp) tg g)
    (ht : ∀ (s : Shared) (H : Hp) (C : Addr) (cl : List (Str × Addr)) (fp : List Addr), PDTs (X.blk s H scope (compEnvC scope cl C X.env) fp) [] WF ifs c)
    (he : ∀ (s : Shared) (H : Hp) (C : Addr) (cl : List (Str × Addr)) (fp : List Addr), PD (X.blk s H scope (compEnvC scope cl C X.env) fp) [] WF elt f)
    (hs : ∀ x, foldedSetIterable iter X.env x = pure x := by intro _; rfl) (hvs : own.map (·.2) = vs := by rfl) : PD X [] W (.ListComp elt [⟨tg, iter, ifs, 0⟩] scope pos) (eComp it vs t c f) := by
  subst hvs
  exact PE.imp (pe_lc hc hN hi ok hg ht he hs) (comp_of ho)
theorem pds_setLc {vs : List Nat} {i : Nat} {y : Str} {py spos : Pos} (hc : X.calm = true) (hN : X.N.Nodup) (hsw : swapsWith (.ListComp elt [⟨tg, iter, ifs, 0⟩] scope pos) (some (.Name y py)) spos.line X.env = pure true)
    (hi : PDI X [] W zH tg iter it) (ok : BlkOk X.N X.env.scope scope own) (ho : OwnTg X.K (own.map (·.2)) g t)
    (hg : ∀ (s : Shared) (H : Hp) (C : Addr) (cl : List (Str × Addr)) (fp : List Addr), PG (X.blk s H scope (compEnvC scope cl C X.env) fp) tg g)
    (ht : ∀ (s : Shared) (H : Hp) (C : Addr) (cl : List (Str × Addr)) (fp : List Addr), PDTs (X.blk s H scope (compEnvC scope cl C X.env) fp) [] WF ifs c)
    (he : ∀ (s : Shared) (H : Hp) (C : Addr) (cl : List (Str × Addr)) (fp : List Addr), PD (X.blk s H scope (compEnvC scope cl C X.env) fp) [] WF elt f)
    (hy : X.N[i]? = some y := by rfl) (hyl : X.env.scope.names.lookup y = some .local := by rfl)
    (hs : ∀ x, foldedSetIterable iter X.env x = pure x := by intro _; rfl) (hvs : own.map (·.2) = vs := by rfl) : PDS X [] W (.Assign [.Name y py] (.ListComp elt [⟨tg, iter, ifs, 0⟩] scope pos) spos) (sAsg (eComp it vs t c f) (gN i)) := by
  subst hvs
  exact PS.imp (ps_setLc hc hN hy hyl hsw hi ok hg ht he hs) fun E σ H q => by
    obtain ⟨F0, H0, F, δ, st, p⟩ := q
    refine comp_of (K := X.K) (W := W) (c := c) (f := f) ho σ H (fun x H1 => gName i x σ H1 E.nx) ?_
    refine tD_use st (fun s v F1 H1 e1 g1 r1 => ?_) (fun x F1 H1 e1 g1 => by simp only [sAsg, e1] at p; exact p σ F1 H1 (st.grow g1) (g1.ff st.sm)) (fun e1 => by simp only [sAsg, e1] at p; exact p)
    simp only [sAsg, e1] at p
    cases e2 : gN i s δ with
    | none => rw [e2] at p; exact p.elim
    | some δ' =>
      rw [e2] at p
      exact tG_name xiN v σ H1 _ ⟨F0, H0, F, H, F1, δ, s, δ', st, g1, r1, e2, fun σ' F' st' s' => p σ' F' H1 st' s'⟩
/-- .. frozen at once -/
theorem pds_setLcI {i : Nat} {y : Str} {py spos : Pos} {a : En → Out} (h : PDS X [] W (.Assign [.Name y py] (.ListComp elt [⟨tg, iter, ifs, 0⟩] scope pos) spos) a) : PDS X [] W (.Assign [.Name y py] (.ListComp elt [⟨tg, iter, ifs, 0⟩] scope pos) spos) (fun δ => match a δ with
    | .nx δ' => .nx (fzS i δ')
    | o => o) := PS.imp h (by
  rintro E σ H ⟨F0, H0, F, δ, st, p⟩
  refine ⟨F0, H0, F, δ, st, ?_⟩
  cases e : a δ with
  | nx δ' =>
    simp only [e] at p
    intro σ' F' H' st' s'
    obtain ⟨F2, s2, st2⟩ := st'.fz i
    exact p σ' F2 H' st2 (s'.trans s2)
  | _ => simp only [e] at p; exact p)
end
end DL

namespace DL
open PySem PySem.Spec PyProof.Rows L2

/-! ### built-in calls -/
section
variable {X : Cx}
def lenD : Sl → Option Nat
  | .im (.str x) => if x.length ≤ 16777216 then some x.length else none
  | .im (.tuple ds) => some ds.length
  | s => (lstOf s).map (·.length)
def mLen : List Sl → Option Sl
  | [a] => (lenD a).map fun (n : Nat) => .im (.int (n : Int))
  | _ => none
theorem c_len : CallR X (.builtin "len") (rC X.K mLen) := by
  refine CallR.imp call_len ?_
  rintro vs H Q ⟨F, as, s, sm, r, e, q⟩
  unfold mLen at e
  split at e
  · obtain ⟨v, rfl, ra⟩ := r.one
    obtain ⟨n, hn, rfl⟩ := Option.map_eq_some_iff.mp e
    refine ⟨v, n, rfl, ?_, q _ F H (Grow.refl sm) (.int _)⟩
    unfold lenD at hn
    split at hn
    · split at hn
      · rename_i hl
        cases hn
        cases ra
        exact ⟨by rw [sizeLine_eq]; exact hl, rfl⟩
      · cases hn
    · cases hn
      obtain ⟨p, xs, rfl, hT, rr⟩ := RdR.tup sm ra rfl
      exact .inr ⟨xs, hT, rr.length.symm⟩
    · obtain ⟨ds, hd, rfl⟩ := Option.map_eq_some_iff.mp hn
      obtain ⟨p, xs, rfl, hT, rr⟩ := RdR.lst sm ra hd
      exact .inl ⟨xs, hT, rr.length.symm⟩
  · cases e
def mInt1 : List Sl → Option Sl
  | [.im (.int i)] => some (.im (.int i))
  | [.im (.bool k)] => some (.im (.int (if k = true then 1 else 0)))
  | _ => none
theorem c_int : CallR X (.type "int") (rC X.K mInt1) := by
  refine CallR.imp call_int1 ?_
  rintro vs H Q ⟨F, as, s, sm, r, e, q⟩
  unfold mInt1 at e
  split at e
  · obtain ⟨v, rfl, ra⟩ := r.one
    cases e; cases ra
    exact .inl ⟨_, rfl, q _ F H (Grow.refl sm) (.int _)⟩
  · obtain ⟨v, rfl, ra⟩ := r.one
    cases e; cases ra
    exact .inr ⟨_, rfl, q _ F H (Grow.refl sm) (.int _)⟩
  · cases e
def mAbs : List Sl → Option Sl
  | [.im (.int i)] => some (.im (.int (if i < 0 then -i else i)))
  | _ => none
theorem c_abs : CallR X (.builtin "abs") (rC X.K mAbs) := by
  refine CallR.imp call_abs ?_
  rintro vs H Q ⟨F, as, s, sm, r, e, q⟩
  unfold mAbs at e
  split at e
  · obtain ⟨v, rfl, ra⟩ := r.one
    cases e; cases ra
    exact ⟨_, rfl, q _ F H (Grow.refl sm) (.int _)⟩
  · cases e
def mMax2 : List Sl → Option Sl
  | [.im (.int i), .im (.int j)] => some (.im (.int (if j > i then j else i)))
  | _ => none
theorem c_max2 (hc : X.calm = true) : CallR X (.builtin "max") (rC X.K mMax2) := by
  refine CallR.imp (call_max2 hc) ?_
  rintro vs H Q ⟨F, as, s, sm, r, e, q⟩
  unfold mMax2 at e
  split at e
  · obtain ⟨v, w, rfl, ra, rb⟩ := r.two
    cases e; cases ra; cases rb
    exact ⟨_, _, rfl, q _ F H (Grow.refl sm) (.int _)⟩
  · cases e
def mMin2 : List Sl → Option Sl
  | [.im (.int i), .im (.int j)] => some (.im (.int (if j < i then j else i)))
  | _ => none
theorem c_min2 (hc : X.calm = true) : CallR X (.builtin "min") (rC X.K mMin2) := by
  refine CallR.imp (call_min2 hc) ?_
  rintro vs H Q ⟨F, as, s, sm, r, e, q⟩
  unfold mMin2 at e
  split at e
  · obtain ⟨v, w, rfl, ra, rb⟩ := r.two
    cases e; cases ra; cases rb
    exact ⟨_, _, rfl, q _ F H (Grow.refl sm) (.int _)⟩
  · cases e
def mStr : List Sl → Option Sl
  | [.im (.int i)] => if i.natAbs.log2 < 1920 then some (.im (.str (toString i))) else none
  | _ => none
theorem c_str : CallR X (.type "str") (rC X.K mStr) := by
  refine CallR.imp call_str_int ?_
  rintro vs H Q ⟨F, as, s, sm, r, e, q⟩
  unfold mStr at e
  split at e
  · split at e
    · obtain ⟨v, rfl, ra⟩ := r.one
      rename_i h
      cases e; cases ra
      exact ⟨_, rfl, h, q _ F H (Grow.refl sm) (.str _)⟩
    · cases e
  · cases e
def mOrd : List Sl → Option Sl
  | [.im (.str x)] => if x.length = 1 then some (.im (.int (x.cps.getD 0 0 : Nat))) else none
  | _ => none
theorem c_ord : CallR X (.builtin "ord") (rC X.K mOrd) := by
  refine CallR.imp call_ord ?_
  rintro vs H Q ⟨F, as, s, sm, r, e, q⟩
  unfold mOrd at e
  split at e
  · split at e
    · obtain ⟨v, rfl, ra⟩ := r.one
      rename_i h
      cases e; cases ra
      exact ⟨_, rfl, h, q _ F H (Grow.refl sm) (.int _)⟩
    · cases e
  · cases e
def intsOf : List D → Option (List Int)
  | [] => some []
  | .int i :: r => (intsOf r).map (i :: ·)
  | _ => none
def boolsOf : List D → Option (List Bool)
  | [] => some []
  | .bool i :: r => (boolsOf r).map (i :: ·)
  | _ => none
theorem intsOf_eq : ∀ {ds : List D} {ns : List Int}, intsOf ds = some ns → ds = ns.map PyData.int
  | [], ns, h => by cases h; rfl
  | d :: r, ns, h => by
    unfold intsOf at h
    split at h
    · rename_i e; cases e
    · rename_i i r' e
      cases e
      obtain ⟨ms, h1, rfl⟩ := Option.map_eq_some_iff.mp h
      rw [intsOf_eq h1]; rfl
    · cases h
theorem intsOf_ints : ∀ ns : List Int, intsOf (ns.map PyData.int) = some ns
  | [] => rfl
  | n :: ns => by
    show (intsOf (ns.map PyData.int)).map (n :: ·) = _
    rw [intsOf_ints ns]; rfl
theorem boolsOf_eq : ∀ {ds : List D} {ns : List Bool}, boolsOf ds = some ns → ds = ns.map PyData.bool
  | [], ns, h => by cases h; rfl
  | d :: r, ns, h => by
    unfold boolsOf at h
    split at h
    · rename_i e; cases e
    · rename_i i r' e
      cases e
      obtain ⟨ms, h1, rfl⟩ := Option.map_eq_some_iff.mp h
      rw [boolsOf_eq h1]; rfl
    · cases h
theorem boolsOf_bools : ∀ ns : List Bool, boolsOf (ns.map PyData.bool) = some ns
  | [] => rfl
  | n :: ns => by
    show (boolsOf (ns.map PyData.bool)).map (n :: ·) = _
    rw [boolsOf_bools ns]; rfl
def mSum : List Sl → Option Sl
  | [a] => ((lstOf a).bind intsOf).map fun ns => .im (.int ns.sum)
  | _ => none
theorem c_sum (hc : X.calm = true) : CallR X (.builtin "sum") (rC X.K mSum) := by
  refine CallR.imp (cr_sum hc) ?_
  rintro vs H Q ⟨F, as, s, sm, r, e, q⟩
  unfold mSum at e
  split at e
  · obtain ⟨v, rfl, ra⟩ := r.one
    obtain ⟨ns, h1, rfl⟩ := Option.map_eq_some_iff.mp e
    obtain ⟨ds, h2, h3⟩ := Option.bind_eq_some_iff.mp h1
    obtain rfl := intsOf_eq h3
    obtain ⟨p, xs, rfl, hT, rr⟩ := RdR.lst sm ra h2
    obtain rfl := rr.ofInts
    exact ⟨p, ns, rfl, hT, q _ F H (Grow.refl sm) (.int _)⟩
  · cases e
def mAll : List Sl → Option Sl
  | [a] => ((lstOf a).bind boolsOf).map fun ns => .im (.bool (ns.all id))
  | _ => none
def mAny : List Sl → Option Sl
  | [a] => ((lstOf a).bind boolsOf).map fun ns => .im (.bool (ns.any id))
  | _ => none
theorem c_all (hc : X.calm = true) : CallR X (.builtin "all") (rC X.K mAll) := by
  refine CallR.imp (cr_all hc) ?_
  rintro vs H Q ⟨F, as, s, sm, r, e, q⟩
  unfold mAll at e
  split at e
  · obtain ⟨v, rfl, ra⟩ := r.one
    obtain ⟨ns, h1, rfl⟩ := Option.map_eq_some_iff.mp e
    obtain ⟨ds, h2, h3⟩ := Option.bind_eq_some_iff.mp h1
    obtain rfl := boolsOf_eq h3
    obtain ⟨p, xs, rfl, hT, rr⟩ := RdR.lst sm ra h2
    obtain rfl := rr.ofBools
    exact ⟨p, ns, rfl, hT, q _ F H (Grow.refl sm) (.bl _)⟩
  · cases e
theorem c_any (hc : X.calm = true) : CallR X (.builtin "any") (rC X.K mAny) := by
  refine CallR.imp (cr_any hc) ?_
  rintro vs H Q ⟨F, as, s, sm, r, e, q⟩
  unfold mAny at e
  split at e
  · obtain ⟨v, rfl, ra⟩ := r.one
    obtain ⟨ns, h1, rfl⟩ := Option.map_eq_some_iff.mp e
    obtain ⟨ds, h2, h3⟩ := Option.bind_eq_some_iff.mp h1
    obtain rfl := boolsOf_eq h3
    obtain ⟨p, xs, rfl, hT, rr⟩ := RdR.lst sm ra h2
    obtain rfl := rr.ofBools
    exact ⟨p, ns, rfl, hT, q _ F H (Grow.refl sm) (.bl _)⟩
  · cases e
def seqOf (a : Sl) : Option (List D) := match tupOf a with
  | some ds => some ds
  | none => lstOf a
theorem RdR.seq {K : PySem.W.Frag} {F H : Hp} {v : V} {t : Sl} {ds : List D} (s : Same F H) (r : RdR K F H v t) (e : seqOf t = some ds) : ∃ p xs, v = .ref p ∧ (SqL K H p xs ∨ SqT K H p xs) ∧ RpA K F xs ds := by
  unfold seqOf at e
  split at e
  · rename_i es h
    cases e
    obtain ⟨p, xs, ev, hT, rr⟩ := RdR.tup s r h
    exact ⟨p, xs, ev, .inr hT, rr⟩
  · obtain ⟨p, xs, ev, hT, rr⟩ := RdR.lst s r e
    exact ⟨p, xs, ev, .inl hT, rr⟩
def mList : List Sl → Option Sl
  | [a] => (seqOf a).map fun ds => .ml ds
  | _ => none
theorem c_list : CallR X (.type "list") (rC X.K mList) := by
  refine CallR.imp call_list_of ?_
  rintro vs H Q ⟨F, as, s, sm, r, e, q⟩
  unfold mList at e
  split at e
  · obtain ⟨v, rfl, ra⟩ := r.one
    obtain ⟨ds, h1, rfl⟩ := Option.map_eq_some_iff.mp e
    obtain ⟨p, xs, rfl, hT, rr⟩ := RdR.seq sm ra h1
    exact ⟨p, xs, rfl, hT, fun l hl => q _ F _ (Grow.newO sm hl) ⟨l, xs, rfl, hl, Same.none sm hl, upd_same, rr⟩⟩
  · cases e
def mTuple : List Sl → Option Sl
  | [a] => (seqOf a).map fun ds => .im (.tuple ds)
  | _ => none
theorem c_tuple : CallR X (.type "tuple") (rC X.K mTuple) := by
  refine CallR.imp call_tuple_of ?_
  rintro vs H Q ⟨F, as, s, sm, r, e, q⟩
  unfold mTuple at e
  split at e
  · obtain ⟨v, rfl, ra⟩ := r.one
    obtain ⟨ds, h1, rfl⟩ := Option.map_eq_some_iff.mp e
    unfold seqOf at h1
    split at h1
    · rename_i es h
      cases h1
      obtain ⟨p, xs, rfl, hT, rr⟩ := RdR.tupF ra h
      exact ⟨p, xs, rfl, .inr ⟨same_t sm hT, q _ F H (Grow.refl sm) (.tup hT rr)⟩⟩
    · obtain ⟨p, xs, rfl, hT, rr⟩ := RdR.lst sm ra h1
      exact ⟨p, xs, rfl, .inl ⟨hT, fun l hl => q _ _ _ (Grow.new sm hl) (.tup (SqT.of upd_same) (RpA.mono (Same.new (Same.none sm hl)) _ _ rr))⟩⟩
  · cases e
/-! sorted: the one list that is in order -/
def insI (x : Int) : List Int → List Int
  | [] => [x]
  | y :: r => if x ≤ y then x :: y :: r else y :: insI x r
def sortI : List Int → List Int
  | [] => []
  | x :: r => insI x (sortI r)
theorem insI_perm (x : Int) : ∀ l, (insI x l).Perm (x :: l)
  | [] => List.Perm.refl _
  | y :: r => by
    unfold insI
    split
    · exact List.Perm.refl _
    · exact ((insI_perm x r).cons y).trans (List.Perm.swap x y r)
theorem sortI_perm : ∀ l, (sortI l).Perm l
  | [] => List.Perm.refl _
  | x :: r => (insI_perm x (sortI r)).trans ((sortI_perm r).cons x)
theorem insI_pw (x : Int) : ∀ l : List Int, l.Pairwise (· ≤ ·) → (insI x l).Pairwise (· ≤ ·)
  | [], _ => by unfold insI; simp
  | y :: r, h => by
    unfold insI
    obtain ⟨h1, h2⟩ := List.pairwise_cons.mp h
    split
    · rename_i hx
      refine List.pairwise_cons.mpr ⟨fun a ha => ?_, h⟩
      rcases List.mem_cons.mp ha with rfl | ha
      · exact hx
      · exact Int.le_trans hx (h1 a ha)
    · rename_i hx
      refine List.pairwise_cons.mpr ⟨fun a ha => ?_, insI_pw x r h2⟩
      rcases List.mem_cons.mp ((insI_perm x r).mem_iff.mp ha) with rfl | ha
      · omega
      · exact h1 a ha
theorem sortI_pw : ∀ l, (sortI l).Pairwise (· ≤ ·)
  | [] => List.Pairwise.nil
  | x :: r => insI_pw x _ (sortI_pw r)
theorem sorted_one : ∀ {l m : List Int}, l.Perm m → l.Pairwise (· ≤ ·) → m.Pairwise (· ≤ ·) → l = m
  | [], m, p, _, _ => (List.nil_perm.mp p).symm
  | a :: l, [], p, _, _ => absurd p.length_eq (by simp)
  | a :: l, b :: m, p, h1, h2 => by
    obtain ⟨q1, q2⟩ := List.pairwise_cons.mp h1
    obtain ⟨q3, q4⟩ := List.pairwise_cons.mp h2
    have e : a = b := by
      rcases List.mem_cons.mp (p.mem_iff.mp List.mem_cons_self) with e | ha
      · exact e
      · rcases List.mem_cons.mp (p.symm.mem_iff.mp List.mem_cons_self) with e | hb
        · exact e.symm
        · exact Int.le_antisymm (q1 b hb) (q3 a ha)
    subst e
    rw [sorted_one (List.perm_cons a |>.mp p) q2 q4]
def mSorted : List Sl → Option Sl
  | [a] => ((lstOf a).bind intsOf).map fun ns => .ml ((sortI ns).map PyData.int)
  | _ => none
theorem c_sorted : CallR X (.builtin "sorted") (rC X.K mSorted) := by
  refine CallR.imp cr_sortedI ?_
  rintro vs H Q ⟨F, as, s, sm, r, e, q⟩
  unfold mSorted at e
  split at e
  · obtain ⟨v, rfl, ra⟩ := r.one
    obtain ⟨ns, h1, rfl⟩ := Option.map_eq_some_iff.mp e
    obtain ⟨ds, h2, h3⟩ := Option.bind_eq_some_iff.mp h1
    obtain rfl := intsOf_eq h3
    obtain ⟨p, xs, rfl, hT, rr⟩ := RdR.lst sm ra h2
    obtain rfl := rr.ofInts
    refine ⟨p, ns, rfl, hT, fun ns' p' hp hs hn => ?_⟩
    have e : ns' = sortI ns := sorted_one (hp.trans (sortI_perm ns).symm) hs (sortI_pw ns)
    subst e
    exact q _ F _ (Grow.newO sm hn) ⟨p', _, rfl, hn, Same.none sm hn, upd_same, RpA.ints _⟩
  · cases e

/-! ### subscripts, slices -/
theorem IxR.imp' {r r' : R2} (h : IxR X r) (i : ∀ x y H Q, r' x y H Q → r x y H Q) : IxR X r' := fun va sl pins s σ H x y v u Q I rx ry q => h va sl pins s σ H x y v u Q I rx ry (i _ _ _ _ q)
theorem atI_len {α β : Type} {xs : List α} {ys : List β} {i : Int} {y : β} (hl : xs.length = ys.length) (h : atI ys i = some y) : ∃ x, atI xs i = some x ∧ ∃ j : Nat, xs[j]? = some x ∧ ys[j]? = some y := by
  unfold atI at h ⊢
  obtain ⟨j, h1, h2⟩ := Option.bind_eq_some_iff.mp h
  have hj : j < xs.length := by rw [hl]; exact (List.getElem?_eq_some_iff.mp h2).1
  refine ⟨xs[j], ?_, j, List.getElem?_eq_getElem hj, h2⟩
  rw [hl, h1]
  exact List.getElem?_eq_getElem hj
def mIx (a b : Sl) : Option Sl := match a, b with
  | .im (.str z), .im (.int i) => if z.length ≤ 16777216 then (atI z.cps.toList i).map fun c => .im (.str ⟨#[c]⟩) else none
  | a, .im (.int i) => (seqOf a).bind fun ds => (atI ds i).map fun d => .im d
  | _, _ => none
theorem x_ix : IxR X (rD X.K mIx) := by
  refine IxR.imp' ix_seq ?_
  rintro x y H Q ⟨F, a, b, s, sm, ra, rb, e, q⟩
  unfold mIx at e
  split at e
  · split at e
    · rename_i hl
      obtain ⟨c, hc, rfl⟩ := Option.map_eq_some_iff.mp e
      cases ra; cases rb
      exact .inr (.inr ⟨_, _, c, rfl, rfl, by rw [sizeLine_eq]; exact hl, hc, q _ F H (Grow.refl sm) (.str _)⟩)
    · cases e
  · obtain ⟨ds, h1, h2⟩ := Option.bind_eq_some_iff.mp e
    obtain ⟨d, h3, rfl⟩ := Option.map_eq_some_iff.mp h2
    cases rb
    obtain ⟨p, xs, rfl, hT, rr⟩ := RdR.seq sm ra h1
    obtain ⟨v, hv, j, hj1, hj2⟩ := atI_len rr.length h3
    obtain ⟨d', hd', rd⟩ := rr.getV hj1
    rw [hj2] at hd'; cases hd'
    have q' := q v F H (Grow.refl sm) rd
    rcases hT with hT | hT
    · exact .inl ⟨p, xs, _, v, rfl, rfl, hT, hv, q'⟩
    · exact .inr (.inl ⟨p, xs, _, v, rfl, rfl, hT, hv, q'⟩)
  · cases e
def cutG {α : Type} (xs : List α) (lo hi : Option Int) : List α := (xs.drop (HT.sIx xs.length 0 lo)).take (HT.sIx xs.length xs.length hi - HT.sIx xs.length 0 lo)
theorem RpA.cut {K : PySem.W.Frag} {F : Hp} {vs : List V} {ds : List D} (h : RpA K F vs ds) (lo hi : Option Int) : RpA K F (cutV vs lo hi) (cutG ds lo hi) := by
  unfold cutV cutG
  rw [h.length]
  exact (h.drop _).take _
def mSl (a : Sl) (lo hi : Option Int) : Option Sl := match a with
  | .im (.str z) => if z.length ≤ 16777216 then some (.im (.str (cutS z lo hi))) else none
  | .im (.tuple ds) => some (.im (.tuple (cutG ds lo hi)))
  | a => (lstOf a).map fun ds => .ml (cutG ds lo hi)
def rSl (K : PySem.W.Frag) (m : Sl → Option Int → Option Int → Option Sl) : V → Option Int → Option Int → Hp → VK → Prop := fun x lo hi H Q => ∃ F a s, Same F H ∧ RdR K F H x a ∧ m a lo hi = some s ∧ ∀ v F' H', Grow F H F' H' → RepR K H F' H' v s → Q v H'
theorem SlR.imp' {r r' : V → Option Int → Option Int → Hp → VK → Prop} (h : SlR X r) (i : ∀ x l u H Q, r' x l u H Q → r x l u H Q) : SlR X r' := fun pins s σ H x v vl vu lo hi sl Q I rx hs pl pu q => h pins s σ H x v vl vu lo hi sl Q I rx hs pl pu (i _ _ _ _ _ q)
theorem x_sl : SlR X (rSl X.K mSl) := by
  refine SlR.imp' (sl_str.or (sl_tupA.or sl_list)) ?_
  rintro x lo hi H Q ⟨F, a, s, sm, ra, e, q⟩
  unfold mSl at e
  split at e
  · split at e
    · rename_i hl
      cases e; cases ra
      exact .inl ⟨_, rfl, by rw [sizeLine_eq]; exact hl, q _ F H (Grow.refl sm) (.str _)⟩
    · cases e
  · cases e
    obtain ⟨p, xs, rfl, hT, rr⟩ := RdR.tupF ra rfl
    have rc := rr.cut lo hi
    refine .inr (.inl ⟨p, xs, rfl, same_t sm hT, fun hw => ?_, fun _ z hz => ?_⟩)
    · have e : cutV xs lo hi = xs := by
        unfold cutV
        rw [hw.1, hw.2]
        simp
      rw [e] at rc
      exact q _ F H (Grow.refl sm) (.tup hT rc)
    · exact q _ _ _ (Grow.new sm hz) (.tup (SqT.of upd_same) (RpA.mono (Same.new (Same.none sm hz)) _ _ rc))
  · obtain ⟨ds, h1, rfl⟩ := Option.map_eq_some_iff.mp e
    obtain ⟨p, xs, rfl, hT, rr⟩ := RdR.lst sm ra h1
    exact .inr (.inr ⟨p, xs, rfl, hT, fun z hz => q _ F _ (Grow.newO sm hz) ⟨z, _, rfl, hz, Same.none sm hz, upd_same, rr.cut lo hi⟩⟩)
end
def oNo : En → Rs (Option Int) := fun _ => .ok none
def oPart (f : En → Rs Sl) : En → Rs (Option Int) := fun δ => (f δ).bind fun s => match s with
  | .im (.int i) => .ok (some i)
  | _ => .bad
def eSl (f : En → Rs Sl) (lo hi : En → Rs (Option Int)) : En → Rs Sl := fun δ => (f δ).bind fun a => (lo δ).bind fun l => (hi δ).bind fun u => ofO (mSl a l u)
section
variable {X : Cx} {xi : Xi} {W : WX} {a b e : Expr} {f g : En → Rs Sl} {pos p2 : Pos} {lo hi : Option Expr} {fl fu : En → Rs (Option Int)}
def PostO (K : PySem.W.Frag) (xi : Xi) (W : WX) (F H : Hp) (σ : L2.St) (Q : Option Int → Hp → Prop) : Rs (Option Int) → Prop
  | .ok o => ∀ F' H', Grow F H F' H' → Q o H'
  | .er c => ∀ F' H', Grow F H F' H' → W (cvOf K c) none σ H'
  | .bad => False
def tO (K : PySem.W.Frag) (xi : Xi) (W : WX) (f : En → Rs (Option Int)) : TO := fun σ H Q => ∃ F0 H0 F δ, Stt K xi F0 H0 F H σ δ ∧ PostO K xi W F H σ Q (f δ)
abbrev PDO (X : Cx) (xi : Xi) (W : WX) (e : Option Expr) (f : En → Rs (Option Int)) : Prop := PO X e (tO X.K xi W f)
theorem PO.imp {e : Option Expr} {t t' : TO} (h : PO X e t) (i : ∀ σ H Q, t' σ H Q → t σ H Q) : PO X e t' := ⟨fun pins s σ H Q I q => h.run pins s σ H Q I (i _ _ _ q)⟩
theorem pdo_no : PDO X xi W none oNo := PO.imp po_none (by
  rintro σ H Q ⟨F0, H0, F, δ, st, p⟩
  exact p F H (Grow.refl st.sm))
theorem pdo_some (h : PD X xi W e f) : PDO X xi W (some e) (oPart f) := by
  refine PO.imp (po_some h) ?_
  rintro σ H Q ⟨F0, H0, F, δ, st, p⟩
  refine tD_use st (fun x v F1 H1 e1 g1 r1 => ?_) (fun c F1 H1 e1 g1 => by simp only [oPart, e1, Rs.bind] at p; exact p F1 H1 g1) (fun e1 => by simp only [oPart, e1, Rs.bind] at p; exact p)
  simp only [oPart, e1, Rs.bind] at p
  split at p
  · cases r1
    exact ⟨_, rfl, p F1 H1 g1⟩
  · exact p.elim
theorem pd_ix (ha : PD X xi W a f) (hb : PD X xi W b g) (hs : PlainIx b := by exact fun _ _ => rfl) : PD X xi W (.Subscript a b pos) (eOp mIx f g) := by
  refine PE.imp (pe_ix x_ix ha hb hs) ?_
  rintro σ H Q ⟨F0, H0, F, δ, st, p⟩
  refine tD_use st (fun x v F1 H1 e1 g1 r1 => ?_) (fun c F1 H1 e1 g1 => by simp only [eOp, e1, Rs.bind] at p; exact p F1 H1 g1) (fun e1 => by simp only [eOp, e1, Rs.bind] at p; exact p)
  refine tD_use (st.grow g1) (fun y u F2 H2 e2 g2 r2 => ?_) (fun c F2 H2 e2 g2 => by simp only [eOp, e1, e2, Rs.bind] at p; exact p F2 H2 (g1.trans g2)) (fun e2 => by simp only [eOp, e1, e2, Rs.bind] at p; exact p)
  simp only [eOp, e1, e2, Rs.bind] at p
  cases em : mIx x y with
  | none => rw [em] at p; exact p.elim
  | some s =>
    rw [em] at p
    exact ⟨F2, x, y, s, g2.sm, r1.rd.grow g2 g1.sm, r2.rd, em, fun v F' H' gg r => p v F' H' (g1.trans (g2.trans gg)) (r.pre (g1.hh.trans g2.hh))⟩
theorem tO_use {K : PySem.W.Frag} {F0 H0 F H : Hp} {σ : L2.St} {δ : En} {f : En → Rs (Option Int)} {Q : Option Int → Hp → Prop} (st : Stt K xi F0 H0 F H σ δ) (h1 : ∀ s F' H', f δ = .ok s → Grow F H F' H' → Q s H')
    (h2 : ∀ c F' H', f δ = .er c → Grow F H F' H' → W (cvOf K c) none σ H') (h3 : f δ = .bad → False) : tO K xi W f σ H Q := by
  refine ⟨F0, H0, F, δ, st, ?_⟩
  cases e : f δ with
  | ok s => exact fun F' H' g => h1 s F' H' e g
  | er c => exact fun F' H' g => h2 c F' H' e g
  | bad => exact h3 e
theorem pd_sl (ha : PD X xi W a f) (hl : PDO X xi W lo fl) (hu : PDO X xi W hi fu) : PD X xi W (.Subscript a (.Slice lo hi none p2) pos) (eSl f fl fu) := by
  refine PE.imp (pe_slice x_sl ha hl hu) ?_
  rintro σ H Q ⟨F0, H0, F, δ, st, p⟩
  refine tD_use st (fun x v F1 H1 e1 g1 r1 => ?_) (fun c F1 H1 e1 g1 => by simp only [eSl, e1, Rs.bind] at p; exact p F1 H1 g1) (fun e1 => by simp only [eSl, e1, Rs.bind] at p; exact p)
  refine tO_use (st.grow g1) (fun y F2 H2 e2 g2 => ?_) (fun c F2 H2 e2 g2 => by simp only [eSl, e1, e2, Rs.bind] at p; exact p F2 H2 (g1.trans g2)) (fun e2 => by simp only [eSl, e1, e2, Rs.bind] at p; exact p)
  refine tO_use ((st.grow g1).grow g2) (fun z F3 H3 e3 g3 => ?_) (fun c F2 H2 e3 g3 => by simp only [eSl, e1, e2, e3, Rs.bind] at p; exact p F2 H2 ((g1.trans g2).trans g3)) (fun e3 => by simp only [eSl, e1, e2, e3, Rs.bind] at p; exact p)
  simp only [eSl, e1, e2, e3, Rs.bind] at p
  cases em : mSl x y z with
  | none => rw [em] at p; exact p.elim
  | some s =>
    rw [em] at p
    have g23 := g2.trans g3
    exact ⟨F3, x, s, g3.sm, r1.rd.grow g23 g1.sm, em, fun v F' H' gg r => p v F' H' (g1.trans (g23.trans gg)) (r.pre (g1.hh.trans g23.hh))⟩
end
end DL

namespace DL
open PySem PySem.Spec PyProof.Rows L2

/-! ### in, isinstance -/
def flatD : D → Bool
  | .none => true
  | .bool _ => true
  | .int _ => true
  | .str _ => true
  | _ => false
theorem Rp.flat {K : PySem.W.Frag} {F : Hp} {v : V} {d : D} (h : Rp K F v d) (f : flatD d = true) : v = dV d ∧ flatV v = true := by
  cases h <;> first | exact ⟨rfl, rfl⟩ | cases f
theorem RpA.flat {K : PySem.W.Frag} {F : Hp} : ∀ {vs : List V} {ds : List D}, RpA K F vs ds → ds.all flatD = true → vs = ds.map dV ∧ vs.all flatV = true
  | _, [], h, _ => by cases h; exact ⟨rfl, rfl⟩
  | _, d :: ds, h, f => by
    rw [List.all_cons, Bool.and_eq_true] at f
    cases h with
    | cons h1 h2 =>
      obtain ⟨e1, f1⟩ := h1.flat f.1
      obtain ⟨e2, f2⟩ := h2.flat f.2
      exact ⟨by rw [e1, e2]; rfl, by rw [List.all_cons, f1, f2]; rfl⟩
def inD (a b : Sl) : Option Bool := match a, b with
  | .im (.str x), .im (.str z) => (match x.cps.toList with
    | [c] => some (decide (c ∈ z.cps.toList))
    | _ => none)
  | a, b => match tupOf b with
    | some ds => (match datOf a with
      | some d => if flatD d && ds.all flatD then some (inV (dV d) (ds.map dV)) else none
      | none => none)
    | none => match lstOfM b, datOf a with
      | some ds, some d => if SeqAt.shaped d && SeqAt.shaped (.list ds) then some (ds.any fun z => PyData.eqv z d) else none
      | _, _ => none
def mIn (a b : Sl) : Option Sl := (inD a b).map fun k => .im (.bool k)
def mNotIn (a b : Sl) : Option Sl := (inD a b).map fun k => .im (.bool (!k))
theorem one_sign {x : Str} {c : Nat} (h : x.cps.toList = [c]) : x = ⟨#[c]⟩ := by
  obtain ⟨a⟩ := x
  have h : a.toList = [c] := h
  have e : a = #[c] := Array.toList_inj.mp h
  rw [e]
theorem RdR.dat1 {K : PySem.W.Frag} {F H : Hp} {v : V} {t : Sl} {d : D} (r : RdR K F H v t) (e : datOf t = some d) (f : flatD d = true) : Rp K F v d := by
  unfold datOf at e
  split at e
  · cases e; exact r
  · cases e; cases f
  · cases e; cases f
  · cases e
theorem in_of {K : PySem.W.Frag} {F H : Hp} {x y : V} {a b : Sl} {k : Bool} (sm : Same F H) (ra : RdR K F H x a) (rb : RdR K F H y b) (e : inD a b = some k) :
    (∃ (c : Nat) (z : Str), x = .str ⟨#[c]⟩ ∧ y = .str z ∧ decide (c ∈ z.cps.toList) = k) ∨ (∃ p xs, y = .ref p ∧ (SqL K H p xs ∨ SqT K H p xs) ∧ flatV x = true ∧ xs.all flatV = true ∧ inV x xs = k) ∨
      ∃ d ds, Dp K H x d ∧ Dp K H y (.list ds) ∧ SeqAt.shaped d = true ∧ SeqAt.shaped (.list ds) = true ∧ (ds.any fun z => PyData.eqv z d) = k := by
  unfold inD at e
  split at e
  · split at e
    · rename_i c hc
      cases e
      cases ra; cases rb
      exact .inl ⟨c, _, by rw [one_sign hc], rfl, rfl⟩
    · cases e
  · split at e
    · rename_i ds hb
      split at e
      · rename_i d ha
        split at e
        · rename_i hf
          rw [Bool.and_eq_true] at hf
          cases e
          obtain ⟨p, xs, rfl, hT, rr⟩ := RdR.tup sm rb hb
          obtain ⟨e1, f1⟩ := (ra.dat1 ha hf.1).flat hf.1
          obtain ⟨e2, f2⟩ := rr.flat hf.2
          exact .inr (.inl ⟨p, xs, rfl, .inr hT, f1, f2, by rw [e1, e2]⟩)
        · cases e
      · cases e
    · split at e
      · rename_i ds d hb ha
        split at e
        · rename_i hf
          rw [Bool.and_eq_true] at hf
          cases e
          obtain ⟨p, xs, rfl, hT, rr⟩ := RdR.lstM sm rb hb
          exact .inr (.inr ⟨d, ds, RdR.dp sm ra ha, .lst (SqL.of hT) (RpA.dp sm _ _ rr), hf.1, hf.2, rfl⟩)
        · cases e
      · cases e
section
variable {X : Cx}
theorem o_in (hu : X.A.units + 65 < cLine) : OpR X (compareOp .In) (rD X.K mIn) := by
  refine OpR.imp (op_in_sign.or (op_in_seq.or (op_inD hu))) ?_
  rintro x y H Q ⟨F, a, b, s, sm, ra, rb, e, q⟩
  obtain ⟨k, ek, rfl⟩ := Option.map_eq_some_iff.mp e
  have q' := q (.bl k) F H (Grow.refl sm) (.bl k)
  rcases in_of sm ra rb ek with ⟨c, z, rfl, rfl, h⟩ | ⟨p, xs, rfl, h1, h2, h3, h⟩ | ⟨d, ds, h1, h2, h3, h4, h⟩
  · exact .inl ⟨c, z, rfl, rfl, by rw [h]; exact q'⟩
  · exact .inr (.inl ⟨p, xs, rfl, h1, h2, h3, by rw [h]; exact q'⟩)
  · exact .inr (.inr ⟨d, ds, h1, h2, h3, h4, by rw [h]; exact q'⟩)
theorem o_notin (hu : X.A.units + 65 < cLine) : OpR X (compareOp .NotIn) (rD X.K mNotIn) := by
  refine OpR.imp (op_notIn_sign.or (op_notIn_seq.or (op_notInD hu))) ?_
  rintro x y H Q ⟨F, a, b, s, sm, ra, rb, e, q⟩
  obtain ⟨k, ek, rfl⟩ := Option.map_eq_some_iff.mp e
  have q' := q (.bl (!k)) F H (Grow.refl sm) (.bl (!k))
  rcases in_of sm ra rb ek with ⟨c, z, rfl, rfl, h⟩ | ⟨p, xs, rfl, h1, h2, h3, h⟩ | ⟨d, ds, h1, h2, h3, h4, h⟩
  · exact .inl ⟨c, z, rfl, rfl, by rw [h]; exact q'⟩
  · exact .inr (.inl ⟨p, xs, rfl, h1, h2, h3, by rw [h]; exact q'⟩)
  · exact .inr (.inr ⟨d, ds, h1, h2, h3, h4, by rw [h]; exact q'⟩)
/-- a value's built-in type -/
def tyOf : Sl → Option String
  | .im .none => some "NoneType"
  | .im (.bool _) => some "bool"
  | .im (.int _) => some "int"
  | .im (.str _) => some "str"
  | .im (.tuple _) => some "tuple"
  | .im (.list _) => some "list"
  | .ml _ => some "list"
  | .br _ => some "list"
  | _ => none
theorem Rp.tyx {K : PySem.W.Frag} {F H : Hp} {v : V} (s : Same F H) {t : Sl} {T : String} (r : RdR K F H v t) (e : tyOf t = some T) : TyX K H v (.type T) := by
  unfold tyOf at e
  split at e
  · cases e; cases r; exact .base .non
  · cases e; cases r; exact .base (.bl _)
  · cases e; cases r; exact .base (.int _)
  · cases e; cases r; exact .base (.str _)
  · cases e
    obtain ⟨p, xs, rfl, hT, _⟩ := RdR.tup s r rfl
    rcases hT with (h | ⟨o, h⟩) | ⟨o, its, n, h1, h2, _⟩
    · exact .base (.tup h)
    · exact .fTuple h
    · exact .kTuple h1 h2
  · cases e
    obtain ⟨p, xs, rfl, hT, _⟩ := RdR.lstM s r rfl
    exact .base (.lst hT)
  · cases e
    obtain ⟨p, xs, rfl, hT, _⟩ := r
    exact .base (.lst hT)
  · cases e
    obtain ⟨p, xs, rfl, hT, _⟩ := r
    exact .base (.lst hT)
  · cases e
def mIsi (T : String) (s : Sl) : Option Sl := (tyOf s).bind fun t => (kitB t T).map fun k => .im (.bool k)
variable {xi : Xi} {W : WX} {e : Expr} {f : En → Rs Sl} {p p2 pos : Pos} {T : String}
/-- isinstance(e, T), T a built-in type -/
theorem pd_isi (hG : Gl X "isinstance") (hm : X.mg "isinstance" = none) (hT : Gl X T) (hmT : X.mg T = none) (hv : bootBuiltins (Str.ofString T) = some (.type T)) (he : PD X xi W e f) (hn : Str.ofString T ≠ "__name__" := by decide) (hdb : (Str.ofString T == ("__debug__" : Str)) = false := by decide)
    (h1 : starEach [e, .Name T p2] X.env = (false, eval e X.env) :: starEach [.Name T p2] X.env := by rfl) (h2 : starEach [.Name T p2] X.env = (false, eval (.Name T p2) X.env) :: starEach [] X.env := by rfl)
    (hpl : (backTo pos (starEach [.Name T p2] X.env)).any (·.1) = false := by rfl) : PD X xi W (.Call (.Name "isinstance" p) [e, .Name T p2] [] pos) (eUn (mIsi T) f) := by
  refine PE.imp (pe_callB call_isi hG hm (by decide +kernel) (pa_cons he (pa_cons (pe_bltn (v := .ty T) hT hmT hv rfl hn hdb) pa_nil h2) h1) (by decide) (by decide) h1 hpl) ?_
  rintro σ H Q ⟨F0, H0, F, δ, st, p⟩
  refine tD_use st (fun x v F1 H1 e1 g1 r1 => ?_) (fun c F1 H1 e1 g1 => by simp only [eUn, e1, Rs.bind] at p; exact p F1 H1 g1) (fun e1 => by simp only [eUn, e1, Rs.bind] at p; exact p)
  simp only [eUn, e1, Rs.bind] at p
  cases em : mIsi T x with
  | none => rw [em] at p; exact p.elim
  | some s =>
    rw [em] at p
    unfold mIsi at em
    obtain ⟨t, ht, h3⟩ := Option.bind_eq_some_iff.mp em
    obtain ⟨k, hk, rfl⟩ := Option.map_eq_some_iff.mp h3
    exact ⟨v, .ty T, _, _, k, rfl, .ty T, Rp.tyx g1.sm r1.rd ht, kit_ty hk, p _ F1 H1 g1 (.bl k)⟩
end

/-! ### a def and its function -/
def initE (n : Nat) (as : List Sl) : En := as.map some ++ List.replicate (n - as.length) none
def fnM (n : Nat) (g : En → Out) (as : List Sl) : Rs Sl := match g (initE n as) with
  | .nx _ => .ok (.im .none)
  | .rt s => .ok s
  | .rm d _ => .ok (.im d)
  | .er c _ => .er c
  | _ => .bad
theorem RdL.get {K : PySem.W.Frag} {F H : Hp} : ∀ {vs : List V} {ss : List Sl} {i : Nat} {s : Sl}, RdL K F H vs ss → ss[i]? = some s → ∃ v, vs[i]? = some v ∧ RdR K F H v s
  | _, _, _, _, .nil, e => by simp at e
  | _, _, 0, _, .cons r _, e => by simp at e; subst e; exact ⟨_, rfl, r⟩
  | _, _, i + 1, s, .cons _ t, e => by
    obtain ⟨v, h1, h2⟩ := RdL.get (i := i) t (by simpa using e)
    exact ⟨v, by simpa using h1, h2⟩
theorem initE_get {n i : Nat} {as : List Sl} {s : Sl} (h : (initE n as)[i]? = some (some s)) : as[i]? = some s := by
  unfold initE at h
  by_cases hi : i < as.length
  · rw [List.getElem?_append_left (by simpa using hi), List.getElem?_map] at h
    cases e : as[i]? with
    | none => rw [e] at h; cases h
    | some t => rw [e] at h; cases h; rfl
  · rw [List.getElem?_append_right (by simpa using Nat.le_of_not_lt hi), List.getElem?_replicate] at h
    split at h <;> cases h
theorem Stt.init {K : PySem.W.Frag} {F H : Hp} {vs : List V} {as : List Sl} {N : List Str} (sm : Same F H) (r : RdL K F H vs as) (hf : as.all froz = true) : Stt K [] F H F H (L2.start N vs) (initE N.length as) := by
  have hl := r.length
  refine ⟨sm, Same.refl H, fun _ _ _ => rfl, by simp [initE, L2.start, hl], fun i s e => ?_, fun i j s t v w a e _ _ _ o _ => ?_, (fun _ _ _ e => nomatch e), fun i c fs e => ?_⟩
  · have h := initE_get e
    obtain ⟨v, hv, rv⟩ := r.get h
    have hz := List.all_eq_true.mp hf s (List.mem_of_getElem? h)
    refine ⟨v, ?_, ?_, ?_⟩
    · unfold L2.start
      have hi : i < vs.length := (List.getElem?_eq_some_iff.mp hv).1
      rw [List.getElem?_append_left (by simpa using hi), List.getElem?_map, hv]
      rfl
    · cases s with
      | im d => exact rv
      | ro ns => exact rv
      | _ => cases hz
    · cases s with
      | br ds => cases hz
      | _ => rfl
  · have hz := List.all_eq_true.mp hf s (List.mem_of_getElem? (initE_get e))
    cases s with
    | ml ds => cases hz
    | dc ds => cases hz
    | ob o c fs => cases hz
    | _ => cases o
  · have hz := List.all_eq_true.mp hf _ (List.mem_of_getElem? (initE_get e))
    cases hz
/-- what leaves a def -/
abbrev wDef (E : XK) : WX := fun cls d _ H => E cls d H
abbrev cxD (P : Program) (w : World) (K : PySem.W.Frag) (mg : Str → Option Value) (base : Heap) (N : List Str) (s : Stmt) (qual : Str) (f : Addr) (cdv : Value) (A : Around) (outer : List Env) (sh : Shared) (H : Hp) (E : XK) : Cx :=
  cxOf (L2N.CX P w) P w K mg base N qual (defScope s) f cdv A outer sh H E
abbrev FnD (K : PySem.W.Frag) (x : Str) (st : Stmt) (f : Addr) (fd : FuncData) : Prop := FunD K x x (defArgs st) (defBody st) (defScope st) [] [] f fd
section
variable {P : Program} {w : World} {K : PySem.W.Frag} {mg : Str → Option Value} {base : Heap} {f : Addr} {fd : FuncData} {x : Str} {st : Stmt} {N ps : List Str} {k : Nat} {g : En → Out}
theorem def_ok (F : FnD K x st f fd) (S : FnScope N ps (defScope st))
    (body : ∀ (cdv : Value) (A : Around) (outer : List Env) (sh : Shared) (H : Hp) (E : XK), Room k (cxD P w K mg base N st x f cdv A outer sh H E).A → L2N.Takes (cxD P w K mg base N st x f cdv A outer sh H E) (wDef E) →
      PassesOwn (model P w) (cxD P w K mg base N st x f cdv A outer sh H E).A (cxD P w K mg base N st x f cdv A outer sh H E).env (cxD P w K mg base N st x f cdv A outer sh H E).xe →
      PDB (cxD P w K mg base N st x f cdv A outer sh H E) [] (wDef E) (defBody st) g) : FnOk P w K mg base (L2N.CX P w) (k + 1) f fd ps (spD K ps.length (fnM N.length g)) := by
  refine F.ok S (fun vs H Q E h => h.1) (fun cdv A outer sh H vs Q E hr h => ?_)
  refine ⟨_, body cdv A outer sh H E hr (L2N.takes_of rfl rfl rfl rfl) (passes_of rfl), ?_⟩
  obtain ⟨hl, F, as, sm, r, hf, q⟩ := h
  refine ⟨F, H, F, initE N.length as, Stt.init sm r hf, ?_⟩
  unfold fnM at q
  cases e : g (initE N.length as) with
  | nx δ =>
    rw [e] at q
    exact fun σ' F' H' st' s' => q .non F' H' st'.gr .non
  | rt s =>
    rw [e] at q
    exact fun v F' H' g' r' => q v F' H' g' r'
  | rm d δ =>
    rw [e] at q
    exact fun v σ' F' H' st' _ r' => q v F' H' st'.gr r'
  | er c δ =>
    rw [e] at q
    exact fun σ' F' H' st' s' => q F' H' st'.gr
  | bk δ => rw [e] at q; exact q.elim
  | ct δ => rw [e] at q; exact q.elim
  | bad => rw [e] at q; exact q.elim
end
/-- a call without arguments, of a def that raises nothing -/
theorem passLN {X : Cx} : Passes (L2N.CX X.prog X.w) X E0 := fun _ _ _ _ _ _ _ h => by
  obtain ⟨_, _, _, _, _, _, _, _, _, _, _, _, z⟩ := h
  exact z.elim
def eCall0 (m : List Sl → Rs Sl) : En → Rs Sl := fun _ => match m [] with
  | .ok s => .ok s
  | _ => .bad
theorem pd_call0 {X : Cx} {xi : Xi} {W : WX} {k : Nat} {f : Addr} {fd : FuncData} {ps : List Str} {m : List Sl → Rs Sl} {x : Str} {p pos : Pos} (F : FnOk X.prog X.w X.K X.mg X.base (L2N.CX X.prog X.w) k f fd ps (spD X.K 0 m)) (hr : Room k X.A) (hg : Gl X x) (hm : X.mg x = some (.ref f)) (hk : PySem.W.keepIn X.K (.ref f) = true) (hb : Binds X.K fd ps [])
    (hdb : (x == ("__debug__" : Str)) = false := by decide) : PD X xi W (.Call (.Name x p) [] [] pos) (eCall0 m) := by
  refine PE.imp (pe_call0 F hr hg hm hk hb .nil passLN hdb) ?_
  rintro σ H Q ⟨F0, H0, F, δ, st, p⟩
  refine ⟨rfl, F, [], st.sm, .nil, rfl, ?_⟩
  unfold eCall0 at p
  cases e : m [] with
  | ok s => rw [e] at p; exact p
  | er c => rw [e] at p; exact p.elim
  | bad => rw [e] at p; exact p

/-! ### try .. except X as e -/
/-- what the head tells of the exception classes cs -/
structure ExF (K : PySem.W.Frag) (cs : List Str) : Prop where
  exm : ∀ c ∈ cs, ∀ d ∈ cs, PySem.W.exmOne K (cvOf K c) (cvOf K d) = some (isSub c d)
  exc : ∀ c ∈ cs, ExcC K (He.ga K c)
section
variable {X : Cx} {W : WX} {cs : List Str} {d n : Str} {i : Nat} {body suite : List Stmt} {b₀ : Stmt} {np pos pos' : Pos} {g h : En → Out}
theorem Stt.catch_ {K : PySem.W.Frag} {xi : Xi} {F0 H0 F H : Hp} {σ : L2.St} {δ : En} {a : Addr} {c : Str} (st : Stt K xi F0 H0 F H σ δ) (hi : i < σ.length) (hx : XiOk xi i) : Stt K ((i, a, cvOf K c) :: xi) F0 H0 F H (σ.set i (some (.ref a))) (δ.set i (some (.xc c))) := by
  have st1 := st.set (i := i) (v := .ref a) (s := .xc c) (Grow.refl st.sm) trivial rfl hx
  refine ⟨st1.sm, st1.hh, st1.ag, st1.ln, st1.sl, st1.dg, fun j b v e => ?_, st1.pb⟩
  rcases List.mem_cons.mp e with e | e
  case inr => exact st1.xi j b v e
  cases e
  refine ⟨List.getElem?_set_self hi, fun x e => ?_⟩
  rw [List.getElem?_set_self (by rw [st.ln]; exact hi)] at e
  cases e; rfl
theorem Stt.off {K : PySem.W.Frag} {xi : Xi} {F0 H0 F H : Hp} {σ : L2.St} {δ : En} (i : Nat) {xi' : Xi} (st : Stt K xi F0 H0 F H σ δ) (hs : ∀ t ∈ xi', t ∈ xi) (hx : XiOk xi' i) : Stt K xi' F0 H0 F H (σ.set i none) (δ.set i none) := by
  have out : ∀ {j : Nat} {s : Sl}, (δ.set i none)[j]? = some (some s) → i ≠ j ∧ δ[j]? = some (some s) := by
    intro j s e
    by_cases hj : i = j
    · subst hj
      by_cases hi : i < δ.length
      · rw [List.getElem?_set_self hi] at e; cases e
      · rw [List.getElem?_eq_none (by simpa using hi)] at e; cases e
    · rw [List.getElem?_set_ne hj] at e; exact ⟨hj, e⟩
  exact st.less (by simp [st.ln]) (fun j s e => by
    obtain ⟨hj, e'⟩ := out e
    exact ⟨e', List.getElem?_set_ne hj⟩) (fun j b v e => by
    obtain ⟨x1, x2⟩ := st.xi j b v (hs _ e)
    exact ⟨by rw [List.getElem?_set_ne (hx _ _ _ e)]; exact x1, fun x q => x2 x (out q).2⟩)
/-- the suite's reading: the exception is one of cs, without a dict of its own -/
def tSuite (K : PySem.W.Frag) (xi : Xi) (cs : List Str) (i : Nat) (h : En → Out) : Addr → Value → Option Addr → TS := fun a cls od E σ H => od = none ∧ ∃ c ∈ cs, cls = cvOf K c ∧ tS K ((i, a, cls) :: xi) WF h E σ H
theorem pds_try_as {xi : Xi} (hx : XiOk xi i) (EX : ExF X.K cs) (hd : d ∈ cs) (hs : X.stack = X.env :: X.outer) (hf : X.env.frame = some X.env.locals) (hN : X.N.Nodup) (hi : X.N[i]? = some n) (hln : X.env.kindOf n = some .local) (hc : Names X d (cvOf X.K d)) (tk : L2N.Takes X W)
    (hb : ∀ (W' : WX) (pn : List (Addr × Obj)) (xe : Value → Shared → Prop), L2N.Takes (X.tr pn xe) W' → PassesOwn (model X.prog X.w) X.A X.env xe → PDB (X.tr pn xe) xi W' body g)
    (hsu : ∀ (a : Addr) (oe : Obj) (c : Str) (pn : List (Addr × Obj)), c ∈ cs → L2N.Zn (cvOf X.K c) none oe → (∃ vs, oe.data = .fields vs) → PDB (X.suite a ((a, oe) :: pn)) ((i, a, cvOf X.K c) :: xi) WF (b₀ :: suite) h) :
    PDS X xi W (.Try body [.ExceptHandler (some (.Name d np)) (some n) (b₀ :: suite) pos'] [] [] pos) (sTry g (hAs cs i d h hNil)) := by
  refine PS.imp (L2N.ps_try_as (ts := tSuite X.K xi cs i h) hs hf hN hi hln hc tk (tb := fun W' => tS X.K xi W' g) hb ?_) ?_
  · intro a oe cls od pn hz hv
    refine ⟨fun pins s σ H E I q => ?_⟩
    obtain ⟨rfl, c, hcs, rfl, q⟩ := q
    exact (hsu a oe c pn hcs hz hv).run pins s σ H E I q
  · rintro E σ H ⟨F0, H0, F, δ, st, p⟩
    refine ⟨F0, H0, F, δ, st, ?_⟩
    unfold sTry at p
    cases e : g δ with
    | er c δ' =>
      rw [e] at p
      simp only [hAs] at p
      intro σ' F' H' st' s'
      by_cases hcs : c ∈ cs ∧ i < δ'.length
      · rw [if_pos hcs] at p
        refine ⟨isSub c d, EX.exm c hcs.1 d hd, fun hb a ha => ?_, fun hb => ?_⟩
        · rw [if_pos hb] at p
          refine ⟨rfl, c, hcs.1, rfl, F0, H0, F', _, st'.catch_ (a := a) (c := c) (by rw [← st'.ln]; exact hcs.2) hx, ?_⟩
          simp only at p
          cases e2 : h (δ'.set i (some (.xc c))) with
          | nx δ2 => rw [e2] at p; exact fun σ2 F2 H2 st2 s2 => p _ F2 H2 (st2.off i (fun _ h => List.mem_cons_of_mem _ h) hx) (s'.trans s2)
          | bk δ2 => rw [e2] at p; exact fun σ2 F2 H2 st2 s2 => p _ F2 H2 (st2.off i (fun _ h => List.mem_cons_of_mem _ h) hx) (s'.trans s2)
          | ct δ2 => rw [e2] at p; exact fun σ2 F2 H2 st2 s2 => p _ F2 H2 (st2.off i (fun _ h => List.mem_cons_of_mem _ h) hx) (s'.trans s2)
          | rt s => rw [e2] at p; exact p
          | rm d δ2 => rw [e2] at p; exact fun v σ2 F2 H2 st2 s2 => p v _ F2 H2 (st2.off i (fun _ h => List.mem_cons_of_mem _ h) hx) (s'.trans s2)
          | er c2 δ2 => rw [e2] at p; exact p.elim
          | bad => rw [e2] at p; exact p.elim
        · rw [if_neg (by rw [hb]; decide)] at p
          exact p σ' F' H' st' s'
      · rw [if_neg hcs] at p; exact p.elim
    | nx δ' => rw [e] at p; exact p
    | bk δ' => rw [e] at p; exact p
    | ct δ' => rw [e] at p; exact p
    | rt s => rw [e] at p; exact p
    | rm d δ' => rw [e] at p; exact p
    | bad => rw [e] at p; exact p
end
end DL

namespace DL
open PySem PySem.Spec PyProof.Rows L2

/-! ### a def as the others call it -/
structure Cal (P : Program) (w : World) (K : PySem.W.Frag) (mg : Str → Option Value) (base : Heap) (x : Str) (ps : List Str) (k n : Nat) (m : List Sl → Rs Sl) : Prop where
  ex : ∃ fd, FnOk P w K mg base (L2N.CX P w) k (He.ga K x) fd ps (spD K n m) ∧ Binds K fd ps []
  gl : mg x = some (.ref (He.ga K x))
  kp : PySem.W.keepIn K (.ref (He.ga K x)) = true
section
variable {P : Program} {w : World} {K : PySem.W.Frag} {mg : Str → Option Value} {base : Heap} {fd : FuncData} {x : Str} {st : Stmt} {N ps : List Str} {k n : Nat} {g : En → Out} {m : List Sl → Rs Sl}
theorem cal_mk (F : FnD K x st (He.ga K x) fd) (S : FnScope N ps (defScope st)) (gl : mg x = some (.ref (He.ga K x))) (hb : Binds K fd ps []) (hn : ps.length = n)
    (body : ∀ (cdv : Value) (A : Around) (outer : List Env) (sh : Shared) (H : Hp) (E : XK), Room k (cxD P w K mg base N st x (He.ga K x) cdv A outer sh H E).A → L2N.Takes (cxD P w K mg base N st x (He.ga K x) cdv A outer sh H E) (wDef E) →
      PassesOwn (model P w) (cxD P w K mg base N st x (He.ga K x) cdv A outer sh H E).A (cxD P w K mg base N st x (He.ga K x) cdv A outer sh H E).env (cxD P w K mg base N st x (He.ga K x) cdv A outer sh H E).xe →
      PDB (cxD P w K mg base N st x (He.ga K x) cdv A outer sh H E) [] (wDef E) (defBody st) g) : Cal P w K mg base x ps (k + 1) n (fnM N.length g) := by
  subst hn
  exact ⟨⟨fd, def_ok F S body, hb⟩, gl, F.kp⟩
variable {X : Cx} {xi : Xi} {W : WX} {e : Expr} {es : List Expr} {fs : En → Rs (List Sl)} {p pos : Pos} {j : Nat}
theorem pd_callC (C : Cal X.prog X.w X.K X.mg X.base x ps j n m) (hr : Room k X.A) (hj : j ≤ k) (tk : L2N.Takes X W) (ha : PDA X xi W (e :: es) fs) (hl : eLen n fs) (hg : Gl X x := by rfl) (hdb : (x == ("__debug__" : Str)) = false := by decide)
    (he : starEach (e :: es) X.env = (false, eval e X.env) :: starEach es X.env := by rfl) (hpl : (backTo pos (starEach es X.env)).any (·.1) = false := by rfl) : PD X xi W (.Call (.Name x p) (e :: es) [] pos) (eCall m fs) := by
  obtain ⟨fd, F, b⟩ := C.ex
  exact pd_call F (hr.mono hj) hg C.gl C.kp b tk ha hl hdb he hpl
theorem pd_callC0 (C : Cal X.prog X.w X.K X.mg X.base x ps j 0 m) (hr : Room k X.A) (hj : j ≤ k) (hg : Gl X x := by rfl) (hdb : (x == ("__debug__" : Str)) = false := by decide) : PD X xi W (.Call (.Name x p) [] [] pos) (eCall0 m) := by
  obtain ⟨fd, F, b⟩ := C.ex
  exact pd_call0 F (hr.mono hj) hg C.gl C.kp b hdb
theorem Room.u65 {A : Around} (r : Room k A) : A.units + 65 < cLine := by have := r.un; omega
/-! ### raise X('..') -/
structure ExK (K : PySem.W.Frag) (mg : Str → Option Value) (x : Str) : Prop where
  gl : mg x = some (.ref (He.ga K x))
  ex : PySem.W.excIn K (He.ga K x) He.veBase "ValueError.__new__" = true ∧ PySem.W.keepIn K (.ref (He.ga K x)) = true ∧ PySem.W.subIn K (.ref (He.ga K x)) (.type "BaseException") = some true ∧ PySem.W.typeIn K (.ref (He.ga K x)) = some (.type "type")
theorem pds_raiseC {m : Str} {i : Nat} {p2 pos2 : Pos} (C : ExK X.K X.mg x) (hc : X.calm = true) (tk : L2N.Takes X W) (hg : Gl X x := by rfl) (hdb : (x == ("__debug__" : Str)) = false := by decide) : PDS X xi W (.Raise (some (.Call (.Name x p) [.Constant (.str m) i p2] [] pos)) none pos2) (sRaise x) :=
  pds_raise hc tk (L2N.pmk_own PySem.F.excBase_ValueError C.ex.1 C.gl C.ex.2.1 (raises_own C.ex.2.2.1 C.ex.2.2.2) hg hdb)
theorem names_of {K : PySem.W.Frag} (C : ExK K X.mg x) (hK : K = X.K := by rfl) (hg : Gl X x := by rfl) (hdb : (x == ("__debug__" : Str)) = false := by decide) : Names X x (cvOf X.K x) := by
  subst hK
  exact ⟨hg, hdb, .inl C.gl⟩
/-! ### isinstance of the caught one -/
def eIsE (cs : List Str) (i : Nat) (C : Str) : En → Rs Sl := fun δ => match δ[i]? with
  | some (some (.xc x)) => if x ∈ cs ∧ C ∈ cs then .ok (.im (.bool (isSub x C))) else .bad
  | _ => .bad
theorem kit_of_exm {K : PySem.W.Frag} {t c : Value} {b : Bool} (h : PySem.W.exmOne K t c = some b) (he : t = c → b = true) : PySem.W.kitOne K t c = some b := by
  unfold PySem.W.exmOne at h
  split at h
  · unfold PySem.W.kitOne
    split
    · rename_i e
      rw [he (beq_iff_eq.mp e)]
    · exact h
  · cases h
theorem isSub_self (x : Str) : isSub x x = true := by
  unfold isSub
  rw [beq_self_eq_true]
  rfl
theorem pd_isE {i : Nat} {a : Addr} {oe : Obj} {c C n : Str} {pn : List (Addr × Obj)} {cs : List Str} {p1 p2 p3 : Pos} (EX : ExF X.K cs) (hcs : c ∈ cs) (hz : L2N.Zn (cvOf X.K c) none oe) (hf : ∃ vs, oe.data = .fields vs) (EC : ExK X.K X.mg C)
    (hG : Gl (X.suite a ((a, oe) :: pn)) "isinstance") (hm : X.mg "isinstance" = none) (hN : X.N[i]? = some n := by rfl) (hv : Vis X.env.scope n := by first | exact Or.inl rfl | exact Or.inr (Or.inl rfl))
    (hg : Gl (X.suite a ((a, oe) :: pn)) C := by rfl) (hdb : (C == ("__debug__" : Str)) = false := by decide) (hd : (n == ("__debug__" : Str)) = false := by decide) (hcd : (n == ("__classdict__" : Str)) = false := by decide)
    (h1 : starEach [.Name n p2, .Name C p3] X.env = (false, eval (.Name n p2) X.env) :: starEach [.Name C p3] X.env := by rfl) (h2 : starEach [.Name C p3] X.env = (false, eval (.Name C p3) X.env) :: starEach [] X.env := by rfl)
    (hpl : (backTo pos (starEach [.Name C p3] X.env)).any (·.1) = false := by rfl) :
    PD (X.suite a ((a, oe) :: pn)) ((i, a, cvOf X.K c) :: xi) W (.Call (.Name "isinstance" p1) [.Name n p2, .Name C p3] [] pos) (eIsE cs i C) := by
  have hv' : Vis (X.suite a ((a, oe) :: pn)).env.scope n := hv
  refine PE.imp (pe_callB (call_isE (EX.exc c hcs) hz.zc hf) hG hm (by decide +kernel) (pa_cons (pe_var (i := i) hN hv' hd hcd) (pa_cons (pe_glob (v := .ref (He.ga X.K C)) hg EC.gl rfl hdb) pa_nil h2) h1) (by decide) (by decide) h1 hpl) ?_
  rintro σ H Q ⟨F0, H0, F, δ, st, p⟩
  obtain ⟨x1, x2⟩ := st.xi i a _ (List.mem_cons_self ..)
  unfold eIsE at p
  split at p
  · rename_i x e
    split at p
    · rename_i hx
      have ec := x2 x e
      refine ⟨_, x1, .ref (He.ga X.K C), cvOf X.K C, isSub x C, rfl, fun u r => r, ?_, p _ F H (Grow.refl st.sm) (.bl _)⟩
      have h3 := EX.exm x hx.1 C hx.2
      show PySem.W.kitOne X.K (cvOf X.K c) (cvOf X.K C) = _
      rw [ec]
      refine kit_of_exm h3 fun q => ?_
      have h4 := EX.exm x hx.1 x hx.1
      rw [q] at h4 h3
      rw [h4, isSub_self] at h3
      exact (Option.some.inj h3).symm
    · exact p.elim
  · exact p.elim
end

/-! ### the head, with what the exception classes say -/
def excB (K : PySem.W.Frag) (x : Str) : Bool :=
  He.eqO (PySem.W.findIn K (.ref (He.ga K x)) "__getattribute__") (some (some (.builtin "BaseException.__getattribute__"))) && (He.eqO (PySem.W.findIn K (.ref (He.ga K x)) "__getattr__") (some none) &&
  (decide (PySem.W.subIn K (.ref (He.ga K x)) (.type "BaseException") = some true) && (PySem.W.hasDictIn K (He.ga K x) && (He.eqO (PySem.W.findIn K (.ref (He.ga K x)) "__class__") (some (some (.builtin "object.__class__"))) &&
  (He.eqO (PySem.W.specialIn K (.builtin "object.__class__") "__get__") (some (some (.builtin "getset_descriptor.__get__"))) && (decide (PySem.W.takesIn K (.builtin "object.__class__") = some true) && decide (PySem.W.mroIn K (He.ga K x) (.type "object") = some true)))))))
theorem excB_ok {K : PySem.W.Frag} {x : Str} (h : excB K x = true) : ExcC K (He.ga K x) := by
  unfold excB at h
  simp only [Bool.and_eq_true] at h
  obtain ⟨h1, h2, h3, h4, h5, h6, h7, h8⟩ := h
  exact ⟨He.eqO_ok h1, He.eqO_ok h2, of_decide_eq_true h3, h4, He.eqO_ok h5, He.eqO_ok h6, of_decide_eq_true h7, of_decide_eq_true h8⟩
abbrev AlX : Type := He.AlD × Bool
def obsX (fa : List He.Fa) (fn : List He.DefD) (xb : PySem.W.Frag → Bool) (K : PySem.W.Frag) : AlX := (He.obsD fa fn K, xb K)
def valX (fn : List He.DefD) : AlX := (He.valD fn, true)
def SaysX (fa : List He.Fa) (fn : List He.DefD) (xb : PySem.W.Frag → Bool) (K : PySem.W.Frag) : Prop := obsX fa fn xb K = valX fn
def obsXG (n : Nat) (fa : List He.Fa) (fn : List He.DefD) (xb : PySem.W.Frag → Bool) (g : Addr → Option Obj) : AlX := obsX fa fn xb (He.frG g (He.asD g n))
def hookX (n : Nat) (fa : List He.Fa) (fn : List He.DefD) (xb : PySem.W.Frag → Bool) : PySem.W.Hook where
  α := AlX
  obs := fun s => obsXG n fa fn xb s.heap.get?
  val := fun _ => valX fn
  says := fun _ h => ∃ K : PySem.W.Frag, K.In h ∧ SaysX fa fn xb K
  of := fun _ _ e => ⟨_, He.frG_in, e⟩
  keeps := fun _ _ _ ⟨K, hK, c⟩ k => ⟨K, PySem.W.Frag.In.keeps hK k, c⟩
theorem obsXG_eq {n : Nat} {fa : List He.Fa} {fn : List He.DefD} {xb : PySem.W.Frag → Bool} {g : Addr → Option Obj} {s : Shared} (h : ∀ a, g a = s.heap.get? a) : obsXG n fa fn xb g = (hookX n fa fn xb).obs s := by
  obtain rfl : g = s.heap.get? := funext h
  rfl
theorem SaysX.d {fa : List He.Fa} {fn : List He.DefD} {xb : PySem.W.Frag → Bool} {K : PySem.W.Frag} (h : SaysX fa fn xb K) : He.SaysD fa fn K := congrArg (fun z : AlX => z.1) h
theorem SaysX.x {fa : List He.Fa} {fn : List He.DefD} {xb : PySem.W.Frag → Bool} {K : PySem.W.Frag} (h : SaysX fa fn xb K) : xb K = true := congrArg (fun z : AlX => z.2) h
theorem SaysD.mem {fa : List He.Fa} {fn : List He.DefD} {K : PySem.W.Frag} (h : He.SaysD fa fn K) {f : He.Fa} (hf : f ∈ fa) : f.ok K = true := by
  obtain ⟨i, hi⟩ := List.getElem?_of_mem hf
  exact h.fact i hi
/-- what is said of the classes cs -/
def exFa (cs : List Str) : List He.Fa := cs.flatMap fun c => .exc c :: .glo c :: cs.map fun d => .exm c d (isSub c d)
theorem exF_of {fa : List He.Fa} {fn : List He.DefD} {cs : List Str} {K : PySem.W.Frag} (h : He.SaysD fa fn K) (hf : ∀ f ∈ exFa cs, f ∈ fa) (hx : (cs.all fun c => excB K c) = true) : ExF K cs :=
  ⟨fun c hc d hd => He.exm_ok (SaysD.mem h (hf _ (List.mem_flatMap.mpr ⟨c, hc, .tail _ (.tail _ (List.mem_map.mpr ⟨d, hd, rfl⟩))⟩))), fun c hc => excB_ok (List.all_eq_true.mp hx c hc)⟩
theorem exK_of {fa : List He.Fa} {fn : List He.DefD} {cs : List Str} {K : PySem.W.Frag} {h : Heap} {mg : Str → Option Value} (X : K.In h) (G : h.Ns mainGlobals mg) (s : He.SaysD fa fn K) (hf : ∀ f ∈ exFa cs, f ∈ fa) {c : Str} (hc : c ∈ cs) : ExK K mg c :=
  ⟨He.glo_ok X G (SaysD.mem s (hf _ (List.mem_flatMap.mpr ⟨c, hc, .tail _ (.head _)⟩))), He.exc_ok (SaysD.mem s (hf _ (List.mem_flatMap.mpr ⟨c, hc, .head _⟩)))⟩
/-- the goal behind the head: the law's def is a function that gives True for every script -/
theorem law_walk {l : PySem.W.OpenLaw} {k : Nat} {q : Program} {loose : List Str} {XP : (Str → Option Value) → Heap → Prop} {YP : World → Heap → Prop} {d : DefRec} {x : Str} {m : List Sl → Rs Sl} (hn : l.most = some 63) (hdf : d.params.defaults = []) (hr : Room k callerA)
    (hm : ∀ ns : List Int, ns.length ≤ 63 → m [.ro ns] = .ok (.im (.bool true)))
    (F : ∀ (w : World) (mg : Str → Option Value) (fa : Addr) (h : Heap), YP w h → h.Ns mainGlobals mg → mg d.name = some (.ref fa) →
      ∃ (K : PySem.W.Frag) (fd : FuncData), K.In h ∧ (∀ (s : Shared) (u : Value), BindsTo s fd ⟨[u], []⟩ [(x, u)]) ∧
        ∀ base : Heap, K.In base → base.Ns mainGlobals mg → FnOk l.prog w K mg base (L2N.CX l.prog w) k fa fd [x] (spD K 1 m)) :
    PySem.W.WalkO q loose XP YP l.row.toRowW d [] (fun f vs => PySem.call f vs) := by
  refine Att.attach_call hn hdf fun wd s0 s1 mg mb fa ob pm cd doc a vs ns G Y ho hd hcd hmg hobj hints hlen hgen => ?_
  obtain ⟨K, fd, KX, hb, hF⟩ := F wd mg fa _ Y G.T.g hmg
  refine law_call KX G.T.g G.T.b G.T.builtins G.T.nolimit hgen hobj hints (Nat.le_trans hlen (by decide)) hr hF hb (fun H hO hS => ?_) fun H e s' hX => ?_
  · refine ⟨rfl, H, [.ro ns], Same.refl H, .cons ⟨a, rfl, hS⟩ .nil, rfl, ?_⟩
    rw [hm ns hlen]
    intro v F' H' _ r
    have r : Rp K F' v (.bool true) := r
    cases r
    rfl
  · obtain ⟨_, _, _, _, _, _, _, _, _, _, _, _, z⟩ := hX
    exact z
end DL

namespace DL
open PySem PySem.Spec PyProof.Rows L2
def sThenFz (i : Nat) (a : En → Out) : En → Out := fun δ => match a δ with
  | .nx δ' => .nx (fzS i δ')
  | o => o
section
variable {X : Cx} {xi : Xi} {W : WX} {st : Stmt} {a : En → Out}
theorem pds_thenFz (i : Nat) (h : PDS X xi W st a) : PDS X xi W st (sThenFz i a) := PS.imp h (by
  rintro E σ H ⟨F0, H0, F, δ, st, p⟩
  refine ⟨F0, H0, F, δ, st, ?_⟩
  unfold sThenFz at p
  cases e : a δ with
  | nx δ' =>
    simp only [e] at p
    intro σ' F' H' st' s'
    obtain ⟨F2, s2, st2⟩ := st'.fz i
    exact p σ' F2 H' st2 (s'.trans s2)
  | _ => simp only [e] at p; exact p)
end
section
variable {X : Cx} {W : WX} {cs : List Str} {d : Str} {body suite : List Stmt} {b₀ : Stmt} {np pos pos' : Pos} {g h : En → Out}
theorem ps_try_onlyN {X : Cx} {x : Str} {c : Value} {body suite : List Stmt} {b₀ : Stmt} {np pos pos' : Pos} {tb : WX → TS} {ts : Addr → Value → Option Addr → TS} {Wout : WX} (hs : X.stack = X.env :: X.outer) (hf : X.env.frame = some X.env.locals) (hc : Names X x c) (tk : L2N.Takes X Wout)
    (hb : ∀ (W : WX) (pn : List (Addr × Obj)) (xe : Value → Shared → Prop), L2N.Takes (X.tr pn xe) W → PassesOwn (model X.prog X.w) X.A X.env xe → PSs (X.tr pn xe) body (tb W))
    (hsu : ∀ (a : Addr) (oe : Obj) (cls : Value) (d : Option Addr) (pn : List (Addr × Obj)), L2N.Zn cls d oe → (∃ vs, oe.data = .fields vs) → PSs (X.suite a ((a, oe) :: pn)) (b₀ :: suite) (ts a cls d)) :
    PS X (.Try body [.ExceptHandler (some (.Name x np)) none (b₀ :: suite) pos'] [] [] pos) (fun D σ H => tb (wOnly X.K c ts Wout D) D σ H) :=
  L2N.ps_try_many (l := [(c, ts)]) hs hf tk hb (.cons hc hsu .nil)
def tSuiteO (K : PySem.W.Frag) (xi : Xi) (cs : List Str) (h : En → Out) : Addr → Value → Option Addr → TS := fun a cls od E σ H => od = none ∧ ∃ c ∈ cs, cls = cvOf K c ∧ tS K xi WF h E σ H
theorem pds_try_only {xi : Xi} (EX : ExF X.K cs) (hd : d ∈ cs) (hs : X.stack = X.env :: X.outer) (hf : X.env.frame = some X.env.locals) (hc : Names X d (cvOf X.K d)) (tk : L2N.Takes X W)
    (hb : ∀ (W' : WX) (pn : List (Addr × Obj)) (xe : Value → Shared → Prop), L2N.Takes (X.tr pn xe) W' → PassesOwn (model X.prog X.w) X.A X.env xe → PDB (X.tr pn xe) xi W' body g)
    (hsu : ∀ (a : Addr) (oe : Obj) (c : Str) (pn : List (Addr × Obj)), c ∈ cs → L2N.Zn (cvOf X.K c) none oe → (∃ vs, oe.data = .fields vs) → PDB (X.suite a ((a, oe) :: pn)) xi WF (b₀ :: suite) h) :
    PDS X xi W (.Try body [.ExceptHandler (some (.Name d np)) none (b₀ :: suite) pos'] [] [] pos) (sTry g (hOnly cs d h hNil)) := by
  refine PS.imp (ps_try_onlyN (ts := tSuiteO X.K xi cs h) hs hf hc tk (tb := fun W' => tS X.K xi W' g) hb ?_) ?_
  · intro a oe cls od pn hz hv
    refine ⟨fun pins s σ H E I q => ?_⟩
    obtain ⟨rfl, c, hcs, rfl, q⟩ := q
    exact (hsu a oe c pn hcs hz hv).run pins s σ H E I q
  · rintro E σ H ⟨F0, H0, F, δ, st, p⟩
    refine ⟨F0, H0, F, δ, st, ?_⟩
    unfold sTry at p
    cases e : g δ with
    | er c δ' =>
      rw [e] at p
      simp only [hOnly] at p
      intro σ' F' H' st' s'
      by_cases hcs : c ∈ cs
      · rw [if_pos hcs] at p
        refine ⟨isSub c d, EX.exm c hcs d hd, fun hb a ha => ?_, fun hb => ?_⟩
        · rw [if_pos hb] at p
          refine ⟨rfl, c, hcs, rfl, F0, H0, F', _, st', ?_⟩
          simp only at p
          cases e2 : h δ' with
          | nx δ2 => rw [e2] at p; exact fun σ2 F2 H2 st2 s2 => p _ F2 H2 st2 (s'.trans s2)
          | bk δ2 => rw [e2] at p; exact fun σ2 F2 H2 st2 s2 => p _ F2 H2 st2 (s'.trans s2)
          | ct δ2 => rw [e2] at p; exact fun σ2 F2 H2 st2 s2 => p _ F2 H2 st2 (s'.trans s2)
          | rt s => rw [e2] at p; exact p
          | rm d δ2 => rw [e2] at p; exact fun v σ2 F2 H2 st2 s2 => p v _ F2 H2 st2 (s'.trans s2)
          | er c2 δ2 => rw [e2] at p; exact p.elim
          | bad => rw [e2] at p; exact p.elim
        · rw [if_neg (by rw [hb]; decide)] at p
          exact p σ' F' H' st' s'
      · rw [if_neg hcs] at p; exact p.elim
    | nx δ' => rw [e] at p; exact p
    | bk δ' => rw [e] at p; exact p
    | ct δ' => rw [e] at p; exact p
    | rt s => rw [e] at p; exact p
    | rm d δ' => rw [e] at p; exact p
    | bad => rw [e] at p; exact p
end
end DL

namespace DL
open PySem PySem.Spec PyProof.Rows L2
theorem pi_or {X : Cx} {tg e : Expr} {t1 t2 : TI} (h1 : PI X tg e t1) (h2 : PI X tg e t2) : PI X tg e (fun σ H R => t1 σ H R ∨ t2 σ H R) :=
  ⟨fun pins s σ H R I q => q.elim (h1.run pins s σ H R I) (h2.run pins s σ H R I)⟩
/-- a text's signs, each a text of one sign -/
def signsD (x : Str) : List D := x.cps.toList.map fun c => .str ⟨#[c]⟩
def strOf : Sl → Option Str
  | .im (.str x) => some x
  | _ => none
/-- the parts of a tuple or a text -/
def tsOf (s : Sl) : Option (List D) := match tupOf s with
  | some ds => some ds
  | none => (strOf s).map signsD
def iStrD (f : En → Rs Sl) : En → Rs (List D) := fun δ => (f δ).bind fun s => ofD ((strOf s).map signsD) .ok
/-- a list that stays, a tuple, a text -/
def iSeq (f : En → Rs Sl) : En → Rs (List D) := fun δ => (f δ).bind fun s => match tsOf s with
  | some ds => .ok ds
  | none => ofD (itL s) .ok
/-- any list, a tuple, a text -/
def iSeqH (f : En → Rs Sl) : En → Rs (List D) := fun δ => (f δ).bind fun s => match tsOf s with
  | some ds => .ok ds
  | none => ofD (lstOf s) .ok
theorem its_ok {K : PySem.W.Frag} {P : Hp → Hp → Prop} {x : Str} : ItOk K P (Its x) (signsD x) where
  go := fun i F' H' q s hi => by
    unfold signsD at hi
    show i < x.cps.size
    simpa using hi
  stop := fun F' H' q s => by
    show x.cps.size ≤ _
    unfold signsD
    simp
  yld := fun i d F' H' v H'' q s hd ⟨eH, c, hc, ev⟩ => by
    subst eH ev
    unfold signsD at hd
    rw [List.getElem?_map] at hd
    have : x.cps.toList[i]? = some c := by simpa using hc
    rw [this] at hd
    cases hd
    exact ⟨F', Grow.refl s, .str _⟩
section
variable {X : Cx} {xi : Xi} {W : WX} {tg e : Expr} {f : En → Rs Sl}
theorem pdi_str (he : PD X xi W e f) : PDI X xi W zF tg e (iStrD f) := by
  refine PI.imp (pi_str he) ?_
  rintro σ H R ⟨F0, H0, F, δ, st, p⟩
  refine tD_use st (fun x v F1 H1 e1 g1 r1 => ?_) (fun x F1 H1 e1 g1 => by simp only [iStrD, e1, Rs.bind] at p; exact p F1 H1 g1) (fun e1 => by simp only [iStrD, e1, Rs.bind] at p; exact p)
  simp only [iStrD, e1, Rs.bind] at p
  unfold strOf at p
  split at p
  · rename_i z
    have r : Rp _ _ v (.str z) := r1
    cases r
    exact ⟨z, rfl, p _ F1 H1 g1 its_ok⟩
  · exact p.elim
theorem pdi_seq (he : PD X xi W e f) : PDI X xi W zF tg e (iSeq f) := PI.imp (pi_or (pi_or (pdi_lst he) (pdi_tup he)) (pdi_str he)) (by
  rintro σ H R ⟨F0, H0, F, δ, st, p⟩
  unfold iSeq tsOf at p
  cases e1 : f δ with
  | ok s =>
    rw [e1] at p
    simp only [Rs.bind] at p
    cases e2 : tupOf s with
    | some ds =>
      rw [e2] at p
      exact .inl (.inr ⟨F0, H0, F, δ, st, by unfold DL.iTup; rw [e1]; simp only [Rs.bind, e2, ofD]; exact p⟩)
    | none =>
      rw [e2] at p
      cases e3 : strOf s with
      | some x =>
        rw [e3] at p
        exact .inr ⟨F0, H0, F, δ, st, by unfold iStrD; rw [e1]; simp only [Rs.bind, e3, Option.map, ofD]; exact p⟩
      | none =>
        rw [e3] at p
        exact .inl (.inl ⟨F0, H0, F, δ, st, by unfold iLst; rw [e1]; simp only [Rs.bind]; exact p⟩)
  | er c =>
    rw [e1] at p
    exact .inl (.inl ⟨F0, H0, F, δ, st, by unfold iLst; rw [e1]; exact p⟩)
  | bad => rw [e1] at p; exact p.elim)
theorem pdi_seqH (he : PD X xi W e f) : PDI X xi W zH tg e (iSeqH f) := PI.imp (pi_or (pi_or (pdi_any he) (pdi_H (pdi_tup he))) (pdi_H (pdi_str he))) (by
  rintro σ H R ⟨F0, H0, F, δ, st, p⟩
  unfold iSeqH tsOf at p
  cases e1 : f δ with
  | ok s =>
    rw [e1] at p
    simp only [Rs.bind] at p
    cases e2 : tupOf s with
    | some ds =>
      rw [e2] at p
      exact .inl (.inr ⟨F0, H0, F, δ, st, by unfold DL.iTup; rw [e1]; simp only [Rs.bind, e2, ofD]; exact p⟩)
    | none =>
      rw [e2] at p
      cases e3 : strOf s with
      | some x =>
        rw [e3] at p
        exact .inr ⟨F0, H0, F, δ, st, by unfold iStrD; rw [e1]; simp only [Rs.bind, e3, Option.map, ofD]; exact p⟩
      | none =>
        rw [e3] at p
        exact .inl (.inl ⟨F0, H0, F, δ, st, by unfold iAny; rw [e1]; simp only [Rs.bind]; exact p⟩)
  | er c =>
    rw [e1] at p
    exact .inl (.inl ⟨F0, H0, F, δ, st, by unfold iAny; rw [e1]; exact p⟩)
  | bad => rw [e1] at p; exact p.elim)
end
end DL

/-! enumerate of a tuple: as for a list, over any inner iterator that draws one item and touches itself alone -/
namespace EnT
open PySem PySem.Spec PyProof.Rows L2
open AutoSeq1 (wpAny_loadPart')
section
variable {prog : Program} {w : World} {A : Around} {E : Value → Shared → Prop} {s : Shared}
/-- the inner iterator gives x; J is what then holds of it -/
def Draw1 (prog : Program) (w : World) (A : Around) (E : Value → Shared → Prop) (s : Shared) (it : Addr) (x : Value) (J : Heap → Prop) : Prop :=
  ∀ Q : Value → Shared → Prop, (∀ k, J k → Heap.SameBut it s.heap k → Q x { s with heap := k }) → wpAny (model prog w) A (Builtin.SmallTypes.nextOf (.ref it)) Q E s
/-- what holds of the inner iterator hangs on its own object alone -/
def Own1 (it : Addr) (J : Heap → Prop) : Prop := ∀ h k : Heap, J h → (∀ o, h.get? it = some o → k.get? it = some o) → J k
theorem step {e it : Addr} {i : Nat} {x old : Value} {J : Heap → Prop} {Q : Value → Shared → Prop} (own : Own1 it J)
    (e0 : IsEnum s.heap e it i old) (itl : it < s.heap.objs.size) (ne : e ≠ it) (dr : Draw1 prog w A E s it x J)
    (goal : ∀ k, IsEnumOut k e it ((i : Int) + 1) x s.heap.objs.size → J k → k.get? s.heap.objs.size = some { cls := .type "tuple", data := .seq #[.int i s.toks, x] } →
      k.objs.size = s.heap.objs.size + 1 → (∀ b o, b ≠ e → b ≠ it → s.heap.get? b = some o → k.get? b = some o) → Q (.ref s.heap.objs.size) { s with heap := k, toks := s.toks + 1 }) :
    wpAny (model prog w) A (Builtin.«enumerate.__next__» ⟨[.ref e], []⟩) (fun fin s' => ∃ v, fin = .done (.ret v) ∧ Q v s') E s := by
  obtain ⟨hp, gl, du, tk, os⟩ := s
  have et : it ≠ e := fun z => ne z.symm
  show wpAny _ _ (field (.ref e) 2 >>= _) _ _ _
  refine wpAny_bind (wpAny_field e0 rfl (x := .ref it) rfl (wpAny_bind (dr _ fun k1 j1 sb1 => ?_)))
  have sb1 : Heap.SameBut it hp k1 := sb1
  have e1 : IsEnum k1 e it i old := (sb1.2 e ne).trans e0
  show wpAny _ _ (field (.ref e) 3 >>= _) _ _ ⟨k1, gl, du, tk, os⟩
  refine wpAny_bind (wpAny_field e1 rfl (x := rawInt i) rfl ?_)
  show wpAny _ _ (field (.ref e) 4 >>= _) _ _ ⟨k1, gl, du, tk, os⟩
  refine wpAny_bind (wpAny_field e1 rfl (x := .none) rfl ?_)
  show wpAny _ _ (mkInt i >>= _) _ _ ⟨k1, gl, du, tk, os⟩
  refine wpAny_bind (wpAny_mkInt ?_)
  show wpAny _ _ (setField (.ref e) 3 (rawInt ((i : Int) + 1)) >>= _) _ _ ⟨k1, gl, du, tk + 1, os⟩
  refine wpAny_bind (wpAny_setField_rec e1 (by simp) fun k2 e2 sb2 => ?_)
  have sb2 : Heap.SameBut e k1 k2 := sb2
  have e2 : IsEnum k2 e it ((i : Int) + 1) old := e2
  show wpAny _ _ (setField (.ref e) 4 .none >>= _) _ _ ⟨k2, gl, du, tk + 1, os⟩
  refine wpAny_bind (wpAny_setField_rec e2 (by simp) fun k3 e3 sb3 => ?_)
  have sb3 : Heap.SameBut e k2 k3 := sb3
  have e3 : IsEnum k3 e it ((i : Int) + 1) old := e3
  show wpAny _ _ (newTuple [.int i tk, x] >>= _) _ _ ⟨k3, gl, du, tk + 1, os⟩
  refine wpAny_bind (wpAny_newTuple ?_)
  have z3 : k3.objs.size = hp.objs.size := by rw [sb3.1, sb2.1, sb1.1]
  have el : e < hp.objs.size := Heap.lt_size e0
  have itl : it < hp.objs.size := itl
  -- the heap with the new pair
  obtain ⟨k4, hk4⟩ : ∃ k4, k4 = k3.push { cls := .type "tuple", data := .seq #[.int i tk, x] } := ⟨_, rfl⟩
  have e4 : IsEnum k4 e it ((i : Int) + 1) old := by rw [hk4]; exact Heap.get?_push_of_some _ e3
  have t4 : k4.get? hp.objs.size = some { cls := .type "tuple", data := .seq #[.int i tk, x] } := by rw [hk4, ← z3]; exact Heap.get?_push_size _ rfl
  have z4 : k4.objs.size = hp.objs.size + 1 := by rw [hk4, Heap.size_push, z3]
  have o4 : ∀ b o, b ≠ e → b ≠ it → hp.get? b = some o → k4.get? b = some o := fun b o n1 n2 q => by
    rw [hk4]; exact Heap.get?_push_of_some _ (sb3.extBut b o n1 (sb2.extBut b o n1 (sb1.extBut b o n2 q)))
  have j4 : J k4 := own _ _ j1 fun o q => by
    rw [hk4]; exact Heap.get?_push_of_some _ (sb3.extBut _ _ et (sb2.extBut _ _ et q))
  rw [← hk4]
  show wpAny _ _ (Builtin.SmallTypes.ownedTupleIsFree (.ref e) >>= _) _ _ ⟨k4, gl, du, tk + 1, os⟩
  rw [z3]
  refine wpAny_bind ?_
  unfold Builtin.SmallTypes.ownedTupleIsFree
  refine wpAny_bind (wpAny_field e4 rfl (x := .none) rfl (wpAny_pure ?_))
  simp only [if_true]
  refine wpAny_bind (wpAny_rule (wpAny_bind (wpAny_field e4 rfl (x := old) rfl (wpAny_bind (wpAny_setField_rec e4 (by simp) fun k5 e5 sb5 => ?_)))))
  have sb5 : Heap.SameBut e k4 k5 := sb5
  have e5 : IsEnum k5 e it ((i : Int) + 1) x := e5
  show wpAny _ _ (Builtin.SmallTypes.ownedTupleHandOut (.ref e) (.ref hp.objs.size) >>= _) _ _ ⟨k5, gl, du, tk + 1, os⟩
  refine wpAny_bind ?_
  unfold Builtin.SmallTypes.ownedTupleHandOut
  refine wpAny_bind (wpAny_setField_rec e5 (by simp) fun k6 e6 sb6 => ?_)
  have sb6 : Heap.SameBut e k5 k6 := sb6
  have e6 : IsEnumOut k6 e it ((i : Int) + 1) x hp.objs.size := e6
  refine wpAny_setField_rec e6 (by simp) fun k7 e7 sb7 => ?_
  have sb7 : Heap.SameBut e k6 k7 := sb7
  have e7 : IsEnumOut k7 e it ((i : Int) + 1) x hp.objs.size := e7
  have up : ∀ b o, b ≠ e → k4.get? b = some o → k7.get? b = some o := fun b o n q => sb7.extBut b o n (sb6.extBut b o n (sb5.extBut b o n q))
  exact wpAny_bind (wpAny_letGo (wpAny_pure ⟨_, rfl, goal k7 e7 (own _ _ j4 fun o q => up _ _ et q) (up _ _ (Nat.ne_of_gt el) t4) (by rw [sb7.1, sb6.1, sb5.1, z4]) fun b o n1 n2 q => up b o n1 (o4 b o n1 n2 q)⟩))
theorem next1 {e it : Addr} {i : Nat} {x old : Value} {J : Heap → Prop} {Q : Option Value → Shared → Prop} (own : Own1 it J)
    (e0 : IsEnum s.heap e it i old) (itl : it < s.heap.objs.size) (ne : e ≠ it) (dr : ∀ A' E', Draw1 prog w A' E' s it x J)
    (goal : ∀ k, IsEnumOut k e it ((i : Int) + 1) x s.heap.objs.size → J k → k.get? s.heap.objs.size = some { cls := .type "tuple", data := .seq #[.int i s.toks, x] } →
      k.objs.size = s.heap.objs.size + 1 → (∀ b o, b ≠ e → b ≠ it → s.heap.get? b = some o → k.get? b = some o) → Q (some (.ref s.heap.objs.size)) { s with heap := k, toks := s.toks + 1 }) :
    wpAny (model prog w) A (pyNext (.ref e)) Q E s := by
  have ty : s.TypeIs (.ref e) "enumerate" := ⟨_, e0, rfl⟩
  unfold pyNext
  refine wpAny_bind (wpAny_attempt (wpAny_callSpecial?_slot (name := Str.ofString "__next__") ty F.slot_enumerate_next ?_))
  exact wpAny_call_entry F.slot_enumerate_next ty F.entry_enumerate_next (step own e0 itl ne (dr _ _) fun k a b c d r => wpAny_pure (goal k a b c d r)) (F.args_enumerate_next_1 _)
/-- the inner iterator is at its end -/
theorem stop1 {e it t : Addr} {i : Nat} {its : Array Value} {old : Value} {Q : Option Value → Shared → Prop} (calm : A.handled = none)
    (e0 : IsEnum s.heap e it i old) (ji : s.heap.IsTupleIter it t i) (jt : s.heap.IsTuple t its) (none1 : its[i]? = none)
    (goal : ∀ k, Heap.ExtBut it s.heap k → Q none { s with heap := k }) : wpAny (model prog w) A (pyNext (.ref e)) Q E s := by
  have ty : s.TypeIs (.ref e) "enumerate" := ⟨_, e0, rfl⟩
  unfold pyNext
  refine wpAny_bind (wpAny_attempt (wpAny_callSpecial?_slot (name := Str.ofString "__next__") ty F.slot_enumerate_next (wpAny_call_entry F.slot_enumerate_next ty F.entry_enumerate_next ?_ (F.args_enumerate_next_1 _))))
  show wpAny _ _ (field (.ref e) 2 >>= _) _ _ _
  refine wpAny_bind (wpAny_field e0 rfl (x := .ref it) rfl (wpAny_bind (wpAny_nextOf_tuple_end calm ji jt none1 fun k a r ⟨o, q1, q2⟩ => ?_)))
  exact wpAny_bind (wpAny_isInstance (T := "StopIteration") (b := true) ⟨o, q1, q2⟩ isSubtype_stop (wpAny_pure (goal _ r)))
theorem meets_newT (t : Addr) (its : Array Value) (n : Nat) (dc : Option Addr) (sl : Array (Option Value)) :
    Meets (Builtin.«enumerate.__new__» ⟨[.type "enumerate", .ref t], []⟩) (fun _ R s => s.heap.get? t = some { cls := .type "tuple", dict := dc, data := .seq its n, slots := sl } ∧
      R (.ok (.ret (.ref (s.heap.push { cls := .type "tuple_iterator", data := .fields #[.ref t, .int 0 0] }).objs.size)))
        { s with heap := (s.heap.push { cls := .type "tuple_iterator", data := .fields #[.ref t, .int 0 0] }).push { cls := .type "enumerate", data := .fields #[.none, .bool false, .ref s.heap.objs.size, rawInt 0, .none, .none] } }) :=
  .of_wp fun prog w A R s q => by
    obtain ⟨hp, gl, du, tk, os⟩ := s
    obtain ⟨at1, q⟩ := q
    have hsub := sub_enumerate
    have isT : Heap.IsTuple (Shared.heap ⟨hp, gl, du, tk, os⟩) t its := ⟨_, at1, rfl, n, rfl⟩
    wp_walk using wpAny_loadPart' at1
    refine wpAny_stack_any fun st => wpAny_pure ?_
    split
    · rename_i c _ _ _ _ _
      cases (c == Value.type "enumerate") <;> (wp_walk using wpAny_loadPart' at1, wpAny_pyIter_tuple isT; exact ⟨_, rfl, q⟩)
    · wp_walk using wpAny_loadPart' at1, wpAny_pyIter_tuple isT
      exact ⟨_, rfl, q⟩
theorem make {t : Addr} {its : Array Value} {Q : Value → Shared → Prop} (isT : s.heap.IsTuple t its)
    (goal : ∀ k, IsEnum k (s.heap.objs.size + 1) s.heap.objs.size 0 .none → k.IsTupleIter s.heap.objs.size t 0 → k.objs.size = s.heap.objs.size + 2 →
      (∀ b o, s.heap.get? b = some o → k.get? b = some o) → Q (.ref (s.heap.objs.size + 1)) { s with heap := k }) :
    wpAny (model prog w) A (call (.type "enumerate") [.ref t]) Q E s := by
  obtain ⟨⟨c, dc, dt, sl⟩, at1, hc, n, hd⟩ := isT
  have hc : c = .type "tuple" := hc
  have hd : dt = .seq its n := hd
  subst hc hd
  refine callType_new F.called_enumerate (by decide) (F.typeCall_enumerate_1 _) (F.newCall_enumerate_1 _) (fun obj => F.args_object_init_2 obj _) F.entry_enumerate_new (meets_newT t its n dc sl) ⟨at1, ?_⟩
  generalize hk1 : s.heap.push { cls := .type "tuple_iterator", data := .fields #[.ref t, .int 0 0] } = k1
  have z1 : k1.objs.size = s.heap.objs.size + 1 := by rw [← hk1]; exact Heap.size_push ..
  have i1 : k1.get? s.heap.objs.size = some { cls := .type "tuple_iterator", data := .fields #[.ref t, .int 0 0] } := by rw [← hk1]; exact Heap.get?_push_size _ rfl
  have up1 : ∀ b o, s.heap.get? b = some o → k1.get? b = some o := fun b o q => by rw [← hk1]; exact Heap.get?_push_of_some _ q
  have en := Heap.get?_push_size k1 (o := { cls := .type "enumerate", data := .fields #[.none, .bool false, .ref s.heap.objs.size, rawInt 0, .none, .none] }) rfl
  rw [z1] at en ⊢
  exact ⟨⟨_, en, rfl⟩, goal _ en ⟨_, Heap.get?_push_of_some _ i1, rfl, rfl⟩ (by rw [Heap.size_push, z1]) fun b o q => Heap.get?_push_of_some _ (up1 b o q)⟩
end
/-- the tuple at a, each item in a new pair -/
def IteT (K : PySem.W.Frag) (a : Addr) : It :=
  ⟨fun i H => ∃ (xs : List V) (x : V), SqT K H a xs ∧ xs[i]? = some x, fun i H v H' => ∃ T x, v = .ref T ∧ H T = none ∧ H' = upd H T (.tup [.int (i : Nat), x]) ∧ ∀ xs, SqT K H a xs → xs[i]? = some x, fun i H => ∃ xs : List V, SqT K H a xs ∧ xs.length ≤ i⟩
theorem turnT {P : Program} {w : World} {K : PySem.W.Frag} {elts : List Expr} {kk : Nat} {tpos : Pos} (a e it : Addr) :
    Turn P w K (.Tuple elts kk tpos) (IteT K a) [e, it] e (fun i h => (∃ old, IsEnum h e it ((i : Nat) : Int) old) ∧ h.IsTupleIter it a i ∧ e ≠ it) where
  mem := by simp
  obj := fun i h ⟨⟨old, e1⟩, ⟨o, o1, _, o3⟩, _⟩ b hb => by
    have hb : b = e ∨ b = it := by simpa using hb
    rcases hb with rfl | rfl
    · exact ⟨_, e1, fun v q => nomatch q⟩
    · exact ⟨o, o1, fun v q => by rw [o3] at q; cases q⟩
  keep := fun i h h' ⟨⟨old, e1⟩, j1, ne⟩ k => ⟨⟨old, k e (by simp) _ e1⟩, j1.at fun o q => k it (by simp) o q, ne⟩
  item := by
    rintro X rfl rfl rfl hc i pins s σ H E I hf ⟨⟨old, e1⟩, j1, ne⟩ ⟨xs, x, hq, hx⟩
    obtain ⟨its, rv, p, _⟩ := I.tuple hq
    obtain ⟨u, hu, ru⟩ := rv.get hx
    have el : e < s.heap.objs.size := Heap.lt_size e1
    have il : it < s.heap.objs.size := by obtain ⟨_, q, _⟩ := id j1; exact Heap.lt_size q
    have ch : ∀ b, b ∉ [e, it] → b ≠ e ∧ b ≠ it := fun b n => ⟨fun z => n (by simp [z]), fun z => n (by simp [z])⟩
    refine next1 (J := fun h => h.IsTupleIter it a (i + 1)) (fun h k q z => q.at z) e1 il ne (x := u) (fun A' E' Q q => wpAny_nextOf_tuple_item j1 p (by simpa using hu) q) fun k1 o1 j2 t1 z1 up1 => ?_
    refine ⟨_, rfl, wpAny_letOwnedTupleGo_enum (s := { s with heap := k1, toks := s.toks + 1 }) o1 fun k2 e2 sb => ?_⟩
    have t2 : k2.get? s.heap.objs.size = some { cls := .type "tuple", data := .seq #[.int i s.toks, u] } := (sb.2 _ (Nat.ne_of_gt el)).trans t1
    have pair : ObjOk X.prog X.w (upd H s.heap.objs.size (.tup [.int (i : Nat), x])) k2 s.heap.objs.size (.tup [.int (i : Nat), x]) :=
      ⟨show 2 ≤ sizeLine by decide, [.int i s.toks, u], .cons ⟨_, rfl⟩ (.cons ru .nil), _, t2, rfl, _, rfl⟩
    have I2 : Inv X pins σ (upd H s.heap.objs.size (.tup [.int (i : Nat), x])) { s with heap := k2, toks := s.toks + 1 } :=
      I.turnedNew (ch := [e, it]) (fun b ob n q => (sb.2 b (ch b n).1).trans (up1 b ob (ch b n).1 (ch b n).2 q)) hf (Nat.le_refl _) pair
    refine ⟨.ref s.heap.objs.size, _, I2, rfl, ⟨_, x, rfl, I.hok.fresh (Nat.le_refl _), rfl, fun ys hy => by rw [I.tuple_inj hy hq]; exact hx⟩, ⟨⟨u, ?_⟩, j2.at fun o q => (sb.2 it (Ne.symm ne)).trans q, ne⟩, fun b hb => ?_⟩
    · rw [show ((i + 1 : Nat) : Int) = (i : Int) + 1 by omega]; exact e2
    · have lt : b < s.heap.objs.size := by
        have hb : b = e ∨ b = it := by simpa using hb
        rcases hb with rfl | rfl
        · exact el
        · exact il
      rw [upd_ne (Nat.ne_of_lt lt)]
      exact (hf b hb).1
  done := by
    rintro X rfl rfl rfl hc i pins s σ H E I hf ⟨⟨old, e1⟩, j1, ne⟩ ⟨xs, hq, hx⟩
    obtain ⟨its, rv, p, _⟩ := I.tuple hq
    obtain ⟨f0, f1, f2, f3, f4, f5⟩ := hf it (by simp)
    have hl := rv.length
    exact stop1 (I.ok.hd hc) e1 j1 p (by simp; omega) fun k r => ⟨rfl, I.turned (t' := s.toks) (fun b o hb q => r b o hb q) f0 f1 f3 f4 f5⟩
  self := fun A i s Q E ⟨⟨_, e1⟩, _⟩ q => wpAny_pyIter_enum e1 q
def iEnumA (K : PySem.W.Frag) (ta : TA) : TI := fun σ H R => ta σ H fun vs H1 => ∃ a xs, vs = [.ref a] ∧ ((SqL K H1 a xs ∧ R (Ite K a) H1) ∨ (SqT K H1 a xs ∧ R (IteT K a) H1))
theorem pi_enumA {X : Cx} {e : Expr} {ta : TA} {p pos tpos : Pos} {elts : List Expr} {kk : Nat} (hg : Gl X "enumerate") (hm : X.mg "enumerate" = none) (ha : PA X [e] ta) (hs : starEach [e] X.env = [(false, eval e X.env)] := by rfl) :
    PI X (.Tuple elts kk tpos) (.Call (.Name "enumerate" p) [e] [] pos) (iEnumA X.K ta) := by
  refine ⟨fun pins s σ H R I h => ?_⟩
  refine Call_ (ld_blt I hg hm boot_enumerate (PyProof.Rows.callWith_type1 (thn (ha.run pos pins s σ H _ I h) fun us s1 ⟨vs, H1, I1, r1, a, xs, ex, q⟩ => ?_) hs rfl))
  subst ex
  cases r1 with
  | cons r rr =>
    cases rr
    cases r
    have pin : ∀ b ∈ [s1.heap.objs.size + 1, s1.heap.objs.size], s1.heap.objs.size ≤ b := fun b hb => by simp at hb; omega
    rcases q with ⟨hq, q⟩ | ⟨hq, q⟩
    · obtain ⟨its, rv, p', hz⟩ := I1.list hq
      refine call_enumerate_list p'.isList fun k e1 j1 _ up => wpAny_pyIter_enum e1 ?_
      have I2 : Inv X pins σ H1 { s1 with heap := k } := I1.kept (t' := s1.toks) up
      exact ⟨s1.heap.objs.size + 1, [s1.heap.objs.size + 1, s1.heap.objs.size], _, _, H1, rfl, I2, turn_enum a (s1.heap.objs.size + 1) s1.heap.objs.size, ⟨⟨.none, e1⟩, j1, Nat.succ_ne_self _⟩, fun b hb => I1.fpOk (pin b hb) (I1.hok.fresh (pin b hb)), q⟩
    · obtain ⟨its, rv, p', hz⟩ := I1.tuple hq
      refine make p' fun k e1 j1 _ up => wpAny_pyIter_enum e1 ?_
      have I2 : Inv X pins σ H1 { s1 with heap := k } := I1.kept (t' := s1.toks) up
      exact ⟨s1.heap.objs.size + 1, [s1.heap.objs.size + 1, s1.heap.objs.size], _, _, H1, rfl, I2, turnT a (s1.heap.objs.size + 1) s1.heap.objs.size, ⟨⟨.none, e1⟩, j1, Nat.succ_ne_self _⟩, fun b hb => I1.fpOk (pin b hb) (I1.hok.fresh (pin b hb)), q⟩
end EnT

namespace DL
open PySem PySem.Spec PyProof.Rows L2
/-! ### enumerate, reversed -/
theorem enumD_len : ∀ (k : Nat) (ds : List D), (enumD k ds).length = ds.length
  | _, [] => rfl
  | k, d :: r => by show (enumD (k + 1) r).length + 1 = _; rw [enumD_len]; rfl
theorem enumD_get : ∀ (k : Nat) (ds : List D) (i : Nat), (enumD k ds)[i]? = ds[i]?.map fun d => .tuple [.int ((k + i : Nat) : Int), d]
  | _, [], i => by simp [enumD]
  | k, d :: r, 0 => rfl
  | k, d :: r, i + 1 => by
    show (enumD (k + 1) r)[i]? = _
    rw [enumD_get (k + 1) r i, List.getElem?_cons_succ, show k + 1 + i = k + (i + 1) by omega]
section
variable {K : PySem.W.Frag} {P : Hp → Hp → Prop} {p : Addr} {xs : List V} {ds : List D}
theorem ite_ok (hS : ∀ F' H', P F' H' → Same F' H' → SqL K H' p xs) (r : ∀ F' H', P F' H' → RpA K F' xs ds) : ItOk K P (Ite K p) (enumD 0 ds) where
  go := fun i F' H' z s hi => by
    rw [enumD_len] at hi
    obtain ⟨v, hv, _⟩ := (r F' H' z).get (List.getElem?_eq_getElem hi)
    exact ⟨xs, v, hS F' H' z s, hv⟩
  stop := fun F' H' z s => ⟨xs, hS F' H' z s, by rw [(r F' H' z).length, enumD_len]; exact Nat.le_refl _⟩
  yld := fun i d F' H' x H'' z s hd ⟨T, a, ex, hT, eH, h1⟩ => by
    subst ex eH
    rw [enumD_get] at hd
    obtain ⟨e, he, rfl⟩ := Option.map_eq_some_iff.mp hd
    obtain ⟨d1, e1, r1⟩ := (r F' _ z).getV (h1 xs (hS F' _ z s))
    rw [he] at e1; cases e1
    rw [Nat.zero_add]
    have n := Same.new (o := .tup [.int (i : Nat), a]) (Same.none s hT)
    exact ⟨_, Grow.new s hT, .tup (SqT.of upd_same) (.cons (.int _) (.cons (Rp.mono n _ _ r1) .nil))⟩
theorem iteT_ok (hS : ∀ F' H', P F' H' → Same F' H' → SqT K H' p xs) (r : ∀ F' H', P F' H' → RpA K F' xs ds) : ItOk K P (EnT.IteT K p) (enumD 0 ds) where
  go := fun i F' H' z s hi => by
    rw [enumD_len] at hi
    obtain ⟨v, hv, _⟩ := (r F' H' z).get (List.getElem?_eq_getElem hi)
    exact ⟨xs, v, hS F' H' z s, hv⟩
  stop := fun F' H' z s => ⟨xs, hS F' H' z s, by rw [(r F' H' z).length, enumD_len]; exact Nat.le_refl _⟩
  yld := fun i d F' H' x H'' z s hd ⟨T, a, ex, hT, eH, h1⟩ => by
    subst ex eH
    rw [enumD_get] at hd
    obtain ⟨e, he, rfl⟩ := Option.map_eq_some_iff.mp hd
    obtain ⟨d1, e1, r1⟩ := (r F' _ z).getV (h1 xs (hS F' _ z s))
    rw [he] at e1; cases e1
    rw [Nat.zero_add]
    have n := Same.new (o := .tup [.int (i : Nat), a]) (Same.none s hT)
    exact ⟨_, Grow.new s hT, .tup (SqT.of upd_same) (.cons (.int _) (.cons (Rp.mono n _ _ r1) .nil))⟩
theorem itv_ok (hS : ∀ F' H', P F' H' → Same F' H' → SqL K H' p xs) (r : ∀ F' H', P F' H' → RpA K F' xs ds) (hl : xs.length = ds.length) : ItOk K P (Itv K p xs.length) ds.reverse where
  go := fun i F' H' z s hi => by
    rw [List.length_reverse] at hi
    obtain ⟨v, hv, _⟩ := (r F' H' z).get (i := xs.length - 1 - i) (List.getElem?_eq_getElem (by omega))
    exact ⟨by omega, xs, v, hS F' H' z s, hv⟩
  stop := fun F' H' z s => by
    show xs.length ≤ _
    rw [List.length_reverse]; omega
  yld := fun i d F' H' x H'' z s hd ⟨eH, h1⟩ => by
    subst eH
    have hi : i < ds.length := by
      have := (List.getElem?_eq_some_iff.mp hd).1
      rwa [List.length_reverse] at this
    rw [List.getElem?_reverse hi] at hd
    obtain ⟨d1, e1, r1⟩ := (r F' _ z).getV (h1 xs (hS F' _ z s))
    rw [hl, hd] at e1; cases e1
    exact ⟨F', Grow.refl s, r1⟩
theorem itvT_ok (hS : ∀ F' H', P F' H' → Same F' H' → SqT K H' p xs) (r : ∀ F' H', P F' H' → RpA K F' xs ds) (hl : xs.length = ds.length) : ItOk K P (RT.ItvT K p xs.length) ds.reverse where
  go := fun i F' H' z s hi => by
    rw [List.length_reverse] at hi
    obtain ⟨v, hv, _⟩ := (r F' H' z).get (i := xs.length - 1 - i) (List.getElem?_eq_getElem (by omega))
    exact ⟨by omega, xs, v, hS F' H' z s, hv⟩
  stop := fun F' H' z s => by
    show xs.length ≤ _
    rw [List.length_reverse]; omega
  yld := fun i d F' H' x H'' z s hd ⟨eH, h1⟩ => by
    subst eH
    have hi : i < ds.length := by
      have := (List.getElem?_eq_some_iff.mp hd).1
      rwa [List.length_reverse] at this
    rw [List.getElem?_reverse hi] at hd
    obtain ⟨d1, e1, r1⟩ := (r F' _ z).getV (h1 xs (hS F' _ z s))
    rw [hl, hd] at e1; cases e1
    exact ⟨F', Grow.refl s, r1⟩
end
/-- a tuple, or a list that stays -/
def sqF (a : Sl) : Option (List D) := match tupOf a with
  | some ds => some ds
  | none => itL a
def enS : List Sl → Option (List D)
  | [a] => (sqF a).map (enumD 0)
  | _ => none
def iRev (f : En → Rs Sl) : En → Rs (List D) := fun δ => (f δ).bind fun s => ofD ((sqF s).map List.reverse) .ok
section
variable {X : Cx} {xi : Xi} {W : WX} {tg e e2 : Expr} {f : En → Rs Sl} {fs : En → Rs (List Sl)} {it : En → Rs (List D)} {elts : List Expr} {kk : Nat} {tpos p p2 pos apos : Pos}
theorem pdi_enum (hG : Gl X "enumerate") (hm : X.mg "enumerate" = none) (ha : PDA X xi W [e] fs)
    (hs : starEach [e] X.env = [(false, eval e X.env)] := by rfl) : PDI X xi W zF (.Tuple elts kk tpos) (.Call (.Name "enumerate" p) [e] [] p2) (iCall enS fs) := by
  refine PI.imp (EnT.pi_enumA hG hm ha hs) ?_
  rintro σ H R ⟨F0, H0, F, δ, st, p⟩
  refine tA_use st (fun x v F1 H1 e1 g1 r1 => ?_) (fun x F1 H1 e1 g1 => by simp only [iCall, e1, Rs.bind] at p; exact p F1 H1 g1) (fun e1 => by simp only [iCall, e1, Rs.bind] at p; exact p)
  simp only [iCall, e1, Rs.bind] at p
  cases e2 : enS x with
  | none => rw [e2] at p; exact p.elim
  | some q =>
    rw [e2] at p
    unfold enS at e2
    split at e2
    · obtain ⟨v1, rfl, ra⟩ := r1.one
      obtain ⟨ds, h1, rfl⟩ := Option.map_eq_some_iff.mp e2
      unfold sqF at h1
      split at h1
      · rename_i ds' ht
        cases h1
        obtain ⟨p1, xs, rfl, hS, ra⟩ := ra.tupF ht
        exact ⟨p1, xs, rfl, .inr ⟨same_t g1.sm hS, p _ F1 H1 g1 (iteT_ok (fun F' H' q s => same_t s (same_t q hS)) fun F' H' q => RpA.mono q _ _ ra)⟩⟩
      · obtain ⟨p1, xs, rfl, hS, ra⟩ := ra.itl h1
        exact ⟨p1, xs, rfl, .inl ⟨same_l g1.sm hS, p _ F1 H1 g1 (ite_ok (fun F' H' q s => same_l s (same_l q hS)) fun F' H' q => RpA.mono q _ _ ra)⟩⟩
    · cases e2
theorem pdi_rev (hG : Gl X "reversed") (hm : X.mg "reversed" = none) (he : PD X xi W e f)
    (hs : starEach [e] X.env = (false, eval e X.env) :: starEach [] X.env := by rfl) : PDI X xi W zF tg (.Call (.Name "reversed" p) [e] [] p2) (iRev f) := by
  refine PI.imp (RT.pi_revA hG hm he hs) ?_
  rintro σ H R ⟨F0, H0, F, δ, st, p⟩
  refine tD_use st (fun x v F1 H1 e1 g1 r1 => ?_) (fun x F1 H1 e1 g1 => by simp only [iRev, e1, Rs.bind] at p; exact p F1 H1 g1) (fun e1 => by simp only [iRev, e1, Rs.bind] at p; exact p)
  simp only [iRev, e1, Rs.bind] at p
  cases e2 : sqF x with
  | none => rw [e2] at p; exact p.elim
  | some ds =>
    rw [e2] at p
    unfold sqF at e2
    split at e2
    · rename_i ds' ht
      cases e2
      obtain ⟨p1, xs, rfl, hS, ra⟩ := RdR.tupF (RepR.rd r1) ht
      exact ⟨p1, xs, rfl, .inr ⟨same_t g1.sm hS, p _ F1 H1 g1 (itvT_ok (fun F' H' q s => same_t s (same_t q hS)) (fun F' H' q => RpA.mono q _ _ ra) ra.length)⟩⟩
    · obtain ⟨p1, xs, rfl, hS, ra⟩ := RdR.itl (RepR.rd r1) e2
      exact ⟨p1, xs, rfl, .inl ⟨same_l g1.sm hS, p _ F1 H1 g1 (itv_ok (fun F' H' q s => same_l s (same_l q hS)) (fun F' H' q => RpA.mono q _ _ ra) ra.length)⟩⟩
/-! ### list(range(..)) -/
def tRgD (K : PySem.W.Frag) (xi : Xi) (W : WX) (m : List Sl → Option (Int × Int)) (fs : En → Rs (List Sl)) : En → Rs Sl := fun δ => (fs δ).bind fun as => match m as with
  | some (i, j) => if rgOk i j = true ∧ (j - i).toNat ≤ 16777216 then .ok (.ml (rng i (j - i).toNat)) else .bad
  | none => .bad
/-- the items of a range as a list -/
def eRg (f g : En → Rs Sl) : En → Rs Sl := fun δ => (f δ).bind fun a => (g δ).bind fun b => match a, b with
  | .im (.int i), .im (.int j) => if rgOk i j = true ∧ (j - i).toNat ≤ 16777216 then .ok (.ml (rng i (j - i).toNat)) else .bad
  | _, _ => .bad
theorem rgOk_b {i j : Int} (h : rgOk i j = true ∧ (j - i).toNat ≤ 16777216) : RgOk i j := by
  unfold rgOk at h
  rw [Bool.and_eq_true] at h
  have h1 := smI_lt.mp h.1.1
  have h2 := smI_lt.mp h.1.2
  have e62 : (2 : Int) ^ 62 = 4611686018427387904 := by decide
  exact ⟨by rw [e62]; omega, by rw [e62]; omega, by rw [e62]; omega, by rw [e62]; omega, h.2⟩
theorem RpA.rg {K : PySem.W.Frag} {F : Hp} (i j : Int) : RpA K F (rgV i j) (rng i (j - i).toNat) := by
  unfold rgV rng
  generalize List.range (j - i).toNat = l
  induction l with
  | nil => exact .nil
  | cons a l ih => exact .cons (.int _) ih
variable {g : En → Rs Sl}
theorem pd_listRg1 (hc : X.calm = true) (hG : Gl X "list") (hm : X.mg "list" = none) (hG2 : Gl X "range") (hm2 : X.mg "range" = none) (he : PD X xi W e f)
    (na : starEach [e] X.env = (false, eval e X.env) :: starEach [] X.env := by rfl) (nb : starEach [.Call (.Name "range" p2) [e] [] apos] X.env = (false, eval (.Call (.Name "range" p2) [e] [] apos) X.env) :: starEach [] X.env := by rfl) :
    PD X xi W (.Call (.Name "list" p) [.Call (.Name "range" p2) [e] [] apos] [] pos) (eRg (eC (.int 0)) f) := by
  refine PE.imp (pe_listRg hc hG hm (prg_1 hG2 hm2 he na) nb) ?_
  rintro σ H Q ⟨F0, H0, F, δ, st, p⟩
  refine tD_use st (fun x v F1 H1 e1 g1 r1 => ?_) (fun x F1 H1 e1 g1 => by simp only [eRg, eC, e1, Rs.bind] at p; exact p F1 H1 g1) (fun e1 => by simp only [eRg, eC, e1, Rs.bind] at p; exact p)
  simp only [eRg, eC, e1, Rs.bind] at p
  split at p
  · rename_i i j z1
    cases z1
    have r : Rp _ _ v (.int j) := r1
    cases r
    split at p
    · rename_i ok
      refine ⟨j, rfl, rgOk_b ok, fun q hq => ?_⟩
      exact p _ F1 _ (g1.trans (Grow.newO g1.sm hq)) ⟨q, _, rfl, Same.free g1.hh hq, Same.none g1.sm hq, upd_same, RpA.rg 0 j⟩
    · exact p.elim
  · exact p.elim
theorem pd_listRg2 (hc : X.calm = true) (hG : Gl X "list") (hm : X.mg "list" = none) (hG2 : Gl X "range") (hm2 : X.mg "range" = none) (he : PD X xi W e f) (he2 : PD X xi W e2 g)
    (na : starEach [e, e2] X.env = (false, eval e X.env) :: starEach [e2] X.env := by rfl) (n2 : starEach [e2] X.env = (false, eval e2 X.env) :: starEach [] X.env := by rfl) (hp : (backTo apos (starEach [e2] X.env)).any (·.1) = false := by rfl)
    (nb : starEach [.Call (.Name "range" p2) [e, e2] [] apos] X.env = (false, eval (.Call (.Name "range" p2) [e, e2] [] apos) X.env) :: starEach [] X.env := by rfl) :
    PD X xi W (.Call (.Name "list" p) [.Call (.Name "range" p2) [e, e2] [] apos] [] pos) (eRg f g) := by
  refine PE.imp (pe_listRg hc hG hm (prg_2 hG2 hm2 he he2 na n2 hp) nb) ?_
  rintro σ H Q ⟨F0, H0, F, δ, st, p⟩
  refine tD_use st (fun x v F1 H1 e1 g1 r1 => ?_) (fun x F1 H1 e1 g1 => by simp only [eRg, e1, Rs.bind] at p; exact p F1 H1 g1) (fun e1 => by simp only [eRg, e1, Rs.bind] at p; exact p)
  simp only [eRg, e1, Rs.bind] at p
  refine tD_use (st.grow g1) (fun y w F2 H2 e2 g2 r2 => ?_) (fun x F2 H2 e2 g2 => by simp only [e2] at p; exact p F2 H2 (g1.trans g2)) (fun e2 => by simp only [e2] at p; exact p)
  simp only [e2] at p
  split at p
  · rename_i i j
    have r1 : Rp _ _ v (.int i) := r1
    have r2 : Rp _ _ w (.int j) := r2
    cases r1
    cases r2
    split at p
    · rename_i ok
      have gg := g1.trans g2
      refine ⟨i, j, rfl, rfl, rgOk_b ok, fun q hq => ?_⟩
      exact p _ F2 _ (gg.trans (Grow.newO gg.sm hq)) ⟨q, _, rfl, Same.free gg.hh hq, Same.none gg.sm hq, upd_same, RpA.rg i j⟩
    · exact p.elim
  · exact p.elim
/-! ### max(xs), min(xs) -/
def maxL : List Int → Int
  | [] => 0
  | [x] => x
  | x :: r => if x ≤ maxL r then maxL r else x
def minL : List Int → Int
  | [] => 0
  | [x] => x
  | x :: r => if minL r ≤ x then minL r else x
theorem maxL_spec : ∀ xs : List Int, xs ≠ [] → maxL xs ∈ xs ∧ ∀ y ∈ xs, y ≤ maxL xs
  | [], h => absurd rfl h
  | [x], _ => ⟨.head _, fun y hy => by simp at hy; subst hy; exact Int.le_refl _⟩
  | x :: z :: r, _ => by
    obtain ⟨h1, h2⟩ := maxL_spec (z :: r) (by simp)
    show (if x ≤ maxL (z :: r) then maxL (z :: r) else x) ∈ _ ∧ ∀ y ∈ _, y ≤ (if x ≤ maxL (z :: r) then maxL (z :: r) else x)
    split
    · rename_i h
      refine ⟨.tail _ h1, fun y hy => ?_⟩
      rcases List.mem_cons.mp hy with rfl | hy
      · exact h
      · exact h2 y hy
    · rename_i h
      refine ⟨.head _, fun y hy => ?_⟩
      rcases List.mem_cons.mp hy with rfl | hy
      · exact Int.le_refl _
      · have := h2 y hy; omega
theorem minL_spec : ∀ xs : List Int, xs ≠ [] → minL xs ∈ xs ∧ ∀ y ∈ xs, minL xs ≤ y
  | [], h => absurd rfl h
  | [x], _ => ⟨.head _, fun y hy => by simp at hy; subst hy; exact Int.le_refl _⟩
  | x :: z :: r, _ => by
    obtain ⟨h1, h2⟩ := minL_spec (z :: r) (by simp)
    show (if minL (z :: r) ≤ x then minL (z :: r) else x) ∈ _ ∧ ∀ y ∈ _, (if minL (z :: r) ≤ x then minL (z :: r) else x) ≤ y
    split
    · rename_i h
      refine ⟨.tail _ h1, fun y hy => ?_⟩
      rcases List.mem_cons.mp hy with rfl | hy
      · exact h
      · exact h2 y hy
    · rename_i h
      refine ⟨.head _, fun y hy => ?_⟩
      rcases List.mem_cons.mp hy with rfl | hy
      · exact Int.le_refl _
      · have := h2 y hy; omega
def mMax1 : List Sl → Option Sl
  | [a] => ((lstOf a).bind intsOf).bind fun ns => if ns ≠ [] then some (.im (.int (maxL ns))) else none
  | _ => none
def mMin1 : List Sl → Option Sl
  | [a] => ((lstOf a).bind intsOf).bind fun ns => if ns ≠ [] then some (.im (.int (minL ns))) else none
  | _ => none
theorem c_max1 (hc : X.calm = true) : CallR X (.builtin "max") (rC X.K mMax1) := by
  refine CallR.imp (cr_max hc) ?_
  rintro vs H Q ⟨F, as, s, sm, r, e, q⟩
  unfold mMax1 at e
  split at e
  · obtain ⟨v, rfl, ra⟩ := r.one
    obtain ⟨ns, hn, e⟩ := Option.bind_eq_some_iff.mp e
    obtain ⟨ds, hd, hi⟩ := Option.bind_eq_some_iff.mp hn
    split at e
    · rename_i hne
      cases e
      obtain ⟨p, xs, rfl, hT, rr⟩ := RdR.lst sm ra hd
      rw [intsOf_eq hi] at rr
      rw [rr.ofInts] at hT
      obtain ⟨m1, m2⟩ := maxL_spec ns hne
      refine ⟨p, ns, rfl, hT, List.length_pos_iff.mpr hne, fun m h1 h2 => ?_⟩
      have : m = maxL ns := Int.le_antisymm (m2 m h1) (h2 _ m1)
      subst this
      exact q _ F H (Grow.refl sm) (.int _)
    · cases e
  · cases e
theorem c_min1 (hc : X.calm = true) : CallR X (.builtin "min") (rC X.K mMin1) := by
  refine CallR.imp (cr_min hc) ?_
  rintro vs H Q ⟨F, as, s, sm, r, e, q⟩
  unfold mMin1 at e
  split at e
  · obtain ⟨v, rfl, ra⟩ := r.one
    obtain ⟨ns, hn, e⟩ := Option.bind_eq_some_iff.mp e
    obtain ⟨ds, hd, hi⟩ := Option.bind_eq_some_iff.mp hn
    split at e
    · rename_i hne
      cases e
      obtain ⟨p, xs, rfl, hT, rr⟩ := RdR.lst sm ra hd
      rw [intsOf_eq hi] at rr
      rw [rr.ofInts] at hT
      obtain ⟨m1, m2⟩ := minL_spec ns hne
      refine ⟨p, ns, rfl, hT, List.length_pos_iff.mpr hne, fun m h1 h2 => ?_⟩
      have : m = minL ns := Int.le_antisymm (h2 _ m1) (m2 m h1)
      subst this
      exact q _ F H (Grow.refl sm) (.int _)
    · cases e
  · cases e
/-! ### 'x'.join(xs) -/
def strsOf : List D → Option (List Str)
  | [] => some []
  | .str i :: r => (strsOf r).map (i :: ·)
  | _ => none
theorem strsOf_eq : ∀ {ds : List D} {ns : List Str}, strsOf ds = some ns → ds = ns.map PyData.str
  | [], ns, h => by cases h; rfl
  | d :: r, ns, h => by
    cases d with
    | str i =>
      obtain ⟨r', e1, rfl⟩ := Option.map_eq_some_iff.mp h
      rw [strsOf_eq e1]; rfl
    | _ => cases h
def joinOk (a : Str) (ys : List Str) : Bool := decide ((ys.map (·.length)).sum + ys.length * a.length ≤ 16777216)
def mJ (x : Str) (b : Sl) : Option Sl := ((seqOf b).bind strsOf).bind fun ys => if joinOk x ys = true then some (.im (.str (Txt.join x ys))) else none
def eJoin (f g : En → Rs Sl) : En → Rs Sl := fun δ => (f δ).bind fun a => match a with
  | .im (.str x) => (g δ).bind fun b => ofO (mJ x b)
  | _ => .bad
theorem pd_join (ho : PD X xi W e f) (he : PD X xi W e2 g) (hs : starEach [e2] X.env = [(false, eval e2 X.env)] := by rfl) (hbase : attributeBase e "join" X.env (eval e X.env) = eval e X.env := by rfl) (hline : (apos.endLine == pos.line) = true := by rfl) :
    PD X xi W (.Call (.Attribute e "join" apos) [e2] [] pos) (eJoin f g) := by
  refine PE.imp (pe_join ho he hs hbase hline) ?_
  rintro σ H Q ⟨F0, H0, F, δ, st, p⟩
  refine tD_use st (fun x v F1 H1 e1 g1 r1 => ?_) (fun x F1 H1 e1 g1 => by simp only [eJoin, e1, Rs.bind] at p; exact p F1 H1 g1) (fun e1 => by simp only [eJoin, e1, Rs.bind] at p; exact p)
  simp only [eJoin, e1, Rs.bind] at p
  split at p
  · rename_i x
    have r1 : Rp _ _ v (.str x) := r1
    cases r1
    refine ⟨⟨x, rfl⟩, ?_⟩
    refine tD_use (st.grow g1) (fun y w F2 H2 e2 g2 r2 => ?_) (fun x F2 H2 e2 g2 => by simp only [e2] at p; exact p F2 H2 (g1.trans g2)) (fun e2 => by simp only [e2] at p; exact p)
    simp only [e2] at p
    cases em : mJ x y with
    | none => rw [em] at p; exact p.elim
    | some s =>
      rw [em] at p
      unfold mJ at em
      obtain ⟨ys, hy, em⟩ := Option.bind_eq_some_iff.mp em
      obtain ⟨ds, hd, hi⟩ := Option.bind_eq_some_iff.mp hy
      split at em
      · rename_i ok
        cases em
        have ok := of_decide_eq_true ok
        have fin := p (.str (Txt.join x ys)) F2 H2 (g1.trans g2) (.str _)
        unfold seqOf at hd
        split at hd
        · rename_i ds' ht
          cases hd
          obtain ⟨q, xs, rfl, hT, rr⟩ := RdR.tup g2.sm (RepR.rd r2) ht
          rw [strsOf_eq hi] at rr
          rw [rr.ofStrs] at hT
          exact ⟨x, q, ys, rfl, rfl, .inr hT, ok, fin⟩
        · obtain ⟨q, xs, rfl, hT, rr⟩ := RdR.lst g2.sm (RepR.rd r2) hd
          rw [strsOf_eq hi] at rr
          rw [rr.ofStrs] at hT
          exact ⟨x, q, ys, rfl, rfl, .inl hT, ok, fin⟩
      · cases em
  · exact p.elim
end
end DL

namespace DL
open PySem PySem.Spec PyProof.Rows L2
/-! ### isinstance of the caught one: two classes at once; ValueError -/
def rIsET (K : PySem.W.Frag) (D a : Addr) : List V → Hp → VK → Prop := fun xs H Q => ∃ (tp : Addr) (c1 c2 : Addr) (b : Bool), xs = [.ref a, .ref tp] ∧ H tp = some (.tup [.ref c1, .ref c2]) ∧ PySem.W.kitAny K (.ref D) [.ref c1, .ref c2] = some b ∧ Q (.bl b) H
theorem call_isET {X : Cx} {a D : Addr} {oe : Obj} {pn : List (Addr × Obj)} (C : ExcC X.K D) (hz : L2N.Zn (.ref D) none oe) (hf : ∃ vs, oe.data = .fields vs) : CallR (X.suite a ((a, oe) :: pn)) (.builtin "isinstance") (rIsET X.K D a) := by
  intro pins s σ H xs us Q I r h
  obtain ⟨tp, c1, c2, b, rfl, hT, e, q⟩ := h
  cases r with
  | cons rx rr =>
    cases rr with
    | cons rt rr =>
      cases rr
      cases rx
      cases rt
      obtain ⟨hget, _⟩ := I.pin (a, oe) (List.mem_append.mpr (.inl List.mem_cons_self))
      obtain ⟨vs, hv⟩ := hf
      have J : PySem.W.InstAt s.heap a oe D none := by
        obtain ⟨oc, od, oda, osl⟩ := oe
        obtain ⟨h1, h2⟩ := hz.zc
        dsimp only at h1 h2 hv
        subst h1 h2 hv
        exact ⟨hget, rfl, rfl, trivial⟩
      obtain ⟨_, its, rv, o, h1, h2, n, h3⟩ := (show ObjOk X.prog X.w H s.heap tp (.tup [.ref c1, .ref c2]) from I.hok tp _ hT)
      obtain ⟨oc, od, dt, sl⟩ := o
      simp only at h2 h3
      subst h2 h3
      have ei : its = [.ref c1, .ref c2] := by
        cases rv with
        | cons q1 rv =>
          cases rv with
          | cons q2 rv =>
            cases rv
            cases q1; cases q2; rfl
      subst ei
      exact PySem.W.kia_tup (PySem.W.handS_kitx_exc C.hg C.hk C.hs C.hd C.ha C.hn C.ht C.hm) I.kIn J h1 e (fun z => nomatch z) fun tk => ⟨.bl b, H, I.kept (t' := tk) fun _ _ z => z, rfl, q⟩
def eIsET (cs : List Str) (i : Nat) (C1 C2 : Str) : En → Rs Sl := fun δ => match δ[i]? with
  | some (some (.xc x)) => if x ∈ cs ∧ C1 ∈ cs ∧ C2 ∈ cs then .ok (.im (.bool (isSub x C1 || isSub x C2))) else .bad
  | _ => .bad
theorem kitOne_of {X : Cx} {cs : List Str} (EX : ExF X.K cs) {c C : Str} (hc : c ∈ cs) (hC : C ∈ cs) : PySem.W.kitOne X.K (cvOf X.K c) (cvOf X.K C) = some (isSub c C) := by
  have h3 := EX.exm c hc C hC
  refine kit_of_exm h3 fun q => ?_
  have h4 := EX.exm c hc c hc
  rw [q] at h4 h3
  rw [h4, isSub_self] at h3
  exact (Option.some.inj h3).symm
theorem pd_isET {X : Cx} {W : WX} {pos : Pos} {kk : Nat} {i : Nat} {a : Addr} {oe : Obj} {c C1 C2 n : Str} {pn : List (Addr × Obj)} {cs : List Str} {p1 p2 p3 p4 p5 : Pos} (EX : ExF X.K cs) (hcs : c ∈ cs) (hz : L2N.Zn (cvOf X.K c) none oe) (hf : ∃ vs, oe.data = .fields vs) (E1 : ExK X.K X.mg C1) (E2 : ExK X.K X.mg C2)
    (hG : Gl (X.suite a ((a, oe) :: pn)) "isinstance") (hm : X.mg "isinstance" = none) (hN : X.N[i]? = some n := by rfl) (hv : Vis X.env.scope n := by first | exact Or.inl rfl | exact Or.inr (Or.inl rfl))
    (hg1 : Gl (X.suite a ((a, oe) :: pn)) C1 := by rfl) (hg2 : Gl (X.suite a ((a, oe) :: pn)) C2 := by rfl) (hdb1 : (C1 == ("__debug__" : Str)) = false := by decide) (hdb2 : (C2 == ("__debug__" : Str)) = false := by decide) (hd : (n == ("__debug__" : Str)) = false := by decide) (hcd : (n == ("__classdict__" : Str)) = false := by decide)
    (h1 : starEach [.Name n p2, .Tuple [.Name C1 p3, .Name C2 p4] kk p5] X.env = (false, eval (.Name n p2) X.env) :: starEach [.Tuple [.Name C1 p3, .Name C2 p4] kk p5] X.env := by rfl)
    (h2 : starEach [.Tuple [.Name C1 p3, .Name C2 p4] kk p5] X.env = (false, eval (.Tuple [.Name C1 p3, .Name C2 p4] kk p5) X.env) :: starEach [] X.env := by rfl)
    (h3 : starEach [.Name C1 p3, .Name C2 p4] X.env = (false, eval (.Name C1 p3) X.env) :: starEach [.Name C2 p4] X.env := by rfl) (h4 : starEach [.Name C2 p4] X.env = (false, eval (.Name C2 p4) X.env) :: starEach [] X.env := by rfl)
    (hpl : (backTo pos (starEach [.Tuple [.Name C1 p3, .Name C2 p4] kk p5] X.env)).any (·.1) = false := by rfl) :
    PD (X.suite a ((a, oe) :: pn)) ((i, a, cvOf X.K c) :: xi) W (.Call (.Name "isinstance" p1) [.Name n p2, .Tuple [.Name C1 p3, .Name C2 p4] kk p5] [] pos) (eIsET cs i C1 C2) := by
  have hv' : Vis (X.suite a ((a, oe) :: pn)).env.scope n := hv
  refine PE.imp (pe_callB (call_isET (EX.exc c hcs) hz hf) hG hm (by decide +kernel) (pa_cons (pe_var (i := i) hN hv' hd hcd) (pa_cons (pe_tup (pa_cons (pe_glob (v := .ref (He.ga X.K C1)) hg1 E1.gl rfl hdb1) (pa_cons (pe_glob (v := .ref (He.ga X.K C2)) hg2 E2.gl rfl hdb2) pa_nil h4) h3)) pa_nil h2) h1) (by decide) (by decide) h1 hpl) ?_
  rintro σ H Q ⟨F0, H0, F, δ, st, p⟩
  obtain ⟨x1, x2⟩ := st.xi i a _ (List.mem_cons_self ..)
  unfold eIsET at p
  split at p
  · rename_i x e
    split at p
    · rename_i hx
      have ec := x2 x e
      have k1 := kitOne_of EX hx.1 hx.2.1
      have k2 := kitOne_of EX hx.1 hx.2.2
      refine ⟨_, x1, (by decide : 2 ≤ sizeLine), fun q hq => ?_⟩
      have g := Grow.newO (F := F) (o := .tup [.ref (He.ga X.K C1), .ref (He.ga X.K C2)]) st.sm hq
      refine ⟨q, He.ga X.K C1, He.ga X.K C2, isSub x C1 || isSub x C2, rfl, upd_same, ?_, p _ F _ g (.bl _)⟩
      show PySem.W.kitAny X.K (cvOf X.K c) [cvOf X.K C1, cvOf X.K C2] = _
      rw [ec]
      refine kitAny_cons k1 (fun hb => kitAny_cons k2 (fun hb2 => ?_) (fun hb2 => ?_)) (fun hb => ?_)
      · rw [hb, hb2]; exact kitAny_nil
      · rw [hb2, Bool.or_true]
      · rw [hb, Bool.true_or]
    · exact p.elim
  · exact p.elim
/-- what the text says of each class and ValueError -/
def excV (K : PySem.W.Frag) (x : Str) : Bool := decide (PySem.W.kitOne K (cvOf K x) (.type "ValueError") = some true)
/-- isinstance(e, ValueError) -/
def eIsV (cs : List Str) (i : Nat) : En → Rs Sl := fun δ => match δ[i]? with
  | some (some (.xc x)) => if x ∈ cs then .ok (.im (.bool true)) else .bad
  | _ => .bad
theorem pd_isV {X : Cx} {W : WX} {pos : Pos} {i : Nat} {a : Addr} {oe : Obj} {c n : Str} {pn : List (Addr × Obj)} {cs : List Str} {p1 p2 p3 : Pos} (EX : ExF X.K cs) (EV : ∀ x ∈ cs, PySem.W.kitOne X.K (cvOf X.K x) (.type "ValueError") = some true) (hcs : c ∈ cs) (hz : L2N.Zn (cvOf X.K c) none oe) (hf : ∃ vs, oe.data = .fields vs)
    (hG : Gl (X.suite a ((a, oe) :: pn)) "isinstance") (hm : X.mg "isinstance" = none) (hG2 : Gl (X.suite a ((a, oe) :: pn)) "ValueError") (hm2 : X.mg "ValueError" = none) (hb2 : bootBuiltins "ValueError" = some (.type "ValueError")) (hN : X.N[i]? = some n := by rfl) (hv : Vis X.env.scope n := by first | exact Or.inl rfl | exact Or.inr (Or.inl rfl))
    (hd : (n == ("__debug__" : Str)) = false := by decide) (hcd : (n == ("__classdict__" : Str)) = false := by decide)
    (h1 : starEach [.Name n p2, .Name "ValueError" p3] X.env = (false, eval (.Name n p2) X.env) :: starEach [.Name "ValueError" p3] X.env := by rfl) (h2 : starEach [.Name "ValueError" p3] X.env = (false, eval (.Name "ValueError" p3) X.env) :: starEach [] X.env := by rfl)
    (hpl : (backTo pos (starEach [.Name "ValueError" p3] X.env)).any (·.1) = false := by rfl) :
    PD (X.suite a ((a, oe) :: pn)) ((i, a, cvOf X.K c) :: xi) W (.Call (.Name "isinstance" p1) [.Name n p2, .Name "ValueError" p3] [] pos) (eIsV cs i) := by
  have hv' : Vis (X.suite a ((a, oe) :: pn)).env.scope n := hv
  refine PE.imp (pe_callB (call_isE (EX.exc c hcs) hz.zc hf) hG hm (by decide +kernel) (pa_cons (pe_var (i := i) hN hv' hd hcd) (pa_cons (pe_bltn (v := .ty "ValueError") hG2 hm2 hb2 rfl (by decide) (by decide)) pa_nil h2) h1) (by decide) (by decide) h1 hpl) ?_
  rintro σ H Q ⟨F0, H0, F, δ, st, p⟩
  obtain ⟨x1, x2⟩ := st.xi i a _ (List.mem_cons_self ..)
  unfold eIsV at p
  split at p
  · rename_i x e
    split at p
    · rename_i hx
      have ec := x2 x e
      refine ⟨_, x1, .ty "ValueError", .type "ValueError", true, rfl, fun u r => r, ?_, p _ F H (Grow.refl st.sm) (.bl _)⟩
      show PySem.W.kitOne X.K (cvOf X.K c) _ = _
      rw [ec]
      exact EV x hx
    · exact p.elim
  · exact p.elim
end DL

namespace DL
open PySem PySem.Spec PyProof.Rows L2
/-! ### tuple * int -/
def mMulT (a b : Sl) : Option Sl := match a, b with
  | .im (.tuple xs), .im (.int k) => if xs ≠ [] ∧ 2 ≤ k ∧ k ≤ 1000 ∧ xs.length ≤ 1000 then some (.im (.tuple (List.replicate k.toNat xs).flatten)) else none
  | _, _ => none
section
variable {X : Cx}
theorem o_mulT : OpR X (binaryOp .Mult) (rD X.K mMulT) := by
  refine OpR.imp op_repT ?_
  rintro x y H Q ⟨F, a, b, s, sm, ra, rb, e, q⟩
  unfold mMulT at e
  split at e
  · split at e
    · rename_i h
      cases e
      cases rb
      obtain ⟨p, vs, rfl, hT, r⟩ := RdR.tup sm ra rfl
      refine ⟨p, _, vs, rfl, rfl, hT, fun z => h.1 ?_, h.2.1, h.2.2.1, by rw [r.length]; exact h.2.2.2, fun z hz => ?_⟩
      · have := r.length
        rw [z] at this
        exact List.eq_nil_of_length_eq_zero this.symm
      · exact q _ _ _ (Grow.new sm hz) (.tup (SqT.of upd_same) (RpA.mono (Same.new (Same.none sm hz)) _ _ (r.rep _)))
    · cases e
  · cases e
end
/-! ### xs.extend(t), t a tuple -/
open AutoSeq1 (wpAny_loadPart') in
theorem ext_tup (l b : Addr) (xs ys : Array Value) (n m : Nat) (dd : Option Addr) (sl : Array (Option Value)) (h0 : ¬(!xs.isEmpty && Builtin.List.listTooLong (xs.size + ys.size)) = true) (h1 : xs.size ≤ sizeLine) (h2 : (xs ++ ys).size ≤ sizeLine + 1) :
    Meets (Builtin.«list.extend» ⟨[.ref l, .ref b], []⟩) (fun _ R s => s.heap.get? l = some { cls := .type "list", dict := none, data := .seq xs n, slots := #[] } ∧
      s.heap.get? b = some { cls := .type "tuple", dict := dd, data := .seq ys m, slots := sl } ∧ R (.ok (.ret Value.none)) { s with heap := s.heap.update l (Obj.mapSeq fun x => x ++ ys), toks := s.toks }) :=
  .of_wp fun prog w A R s q => by
    obtain ⟨hp, gl, du, tk, os⟩ := s
    obtain ⟨al, ab, q⟩ := q
    have f1 := AutoSeq1.idx_int
    wp_walk using (wpAny_updateSeq al rfl (hz := h1) (_hz' := h2)), wpAny_loadPart' al, wpAny_loadPart' ab
    exact ⟨_, rfl, q⟩
def rExtA (K : PySem.W.Frag) : V → List V → Hp → VK → Prop := fun x vs H Q => ∃ l b xs zs, x = .ref l ∧ vs = [.ref b] ∧ H l = some (.lst xs) ∧ (H b = some (.lst zs) ∨ SqT K H b zs) ∧ xs.length + zs.length ≤ sizeLine ∧ Q .non (upd H l (.lst (xs ++ zs)))
theorem mt_extA {X : Cx} : MtM X "list.extend" (rExtA X.K) := by
  intro pins s σ H x vs v us Q I rx rv h
  obtain ⟨l, b, xs, zs, rfl, rfl, hH, hB, hz, q⟩ := h
  rcases hB with hB | hB
  · exact mt_extend pins s σ H _ _ v us Q I rx rv ⟨l, b, xs, zs, rfl, rfl, hH, hB, hz, q⟩
  · cases rx
    obtain ⟨u, rfl, ru⟩ := rv.one
    cases ru
    obtain ⟨z, its, n, r, hl, e⟩ := I.lstM hH
    obtain ⟨its2, r2, ⟨⟨oc, dd, dt, sl⟩, e2, hc, n2, hd⟩, _⟩ := I.tuple hB
    simp only at hc hd
    subst hc hd
    have l2 := r2.length
    have hsz : its.toArray.size + its2.toArray.size ≤ sizeLine := by rw [List.size_toArray, List.size_toArray]; omega
    have hlong : ¬ (!its.toArray.isEmpty && Builtin.List.listTooLong (its.toArray.size + its2.toArray.size)) = true := by
      rw [notLongL hsz, Bool.and_false]
      exact Bool.false_ne_true
    refine call_meets F.slot_list_extend ⟨_, e, rfl⟩ F.entry_list_extend (F.args_list_extend_2 _ _)
      (ext_tup l b its.toArray its2.toArray n n2 dd sl hlong (by rw [List.size_toArray]; omega) (by rw [Array.size_append]; omega)) ⟨e, e2, ?_⟩
    exact ⟨.non, _, I.lset (its' := its ++ its2) hH e (by simp) (r.append r2) (by rw [List.length_append]; omega), rfl, q⟩
def seqM (s : Sl) : Option (List D) := match tupOf s with
  | some ds => some ds
  | none => lstOfM s
def sExtA (i : Nat) (f : En → Rs Sl) : En → Out := fun δ => match δ[i]? with
  | some (some (.ml ds)) => (match f δ with
    | .ok s => (match seqM s with
      | some es => if ds.length + es.length ≤ 16777216 then .nx (δ.set i (some (.ml (ds ++ es)))) else .bad
      | none => .bad)
    | .er x => .er x δ
    | .bad => .bad)
  | _ => .bad
section
variable {X : Cx} {xi : Xi} {W : WX} {f : En → Rs Sl} {pos : Pos}
theorem pds_extA (i : Nat) {ce : Expr} (h : PE X ce (tBM X.K "list" (rExtA X.K) (tVar i) (tCons (tD X.K xi W f) tNil))) (hs : swapsWith ce none pos.line X.env = pure false := by rfl) : PDS X xi W (.Expr ce pos) (sExtA i f) := by
  refine PS.imp (ps_expr h hs) ?_
  rintro E σ H ⟨F0, H0, F, δ, st, p⟩
  unfold sExtA at p
  split at p
  · rename_i ds e2
    obtain ⟨v, ev, ⟨pp, xs, rfl, n0, nF, hp, r⟩, _⟩ := st.sl i _ e2
    refine ⟨_, ev, .inl ⟨rfl, xs, SqL.of hp⟩, ?_⟩
    refine tD_use st (fun x v F1 H1 e1 g1 r1 => ?_) (fun x F1 H1 e1 g1 => by rw [e1] at p; exact p σ F1 H1 (st.grow g1) (g1.ff st.sm)) (fun e1 => by rw [e1] at p; exact p)
    rw [e1] at p
    simp only at p
    split at p
    · rename_i es he
      split at p
      · rename_i hl
        have hp1 := g1.hh _ _ hp
        have st1 := st.grow g1
        unfold seqM at he
        split at he
        · rename_i ds' ht
          cases he
          obtain ⟨b, zs, rfl, hb, rb⟩ := RdR.tup g1.sm r1.rd ht
          refine ⟨pp, b, xs, zs, rfl, rfl, hp1, .inr hb, by rw [r.length, rb.length, sizeLine_eq]; exact hl, ?_⟩
          exact p σ F1 _ (st1.mut e2 ev n0 ((g1.ag _ _ hp).trans nF) ((RpA.mono (g1.ff st.sm) _ _ r).append rb)) (g1.ff st.sm)
        · obtain ⟨b, zs, rfl, hb, rb⟩ := RdR.lstM g1.sm r1.rd he
          refine ⟨pp, b, xs, zs, rfl, rfl, hp1, .inl hb, by rw [r.length, rb.length, sizeLine_eq]; exact hl, ?_⟩
          exact p σ F1 _ (st1.mut e2 ev n0 ((g1.ag _ _ hp).trans nF) ((RpA.mono (g1.ff st.sm) _ _ r).append rb)) (g1.ff st.sm)
      · exact p.elim
    · exact p.elim
  · exact p.elim
end
end DL

namespace DL
open PySem PySem.Spec PyProof.Rows L2
/-- a * b, a a tuple as well -/
def mMulA (a b : Sl) : Option Sl := match tupOf a with
  | some _ => mMulT a b
  | none => mMul a b
theorem o_mulA {X : Cx} : OpR X (binaryOp .Mult) (rD X.K mMulA) := by
  refine OpR.imp (o_mulT.or o_mul) ?_
  rintro x y H Q ⟨F, a, b, s, sm, ra, rb, e, q⟩
  unfold mMulA at e
  split at e
  · exact .inl ⟨F, a, b, s, sm, ra, rb, e, q⟩
  · exact .inr ⟨F, a, b, s, sm, ra, rb, e, q⟩
end DL

namespace DL
open PySem PySem.Spec PyProof.Rows L2
/-! ### comprehensions of two clauses -/
def compL2 (t : Tg) (c : En → Rs Bool) (it1 : En → Rs (List D)) (vs1 : List Nat) (t1 : Tg) (c1 : En → Rs Bool) (f : En → Rs Sl) (δ : En) : List D → Rs (List D)
  | [] => .ok []
  | d :: r => match t (.im d) δ with
    | none => .bad
    | some δ0 => match c (dropBor δ0) with
      | .ok true => (match it1 (dropBor δ0) with
        | .ok es => (match compL t1 c1 f (wipeE (dropBor δ0) vs1) es with
          | .ok xs => (compL2 t c it1 vs1 t1 c1 f δ r).bind fun ys => .ok (xs ++ ys)
          | _ => .bad)
        | _ => .bad)
      | .ok false => compL2 t c it1 vs1 t1 c1 f δ r
      | _ => .bad
def eComp2 (it : En → Rs (List D)) (vs : List Nat) (t : Tg) (c : En → Rs Bool) (it1 : En → Rs (List D)) (vs1 : List Nat) (t1 : Tg) (c1 : En → Rs Bool) (f : En → Rs Sl) : En → Rs Sl := fun δ => (it δ).bind fun ds => match compL2 t c it1 vs1 t1 c1 f (wipeE δ vs) ds with
  | .ok ys => if ys.length ≤ 16777216 then .ok (.ml ys) else .bad
  | _ => .bad
section
variable {X : Cx} {W : WX} {elt tg iter tg1 iter1 : Expr} {ifs ifs1 : List Expr} {scope : Scope} {own : List (Str × Nat)} {pos : Pos} {it it1 : En → Rs (List D)} {g g1 : TG} {t t1 : Tg} {c c1 : En → Rs Bool} {f : En → Rs Sl} {vs1 : List Nat}
theorem compL2_drop {δ : En} {ds : List D} {i : Nat} {d : D} (h : ds[i]? = some d) : compL2 t c it1 vs1 t1 c1 f δ (ds.drop i) = match t (.im d) δ with
    | none => .bad
    | some δ0 => match c (dropBor δ0) with
      | .ok true => (match it1 (dropBor δ0) with
        | .ok es => (match compL t1 c1 f (wipeE (dropBor δ0) vs1) es with
          | .ok xs => (compL2 t c it1 vs1 t1 c1 f δ (ds.drop (i + 1))).bind fun ys => .ok (xs ++ ys)
          | _ => .bad)
        | _ => .bad)
      | .ok false => compL2 t c it1 vs1 t1 c1 f δ (ds.drop (i + 1))
      | _ => .bad := by
  obtain ⟨hi, e⟩ := List.getElem?_eq_some_iff.mp h
  rw [List.drop_eq_getElem_cons hi, e]
  rfl
theorem Stt.rebase {K : PySem.W.Frag} {F0 H0 F H F' H' : Hp} {σ : L2.St} {δ : En} {p : Addr} {o : HO} (st : Stt K [] F0 H0 F H σ δ) (hp : H p = none) (g : Grow F H F' H') (h1 : H' p = some o) (h2 : F' p = none) : Stt K [] (fun q => if q = p then none else F0 q) (upd H0 p o) F' H' σ δ := by
  have st' := st.grow g
  have h0 : H0 p = none := Same.free st.hh hp
  refine ⟨g.sm, fun b u e => ?_, fun b u e => ?_, st.ln, fun i s e => ?_, st'.dg, (fun _ _ _ e => nomatch e), fun i c fs e => ?_⟩
  · by_cases q : b = p
    · subst q; rw [upd_same] at e; cases e; exact h1
    · rw [upd_ne q] at e; exact st'.hh b u e
  · by_cases q : b = p
    · subst q; rw [if_pos rfl]; exact h2
    · rw [upd_ne q] at e; rw [if_neg q]; exact st'.ag b u e
  · obtain ⟨v, e1, r, q⟩ := st.sl i s e
    obtain ⟨v', e1', r', _⟩ := st'.sl i s e
    rw [e1] at e1'; cases e1'
    refine ⟨v, e1, r'.base fun a ha => ?_, q⟩
    have ha' : Ow H v s a := (Ow.frame r fun b hb => by
      obtain ⟨_, u, hu⟩ := Ow.new r hb
      rw [hu]; exact g.hh _ _ hu).mp ha
    obtain ⟨n, u, hu⟩ := Ow.new r ha'
    have ne : a ≠ p := fun z => by subst z; rw [hp] at hu; cases hu
    rw [upd_ne ne]; exact n.1
  · obtain ⟨q, eq, r⟩ := st'.pb i c fs e
    refine ⟨q, eq, r.frame (Same.refl F') (fun a ha => ?_) (fun _ _ n => n)⟩
    obtain ⟨_, u, hu⟩ := r.new ha
    exact upd_ne fun z => by subst z; rw [h0] at hu; cases hu
theorem Stt.chg {K : PySem.W.Frag} {F0 H0 F H : Hp} {σ : L2.St} {δ : En} {p : Addr} {o o' : HO} (st : Stt K [] F0 (upd H0 p o) F H σ δ) (hf : F p = none) (hb : ∀ (i : Nat) (s : Sl), δ[i]? = some (some s) → s.bor = false) : Stt K [] F0 (upd H0 p o') F (upd H p o') σ δ := by
  have ne : ∀ (i : Nat) (s : Sl) (v : V) (a : Addr), δ[i]? = some (some s) → σ[i]? = some (some v) → Ow H v s a → a ≠ p := fun i s v a e ev ha z => by
    obtain ⟨v', ev', r, _⟩ := st.sl i s e
    rw [ev] at ev'; cases ev'
    have := (Ow.new r ha).1.1
    rw [z, upd_same] at this; cases this
  refine ⟨fun b u e => ?_, fun b u e => ?_, fun b u e => ?_, st.ln, fun i s e => ?_, fun i j s t v w a e1 e2 q1 q2 o1 o2 => ?_, (fun _ _ _ e => nomatch e), fun i c fs e => ?_⟩
  · rw [upd_ne (ne_of_none e hf)]; exact st.sm b u e
  · by_cases q : b = p
    · subst q; rw [upd_same] at e; rw [upd_same]; exact e
    · rw [upd_ne q] at e; rw [upd_ne q]; exact st.hh b u (by rw [upd_ne q]; exact e)
  · by_cases q : b = p
    · subst q; exact st.ag b o upd_same
    · rw [upd_ne q] at e; exact st.ag b u (by rw [upd_ne q]; exact e)
  · obtain ⟨v, e1, r, q⟩ := st.sl i s e
    refine ⟨v, e1, ?_, q⟩
    have r1 : RepR K (upd H0 p o) F (upd H p o') v s := r.keeps (Same.refl F) q (hb i s e) fun a ha => ⟨upd_ne (ne i s v a e e1 ha), rfl⟩
    refine r1.base fun a ha => ?_
    have ha' : Ow H v s a := (Ow.frame r fun b hbb => upd_ne (ne i s v b e e1 hbb)).mp ha
    have na := ne i s v a e e1 ha'
    have := (Ow.new r ha').1.1
    rw [upd_ne na] at this ⊢
    exact this
  · obtain ⟨v', ev, r, _⟩ := st.sl i s e1
    rw [q1] at ev; cases ev
    obtain ⟨w', ew, r2, _⟩ := st.sl j t e2
    rw [q2] at ew; cases ew
    exact st.dg i j s t v w a e1 e2 q1 q2 ((Ow.frame r fun b hbb => upd_ne (ne i s v b e1 q1 hbb)).mp o1) ((Ow.frame r2 fun b hbb => upd_ne (ne j t w b e2 q2 hbb)).mp o2)
  · have := hb i _ e; cases this
theorem comp2_of {K : PySem.W.Frag} {vs : List Nat} (ho : OwnTg K vs g t) (ho1 : OwnTg K vs1 g1 t1) : ∀ σ H Q, tD K [] W (eComp2 it vs t c it1 vs1 t1 c1 f) σ H Q → tLc2 (tI K [] W zH it) g (tT K [] WF c) (tI K [] WF zF it1) g1 (tT K [] WF c1) (tD K [] WF f) vs vs1 σ H Q := by
  rintro σ H Q ⟨F0, H0, F, δ, st, p⟩
  refine ⟨F0, H0, F, δ, st, ?_⟩
  unfold eComp2 at p
  cases e1 : it δ with
  | bad => rw [e1] at p; exact p.elim
  | er x => rw [e1] at p; exact fun F1 H1 g1 => p F1 H1 g1
  | ok ds =>
    rw [e1] at p
    simp only [Rs.bind] at p
    intro J F1 H1 g1 j D hD
    cases e2 : compL2 t c it1 vs1 t1 c1 f (wipeE δ vs) ds with
    | bad => rw [e2] at p; exact p.elim
    | er x => rw [e2] at p; exact p.elim
    | ok total =>
      rw [e2] at p
      dsimp only at p
      split at p
      · rename_i hlen
        have hDH : H D = none := Same.free g1.hh hD
        refine ⟨fun i m H => m = ds.length - i ∧ i ≤ ds.length ∧ ∃ F' acc ys zs, Grow F1 H1 F' H ∧ H D = some (.lst acc) ∧ F' D = none ∧ RpA K F' acc ys ∧ compL2 t c it1 vs1 t1 c1 f (wipeE δ vs) (ds.drop i) = .ok zs ∧ ys ++ zs = total,
          ⟨_, rfl, Nat.zero_le _, F1, [], [], total, Grow.newO g1.sm hD, upd_same, Same.none g1.sm hD, .nil, e2, rfl⟩, ?_⟩
        rintro i m H2 ⟨rfl, hi, F', acc, ys, zs, g2, hd2, hf2, ra, ec, et⟩
        have pz : zH F1 H1 F' H2 := ⟨g2.ff g1.sm, g2.hh⟩
        by_cases hlt : i < ds.length
        · have hd : ds[i]? = some ds[i] := List.getElem?_eq_getElem hlt
          rw [compL2_drop hd] at ec
          refine .inr ⟨j.go i F' H2 pz g2.sm hlt, fun H => ∃ F' acc ys zs, Grow F1 H1 F' H ∧ H D = some (.lst acc) ∧ F' D = none ∧ RpA K F' acc ys ∧ compL2 t c it1 vs1 t1 c1 f (wipeE δ vs) (ds.drop (i + 1)) = .ok zs ∧ ys ++ zs = total,
            fun H' h => ⟨ds.length - (i + 1), by omega, rfl, hlt, h⟩, fun x H3 y => ?_⟩
          obtain ⟨F3, g3, rx⟩ := j.yld i _ F' H2 x H3 pz g2.sm hd y
          have g13 := g2.trans g3
          have hd3 : H3 D = some (.lst acc) := g3.hh _ _ hd2
          have hf3 : F3 D = none := (g3.ag _ _ hd2).trans hf2
          have st3 : Stt K [] (fun q => if q = D then none else F0 q) (upd H0 D (.lst acc)) F3 H3 (L2.wipe σ vs) (wipeE δ vs) := ((st.grow g1).rebase hD g13 hd3 hf3).wipe vs
          cases et1 : t (.im ds[i]) (wipeE δ vs) with
          | none => rw [et1] at ec; cases ec
          | some δ0 =>
            rw [et1] at ec
            refine ho _ _ F3 H3 _ _ δ0 x _ _ st3 rx et1 fun σ4 st4 w4 => ?_
            have st4 := st4.dropBor
            have hnb : ∀ (i : Nat) (s : Sl), (dropBor δ0)[i]? = some (some s) → s.bor = false := fun i s e => (dropBor_get e).2
            dsimp only at ec
            generalize dropBor δ0 = δ1 at st4 hnb ec
            refine ⟨w4.trans ?_, ?_⟩
            · exact wipe_wipe σ vs
            · refine tT_use st4 (fun k F5 H5 e5 g5 => ?_) (fun k F5 H5 e5 g5 => by simp only [e5] at ec; cases ec) (fun e5 => by simp only [e5] at ec; cases ec)
              simp only [e5] at ec
              have hd5 : H5 D = some (.lst acc) := g5.hh _ _ hd3
              have hf5 : F5 D = none := (g5.ag _ _ hd3).trans hf3
              cases k with
              | false =>
                simp only [Bool.false_eq_true, if_false]
                exact ⟨F5, acc, ys, zs, g13.trans g5, hd5, hf5, RpA.mono ((g3.trans g5).ff g2.sm) _ _ ra, ec, et⟩
              | true =>
                simp only [if_true]
                have st5 := st4.grow g5
                refine ⟨_, _, F5, δ1, st5, ?_⟩
                cases e6 : it1 δ1 with
                | bad => rw [e6] at ec; cases ec
                | er x => rw [e6] at ec; cases ec
                | ok es =>
                  rw [e6] at ec
                  dsimp only at ec
                  cases e7 : compL t1 c1 f (wipeE δ1 vs1) es with
                  | bad => rw [e7] at ec; cases ec
                  | er x => rw [e7] at ec; cases ec
                  | ok xs =>
                    rw [e7] at ec
                    dsimp only at ec
                    cases e8 : compL2 t c it1 vs1 t1 c1 f (wipeE δ vs) (ds.drop (i + 1)) with
                    | bad => rw [e8] at ec; cases ec
                    | er x => rw [e8] at ec; cases ec
                    | ok rest =>
                      rw [e8] at ec
                      simp only [Rs.bind] at ec
                      cases ec
                      intro J1 F6 H6 g6 j1
                      have gA := (g13.trans g5).trans g6
                      have st6 := st5.grow g6
                      have hd6 : H6 D = some (.lst acc) := g6.hh _ _ hd5
                      have hf6 : F6 D = none := (g6.ag _ _ hd5).trans hf5
                      refine ⟨fun l m H => m = es.length - l ∧ l ≤ es.length ∧ ∃ F' acc ys zs, Grow F1 H1 F' H ∧ Stt K [] (fun q => if q = D then none else F0 q) (upd H0 D (.lst acc)) F' H σ4 δ1 ∧ Same F6 F' ∧ H D = some (.lst acc) ∧ F' D = none ∧ RpA K F' acc ys ∧ compL t1 c1 f (wipeE δ1 vs1) (es.drop l) = .ok zs ∧ ys ++ (zs ++ rest) = total,
                        ⟨_, rfl, Nat.zero_le _, F6, acc, ys, xs, gA, st6, Same.refl F6, hd6, hf6, RpA.mono (((g3.trans g5).trans g6).ff g2.sm) _ _ ra, e7, et⟩, ?_⟩
                      rintro l m H7 ⟨rfl, hl, F7, acc7, ys7, zs7, g7, st7, s7, hd7, hf7, ra7, ec7, et7⟩
                      have pz7 : zF F6 H6 F7 H7 := s7
                      by_cases hlt7 : l < es.length
                      · have hdl : es[l]? = some es[l] := List.getElem?_eq_getElem hlt7
                        rw [compL_drop hdl] at ec7
                        refine .inr ⟨j1.go l F7 H7 pz7 g7.sm hlt7, fun H => ∃ F' acc ys zs, Grow F1 H1 F' H ∧ Stt K [] (fun q => if q = D then none else F0 q) (upd H0 D (.lst acc)) F' H σ4 δ1 ∧ Same F6 F' ∧ H D = some (.lst acc) ∧ F' D = none ∧ RpA K F' acc ys ∧ compL t1 c1 f (wipeE δ1 vs1) (es.drop (l + 1)) = .ok zs ∧ ys ++ (zs ++ rest) = total,
                          fun H' h => ⟨es.length - (l + 1), by omega, rfl, hlt7, h⟩, fun x7 H8 y7 => ?_⟩
                        obtain ⟨F8, g8, rx8⟩ := j1.yld l _ F7 H7 x7 H8 pz7 g7.sm hdl y7
                        have st8 : Stt K [] (fun q => if q = D then none else F0 q) (upd H0 D (.lst acc7)) F8 H8 (L2.wipe σ4 vs1) (wipeE δ1 vs1) := (st7.grow g8).wipe vs1
                        have hd8 : H8 D = some (.lst acc7) := g8.hh _ _ hd7
                        have hf8 : F8 D = none := (g8.ag _ _ hd7).trans hf7
                        cases et8 : t1 (.im es[l]) (wipeE δ1 vs1) with
                        | none => rw [et8] at ec7; cases ec7
                        | some δ2 =>
                          rw [et8] at ec7
                          refine ho1 _ _ F8 H8 _ _ δ2 x7 _ _ st8 rx8 et8 fun σ9 st9 w9 => ⟨w9.trans ?_, ?_⟩
                          · exact wipe_wipe σ4 vs1
                          · refine tT_use st9 (fun k F9 H9 e9 g9 => ?_) (fun k F5 H5 e9 g5 => by simp only [e9] at ec7; cases ec7) (fun e9 => by simp only [e9] at ec7; cases ec7)
                            simp only [e9] at ec7
                            have hd9 : H9 D = some (.lst acc7) := g9.hh _ _ hd8
                            have hf9 : F9 D = none := (g9.ag _ _ hd8).trans hf8
                            cases k with
                            | false =>
                              simp only [Bool.false_eq_true, if_false]
                              exact ⟨F9, acc7, ys7, zs7, (g7.trans g8).trans g9, (st7.grow g8).grow g9, s7.trans ((g8.trans g9).ff g7.sm), hd9, hf9, RpA.mono ((g8.trans g9).ff g7.sm) _ _ ra7, ec7, et7⟩
                            | true =>
                              simp only [if_true]
                              refine tD_use (st9.grow g9) (fun s v F10 H10 e10 g10 r10 => ?_) (fun k F5 H5 e10 g5 => by simp only [e10] at ec7; cases ec7) (fun e10 => by simp only [e10] at ec7; cases ec7)
                              simp only [e10] at ec7
                              cases s with
                              | im yv =>
                                simp only at ec7
                                cases e11 : compL t1 c1 f (wipeE δ1 vs1) (es.drop (l + 1)) with
                                | ok more =>
                                  rw [e11] at ec7
                                  simp only [Rs.bind] at ec7
                                  cases ec7
                                  have hd10 : H10 D = some (.lst acc7) := g10.hh _ _ hd9
                                  have hf10 : F10 D = none := (g10.ag _ _ hd9).trans hf9
                                  have gB := ((g7.trans g8).trans g9).trans g10
                                  have ff := ((g8.trans g9).trans g10).ff g7.sm
                                  have st10 := ((st7.grow g8).grow g9).grow g10
                                  have hln : ys7.length < total.length := by rw [← et7]; simp
                                  refine ⟨acc7, hd10, by rw [ra7.length, sizeLine_eq]; omega, F10, _, ys7 ++ [yv], more, ⟨fun b o q => ?_, fun b o q => ?_, gB.ag⟩, ?_, s7.trans ff, upd_same, hf10, (RpA.mono ff _ _ ra7).append (.cons r10 .nil), rfl, by rw [← et7]; simp⟩
                                  · rw [upd_ne (ne_of_none q hf10)]; exact gB.sm b o q
                                  · rw [upd_ne (ne_of_none q hD)]; exact gB.hh b o q
                                  · exact st10.chg hf10 hnb
                                | er x => rw [e11] at ec7; cases ec7
                                | bad => rw [e11] at ec7; cases ec7
                              | _ => cases ec7
                      · have e : l = es.length := by omega
                        subst e
                        rw [List.drop_length] at ec7
                        cases ec7
                        exact .inl ⟨j1.stop F7 H7 pz7 g7.sm, F7, acc7, ys7, rest, g7, hd7, hf7, ra7, rfl, by rw [← et7]; simp⟩
        · have e : i = ds.length := by omega
          subst e
          rw [List.drop_length] at ec
          cases ec
          refine .inl ⟨j.stop F' H2 pz g2.sm, p (.ref D) F' H2 (g1.trans g2) ⟨D, acc, rfl, hDH, hf2, hd2, ?_⟩⟩
          rw [← et, List.append_nil]
          exact ra
      · exact p.elim
theorem pd_lc2 {vs : List Nat} (hc : X.calm = true) (hN : X.N.Nodup) (hi : PDI X [] W zH tg iter it) (ok : BlkOk X.N X.env.scope scope own) (ho : OwnTg X.K (own.map (·.2)) g t) (hv1 : ∀ i ∈ vs1, i ∈ own.map (·.2)) (ho1 : OwnTg X.K vs1 g1 t1)
    (hg : ∀ (s : Shared) (H : Hp) (C : Addr) (cl : List (Str × Addr)) (fp : List Addr), PG (X.blk s H scope (compEnvC scope cl C X.env) fp) tg g)
    (ht : ∀ (s : Shared) (H : Hp) (C : Addr) (cl : List (Str × Addr)) (fp : List Addr), PDTs (X.blk s H scope (compEnvC scope cl C X.env) fp) [] WF ifs c)
    (hi1 : ∀ (s : Shared) (H : Hp) (C : Addr) (cl : List (Str × Addr)) (fp : List Addr), PDI (X.blk s H scope (compEnvC scope cl C X.env) fp) [] WF zF tg1 iter1 it1)
    (hg1 : ∀ (s : Shared) (H : Hp) (C : Addr) (cl : List (Str × Addr)) (fp : List Addr), PG (X.blk s H scope (compEnvC scope cl C X.env) fp) tg1 g1)
    (ht1 : ∀ (s : Shared) (H : Hp) (C : Addr) (cl : List (Str × Addr)) (fp : List Addr), PDTs (X.blk s H scope (compEnvC scope cl C X.env) fp) [] WF ifs1 c1)
    (he : ∀ (s : Shared) (H : Hp) (C : Addr) (cl : List (Str × Addr)) (fp : List Addr), PD (X.blk s H scope (compEnvC scope cl C X.env) fp) [] WF elt f)
    (hs : ∀ x, foldedSetIterable iter X.env x = pure x := by intro _; rfl) (hs1 : ∀ env x, foldedSetIterable iter1 env x = pure x := by intro _ _; rfl) (hvs : own.map (·.2) = vs := by rfl) : PD X [] W (.ListComp elt [⟨tg, iter, ifs, 0⟩, ⟨tg1, iter1, ifs1, 0⟩] scope pos) (eComp2 it vs t c it1 vs1 t1 c1 f) := by
  subst hvs
  exact PE.imp (pe_lc2 hc hN hi ok hv1 hg ht hi1 hg1 ht1 he hs hs1) (comp2_of ho ho1)
theorem pds_setLc2 {vs : List Nat} {i : Nat} {y : Str} {py spos : Pos} (hc : X.calm = true) (hN : X.N.Nodup) (hsw : swapsWith (.ListComp elt [⟨tg, iter, ifs, 0⟩, ⟨tg1, iter1, ifs1, 0⟩] scope pos) (some (.Name y py)) spos.line X.env = pure true)
    (hi : PDI X [] W zH tg iter it) (ok : BlkOk X.N X.env.scope scope own) (ho : OwnTg X.K (own.map (·.2)) g t) (hv1 : ∀ i ∈ vs1, i ∈ own.map (·.2)) (ho1 : OwnTg X.K vs1 g1 t1)
    (hg : ∀ (s : Shared) (H : Hp) (C : Addr) (cl : List (Str × Addr)) (fp : List Addr), PG (X.blk s H scope (compEnvC scope cl C X.env) fp) tg g)
    (ht : ∀ (s : Shared) (H : Hp) (C : Addr) (cl : List (Str × Addr)) (fp : List Addr), PDTs (X.blk s H scope (compEnvC scope cl C X.env) fp) [] WF ifs c)
    (hi1 : ∀ (s : Shared) (H : Hp) (C : Addr) (cl : List (Str × Addr)) (fp : List Addr), PDI (X.blk s H scope (compEnvC scope cl C X.env) fp) [] WF zF tg1 iter1 it1)
    (hg1 : ∀ (s : Shared) (H : Hp) (C : Addr) (cl : List (Str × Addr)) (fp : List Addr), PG (X.blk s H scope (compEnvC scope cl C X.env) fp) tg1 g1)
    (ht1 : ∀ (s : Shared) (H : Hp) (C : Addr) (cl : List (Str × Addr)) (fp : List Addr), PDTs (X.blk s H scope (compEnvC scope cl C X.env) fp) [] WF ifs1 c1)
    (he : ∀ (s : Shared) (H : Hp) (C : Addr) (cl : List (Str × Addr)) (fp : List Addr), PD (X.blk s H scope (compEnvC scope cl C X.env) fp) [] WF elt f)
    (hy : X.N[i]? = some y := by rfl) (hyl : X.env.scope.names.lookup y = some .local := by rfl)
    (hs : ∀ x, foldedSetIterable iter X.env x = pure x := by intro _; rfl) (hs1 : ∀ env x, foldedSetIterable iter1 env x = pure x := by intro _ _; rfl) (hvs : own.map (·.2) = vs := by rfl) : PDS X [] W (.Assign [.Name y py] (.ListComp elt [⟨tg, iter, ifs, 0⟩, ⟨tg1, iter1, ifs1, 0⟩] scope pos) spos) (sAsg (eComp2 it vs t c it1 vs1 t1 c1 f) (gN i)) := by
  subst hvs
  exact PS.imp (ps_setLc2 hc hN hy hyl hsw hi ok hv1 hg ht hi1 hg1 ht1 he hs hs1) fun E σ H q => by
    obtain ⟨F0, H0, F, δ, st, p⟩ := q
    refine comp2_of (K := X.K) (W := W) (it := it) (it1 := it1) (c := c) (c1 := c1) (f := f) ho ho1 σ H (fun x H1 => gName i x σ H1 E.nx) ?_
    refine tD_use st (fun s v F1 H1 e1 g1 r1 => ?_) (fun x F1 H1 e1 g1 => by simp only [sAsg, e1] at p; exact p σ F1 H1 (st.grow g1) (g1.ff st.sm)) (fun e1 => by simp only [sAsg, e1] at p; exact p)
    simp only [sAsg, e1] at p
    cases e2 : gN i s δ with
    | none => rw [e2] at p; exact p.elim
    | some δ' =>
      rw [e2] at p
      exact tG_name xiN v σ H1 _ ⟨F0, H0, F, H, F1, δ, s, δ', st, g1, r1, e2, fun σ' F' st' s' => p σ' F' H1 st' s'⟩
end
end DL

namespace DL
open PySem PySem.Spec PyProof.Rows L2
/-! ### list.index of numbers -/
def mIdx (ds : List D) (b : Sl) : Option Sl := match b with
  | .im (.int i) => (match intsOf ds with
    | some ns => if i ∈ ns then some (.im (.int (ns.idxOf i : Nat))) else none
    | none => none)
  | _ => none
def eIdx (f g : En → Rs Sl) : En → Rs Sl := fun δ => (f δ).bind fun a => match lstOf a with
  | some ds => (g δ).bind fun b => ofO (mIdx ds b)
  | none => .bad
theorem ints_flat (ns : List Int) : (ns.map V.int).all flatV = true := by
  rw [List.all_map, List.all_eq_true]; intro n hn; rfl
theorem idx_spec {i : Int} : ∀ {ns : List Int}, i ∈ ns → (ns.map V.int)[ns.idxOf i]? = some (.int i) ∧ ∀ (m : Nat) (z : V), m < ns.idxOf i → (ns.map V.int)[m]? = some z → eqV z (.int i) = false
  | [], h => by cases h
  | n :: ns, h => by
    by_cases e : n = i
    · subst e
      rw [List.idxOf_cons_self]
      exact ⟨rfl, fun m z hm => absurd hm (by omega)⟩
    · have hm : i ∈ ns := by
        rcases List.mem_cons.mp h with h | h
        · exact absurd h.symm e
        · exact h
      obtain ⟨h1, h2⟩ := idx_spec hm
      have ei : (n :: ns).idxOf i = ns.idxOf i + 1 := by
        rw [List.idxOf_cons]
        have : (n == i) = false := by simpa using e
        rw [this]; rfl
      rw [ei]
      refine ⟨by simpa using h1, fun m z hlt hz => ?_⟩
      cases m with
      | zero =>
        simp at hz
        subst hz
        show decide (n = i) = false
        exact decide_eq_false e
      | succ m => exact h2 m z (by omega) (by simpa using hz)
section
variable {X : Cx} {xi : Xi} {W : WX} {e e2 : Expr} {f g : En → Rs Sl} {pos apos : Pos}
theorem pd_index (ho : PD X xi W e f) (he : PD X xi W e2 g)
    (hbase : attributeBase e "index" X.env (eval e X.env) = eval e X.env := by rfl)
    (hfew : ((backTo pos (starEach [e2] X.env)).all (fun x => !x.1) && (backToKw pos (keywordEach [] X.env)).all (fun x => x.1.isSome)
      && decide (([e2] : List Expr).length + ([] : List Keyword).length + (if ([] : List Keyword).isEmpty then 0 else 1) < 30)) = true := by rfl)
    (hline : (apos.endLine == pos.line) = true := by rfl) (hs : starEach [e2] X.env = (false, eval e2 X.env) :: starEach [] X.env := by rfl) (hplain : (backTo pos (starEach [] X.env)).any (·.1) = false := by rfl) :
    PD X xi W (.Call (.Attribute e "index" apos) [e2] [] pos) (eIdx f g) := by
  refine PE.imp (pe_bm PySem.F.plainAttrs_list PySem.F.slot_list_index PySem.F.type_list_index mt_index ho (pa_cons he pa_nil hs) hbase hfew hline hs hplain) ?_
  rintro σ H Q ⟨F0, H0, F, δ, st, p⟩
  refine tD_use st (fun x v F1 H1 e1 g1 r1 => ?_) (fun x F1 H1 e1 g1 => by simp only [eIdx, e1, Rs.bind] at p; exact p F1 H1 g1) (fun e1 => by simp only [eIdx, e1, Rs.bind] at p; exact p)
  simp only [eIdx, e1, Rs.bind] at p
  cases el : lstOf x with
  | none => rw [el] at p; exact p.elim
  | some ds =>
    rw [el] at p
    dsimp only at p
    obtain ⟨q0, xs0, rfl, hT0, rr0⟩ := RdR.lst g1.sm (RepR.rd r1) el
    refine ⟨.inl ⟨rfl, xs0, hT0⟩, ?_⟩
    refine tD_use (st.grow g1) (fun y w F2 H2 e2 g2 r2 => ?_) (fun x F2 H2 e2 g2 => by simp only [e2, Rs.bind] at p; exact p F2 H2 (g1.trans g2)) (fun e2 => by simp only [e2, Rs.bind] at p; exact p)
    simp only [e2, Rs.bind] at p
    cases em : mIdx ds y with
    | none => rw [em] at p; exact p.elim
    | some s =>
      rw [em] at p
      unfold mIdx at em
      split at em
      · rename_i i
        split at em
        · rename_i ns hns
          split at em
          · rename_i hi
            cases em
            have r2 : Rp X.K F2 w (.int i) := r2
            cases r2
            have hds := intsOf_eq hns
            subst hds
            have hxs := rr0.ofInts
            subst hxs
            obtain ⟨h1, h2⟩ := idx_spec hi
            exact ⟨q0, _, _, ns.idxOf i, .int i, rfl, rfl, same_l g2.hh hT0, rfl, ints_flat ns, h1, by show (i == i) = true; simp, h2, p _ F2 H2 (g1.trans g2) (.int _)⟩
          · cases em
        · cases em
      · cases em
end
end DL

namespace DL
open PySem PySem.Spec PyProof.Rows L2
/-! ### the sum of a tuple -/
section
variable {prog : Program} {w : World} {A : Around} {E : Value → Shared → Prop} {s : Shared} {l : Addr} {its : List Value} {ns : List Int} {Q : Value → Shared → Prop}
theorem sum_tup (hh : A.handled = none) (hl : s.heap.IsTuple l its.toArray) (hi : IntsAre its ns)
    (h : ∀ h' tk t', (∀ b o, s.heap.get? b = some o → h'.get? b = some o) → Q (.int ns.sum t') { s with heap := h', toks := tk }) : wpAny (model prog w) A (call (.builtin "sum") [.ref l]) Q E s := by
  obtain ⟨xs, e⟩ := hi.allInts.items
  have hn : numsOf (intItems xs).toList = ns := by rw [← e]; exact hi.numsOf
  rw [nums_intItems] at hn
  rw [e] at hl
  have hlt : l < s.heap.objs.size := by obtain ⟨_, e, _⟩ := hl; exact Heap.lt_size e
  refine call_sum_walkG (wpAny_pyIter_tuple hl ?_)
  refine ⟨_, _, _, _, _, _, numAt xs, rfl, Walks.tuple (A := A.in1) hh _ l (Nat.ne_of_lt hlt) (intItems xs), ⟨⟨_, Heap.get?_push_size _ rfl, rfl, rfl⟩, hl.push _⟩, (fun b hb => ?_), (fun _ _ => intItems_at), fun h' tk t' hk => ?_⟩
  · show b < (s.heap.push _).objs.size
    rw [Heap.size_push]
    rcases List.mem_cons.mp hb with rfl | hb
    · exact Nat.lt_succ_self _
    · rcases List.mem_cons.mp hb with rfl | hb
      · exact Nat.lt_succ_of_lt hlt
      · cases hb
  · have := h h' tk t' (fun b o e => hk b o (fun hb => absurd (Heap.lt_size e) ((List.mem_singleton.mp hb) ▸ Nat.lt_irrefl _)) (Heap.get?_push_of_some _ e))
    have hsz : (intItems xs).size = xs.size := by simp [intItems]
    rw [hsz, preSum_eq, List.take_of_length_le (by simp), hn]; exact this
end
def mSumA : List Sl → Option Sl
  | [a] => (match tupOf a with
    | some ds => (intsOf ds).map fun ns => .im (.int ns.sum)
    | none => mSum [a])
  | _ => none
section
variable {X : Cx}
theorem cr_sumT (hc : X.calm = true) : CallR X (.builtin "sum") (fun vs H Q => ∃ (a : Addr) (ns : List Int), vs = [V.ref a] ∧ SqT X.K H a (ns.map V.int) ∧ Q (.int ns.sum) H) := by
  intro pins s σ H vs us Q I r h
  obtain ⟨a, ns, rfl, hs, q⟩ := h
  obtain ⟨its, rv, hl, _⟩ := I.tuple hs
  rw [Vals.ref1 r]
  exact sum_tup (I.ok.hd hc) hl rv.ints fun h' tk t' hk => ⟨.int _, H, I.kept hk, ⟨_, rfl⟩, q⟩
theorem c_sumA (hc : X.calm = true) : CallR X (.builtin "sum") (rC X.K mSumA) := by
  have h1 := cr_sumT (X := X) hc
  have h2 := c_sum (X := X) hc
  intro pins s σ H vs us Q I r h
  obtain ⟨F, as, sl, sm, rr, e, q⟩ := h
  match as, rr, e with
  | [a], rr, e =>
    unfold mSumA at e
    dsimp only at e
    cases et : tupOf a with
    | none =>
      rw [et] at e
      exact h2 pins s σ H vs us Q I r ⟨F, [a], sl, sm, rr, e, q⟩
    | some ds =>
      rw [et] at e
      obtain ⟨ns, hns, rfl⟩ := Option.map_eq_some_iff.mp e
      have hds := intsOf_eq hns
      subst hds
      obtain ⟨v, rfl, ra⟩ := rr.one
      obtain ⟨p, xs, rfl, hT, rx⟩ := RdR.tup sm ra et
      have hx := rx.ofInts
      subst hx
      exact h1 pins s σ H _ us Q I r ⟨p, ns, rfl, hT, q _ F H (Grow.refl sm) (.int _)⟩
end
end DL

namespace DL
open PySem PySem.Spec PyProof.Rows L2
/-! ### len(set(list of numbers)) -/
def ddN (ns : List Int) : List Int := PyProof.Rows.firstMet (fun i => ns.getD i 0) ns.length
def mLenSet (s : Sl) : Option Sl := (lstOf s).bind fun ds => (intsOf ds).bind fun ns => if ns.length ≤ 4000 then some (.im (.int ((ddN ns).length : Nat))) else none
def tLenSetD (K : PySem.W.Frag) (ta : TE) : TE := fun σ H Q => ta σ H fun x H1 => ∃ (l : Addr) (ns : List Int), x = .ref l ∧ SqL K H1 l (ns.map V.int) ∧ ns.length ≤ 4000 ∧ Q (.int ((ddN ns).length : Nat)) H1
theorem pe_lenSetD {X : Cx} {a : Expr} {ta : TE} {p p2 q pos : Pos} (hg : Gl X "len") (hm : X.mg "len" = none) (hg2 : Gl X "set") (hm2 : X.mg "set" = none) (ha : PE X a ta) (hc : X.calm = true := by rfl)
    (na : starEach [a] X.env = (false, eval a X.env) :: starEach [] X.env := by rfl) : PE X (.Call (.Name "len" p) [.Call (.Name "set" p2) [a] [] q] [] pos) (tLenSetD X.K ta) := by
  refine ⟨fun pins s σ H Q I h => ?_⟩
  refine Call_ (ld_blt I hg hm boot_len ?_)
  refine PyProof.Rows.callWith_builtin1 (PyProof.Rows.args_cons ?_ rfl) rfl rfl
  refine Call_ (ld_blt I hg2 hm2 boot_set ?_)
  refine PyProof.Rows.callWith_type1 (PyProof.Rows.args_cons (thn (ha.run pins s σ H _ I h) fun v s1 ⟨x, H1, I1, r1, q1⟩ => PyProof.Rows.args_nil ?_) na) na rfl
  obtain ⟨l, ns, rfl, hq, hl, q1⟩ := q1
  cases r1
  obtain ⟨its, r, pl, hz⟩ := I1.list hq
  have hlen : its.toArray.size = ns.length := by rw [List.size_toArray, ← r.length, List.length_map]
  refine call_set_list (I1.ok.hd hc) pl.isList (by simpa using RZ.intsAre_vals r) (by rw [hlen]; unfold scanBound; omega) fun h' tk hS hk => ?_
  refine PyProof.Rows.args_nil ?_
  rw [hlen] at hS
  have hle := PyProof.Rows.firstMet_length_le (fun i => ns.getD i 0) ns.length
  obtain ⟨o, es, ep, t, ho, hex, hd, _, _, _, hf, hn⟩ := hS
  have I2 : Inv X pins σ H1 { s1 with heap := h', toks := tk } := I1.kept fun b o e => hk b o (Heap.lt_size e) e
  exact call_len_set ho hex hd hf (by rw [hn] <;> omega) ⟨.int ((ddN ns).length : Nat), H1, I2.tok _, ⟨_, by rw [hn]; rfl⟩, q1⟩
section
variable {X : Cx} {xi : Xi} {W : WX} {e : Expr} {f g : En → Rs Sl} {pos : Pos}
theorem pd_lenSet {p p2 q : Pos} (hg : Gl X "len") (hm : X.mg "len" = none) (hg2 : Gl X "set") (hm2 : X.mg "set" = none) (he : PD X xi W e f) (hc : X.calm = true := by rfl)
    (na : starEach [e] X.env = (false, eval e X.env) :: starEach [] X.env := by rfl) : PD X xi W (.Call (.Name "len" p) [.Call (.Name "set" p2) [e] [] q] [] pos) (eUn mLenSet f) := by
  refine PE.imp (pe_lenSetD hg hm hg2 hm2 he hc na) ?_
  rintro σ H Q ⟨F0, H0, F, δ, st, p⟩
  refine tD_use st (fun x v F1 H1 e1 g1 r1 => ?_) (fun c F1 H1 e1 g1 => by simp only [eUn, e1, Rs.bind] at p; exact p F1 H1 g1) (fun e1 => by simp only [eUn, e1, Rs.bind] at p; exact p)
  simp only [eUn, e1, Rs.bind] at p
  cases em : mLenSet x with
  | none => rw [em] at p; exact p.elim
  | some s =>
    rw [em] at p
    unfold mLenSet at em
    obtain ⟨ds, h1, h2⟩ := Option.bind_eq_some_iff.mp em
    obtain ⟨ns, h3, h4⟩ := Option.bind_eq_some_iff.mp h2
    split at h4
    · rename_i hle
      cases h4
      obtain ⟨q0, xs0, rfl, hT0, rr0⟩ := RdR.lst g1.sm (RepR.rd r1) h1
      have hds := intsOf_eq h3
      subst hds
      have hxs := rr0.ofInts
      subst hxs
      exact ⟨q0, ns, rfl, hT0, hle, p _ F1 H1 g1 (.int _)⟩
    · cases h4
/-! ### x = ys.pop(k) -/
/-- the place that pop takes -/
def popG (o : Option (Option Sl)) (r : Rs Sl) : Rs (D × List D) := match o with
  | some (some (.ml ds)) => (match r with
    | .ok (.im (.int k)) => (match ixN ds.length k with
      | some m => (match ds[m]? with
        | some d => if smI 4611686018427387904 k = true then .ok (d, ds.eraseIdx m) else .bad
        | none => .bad)
      | none => .bad)
    | .er x => .er x
    | _ => .bad)
  | _ => .bad
def sPop (i j : Nat) (g : En → Rs Sl) : En → Out := fun δ => match popG δ[j]? (g δ) with
  | .ok (d, ds) => .nx ((δ.set j (some (.ml ds))).set i (some (.im d)))
  | .er x => .er x δ
  | .bad => .bad
def sAppPop (i j : Nat) (g : En → Rs Sl) : En → Out := fun δ => match δ[i]? with
  | some (some (.ml as)) => (match popG δ[j]? (g δ) with
    | .ok (d, ds) => if as.length < 16777216 ∧ i ≠ j then .nx ((δ.set j (some (.ml ds))).set i (some (.ml (as ++ [d])))) else .bad
    | .er x => .er x δ
    | .bad => .bad)
  | _ => .bad
theorem RpA.erase {K : PySem.W.Frag} {F : Hp} : ∀ {vs : List V} {ds : List D} (n : Nat), RpA K F vs ds → RpA K F (vs.eraseIdx n) (ds.eraseIdx n)
  | _, [], n, h => by cases h; exact .nil
  | _, d :: ds, 0, h => by
    cases h with
    | cons h1 h2 => exact h2
  | _, d :: ds, n + 1, h => by
    cases h with
    | cons h1 h2 => exact .cons h1 (h2.erase n)
theorem pds_pop {i j : Nat} {x : Str} {pos' : Pos} {ce : Expr} (hN : X.N.Nodup) (h : PE X ce (tBM X.K "list" rPopAt (tVar j) (tCons (tD X.K xi W g) tNil))) (hx : XiOk xi i) (hi : X.N[i]? = some x := by rfl) (hl : Loc X.env.scope x := by first | exact Or.inl rfl | exact Or.inr rfl)
    (hs : swapsWith ce (some (.Name x pos')) pos.line X.env = pure false := by rfl) (hf : X.fn x = true ∨ X.env.scope.names.lookup x = some .local := by first | exact .inl rfl | exact .inr rfl | assumption) : PDS X xi W (.Assign [.Name x pos'] ce pos) (sPop i j g) := by
  refine PS.imp (ps_set hN hi hl h hs hf) ?_
  rintro E σ H ⟨F0, H0, F, δ, st, p⟩
  unfold sPop at p
  cases e2 : δ[j]? with
  | none => rw [e2] at p; exact p.elim
  | some o =>
    cases o with
    | none => rw [e2] at p; exact p.elim
    | some s0 =>
      cases s0 with
      | ml ds =>
        rw [e2] at p
        obtain ⟨v, ev, ⟨pp, xs, rfl, n0, nF, hp, r⟩, _⟩ := st.sl j _ e2
        refine ⟨_, ev, .inl ⟨rfl, xs, SqL.of hp⟩, ?_⟩
        refine tD_use st (fun x v F1 H1 e1 g1 r1 => ?_) (fun x F1 H1 e1 g1 => by simp only [popG, e1] at p; exact p σ F1 H1 (st.grow g1) (g1.ff st.sm)) (fun e1 => by simp only [popG, e1] at p; exact p)
        simp only [popG, e1] at p
        cases x with
        | im d0 =>
          cases d0 with
          | int k =>
            simp only at p
            cases em : ixN ds.length k with
            | none => rw [em] at p; exact p.elim
            | some m =>
              rw [em] at p
              simp only at p
              cases ed : ds[m]? with
              | none => rw [ed] at p; exact p.elim
              | some d =>
                rw [ed] at p
                simp only at p
                by_cases hsm : smI 4611686018427387904 k = true
                · rw [if_pos hsm] at p
                  have r1 : Rp X.K F1 v (.int k) := r1
                  cases r1
                  have hsm2 := smI_lt.mp hsm
                  have hp1 := g1.hh _ _ hp
                  have rF := RpA.mono (g1.ff st.sm) _ _ r
                  obtain ⟨y, hy, ry⟩ := rF.get ed
                  have st1 := st.grow g1
                  refine ⟨pp, xs, k, m, y, rfl, rfl, hp1, by omega, by omega, by rw [r.length]; exact (ixN_seq em).1, hy, ?_⟩
                  have st2 := st1.mut e2 ev n0 ((g1.ag _ _ hp).trans nF) (rF.erase m)
                  exact p _ F1 _ (st2.set (Grow.refl st2.sm) ry rfl hx) (g1.ff st.sm)
                · rw [if_neg hsm] at p; exact p.elim
          | _ => exact p.elim
        | _ => exact p.elim
      | _ => rw [e2] at p; exact p.elim
theorem pds_appPop (i j : Nat) {ce : Expr} (h : PE X ce (tBM X.K "list" rAppend (tVar i) (tCons (tBM X.K "list" rPopAt (tVar j) (tCons (tD X.K xi W g) tNil)) tNil))) (hs : swapsWith ce none pos.line X.env = pure false := by rfl) : PDS X xi W (.Expr ce pos) (sAppPop i j g) := by
  refine PS.imp (ps_expr h hs) ?_
  rintro E σ H ⟨F0, H0, F, δ, st, p⟩
  unfold sAppPop at p
  split at p
  · rename_i as e3
    obtain ⟨vi, evi, ⟨pi, xi', rfl, n0i, nFi, hpi, ri⟩, _⟩ := st.sl i _ e3
    refine ⟨_, evi, .inl ⟨rfl, xi', SqL.of hpi⟩, ?_⟩
    cases e2 : δ[j]? with
    | none => rw [e2] at p; exact p.elim
    | some o =>
      cases o with
      | none => rw [e2] at p; exact p.elim
      | some s0 =>
        cases s0 with
        | ml ds =>
          rw [e2] at p
          obtain ⟨v, ev, ⟨pp, xs, rfl, n0, nF, hp, r⟩, _⟩ := st.sl j _ e2
          refine ⟨_, ev, .inl ⟨rfl, xs, SqL.of hp⟩, ?_⟩
          refine tD_use st (fun x v F1 H1 e1 g1 r1 => ?_) (fun x F1 H1 e1 g1 => by simp only [popG, e1] at p; exact p σ F1 H1 (st.grow g1) (g1.ff st.sm)) (fun e1 => by simp only [popG, e1] at p; exact p)
          simp only [popG, e1] at p
          cases x with
          | im d0 =>
            cases d0 with
            | int k =>
              simp only at p
              cases em : ixN ds.length k with
              | none => rw [em] at p; exact p.elim
              | some m =>
                rw [em] at p
                simp only at p
                cases ed : ds[m]? with
                | none => rw [ed] at p; exact p.elim
                | some d =>
                  rw [ed] at p
                  simp only at p
                  by_cases hsm : smI 4611686018427387904 k = true
                  · rw [if_pos hsm] at p
                    simp only at p
                    by_cases hl : as.length < 16777216 ∧ i ≠ j
                    · rw [if_pos hl] at p
                      have r1 : Rp X.K F1 v (.int k) := r1
                      cases r1
                      have hsm2 := smI_lt.mp hsm
                      have hp1 := g1.hh _ _ hp
                      have hpi1 := g1.hh _ _ hpi
                      have rF := RpA.mono (g1.ff st.sm) _ _ r
                      obtain ⟨y, hy, ry⟩ := rF.get ed
                      have st1 := st.grow g1
                      have hne : pi ≠ pp := by
                        intro q
                        subst q
                        exact hl.2 (st.dj i j _ _ pi e3 e2 rfl rfl evi ev)
                      refine ⟨pp, xs, k, m, y, rfl, rfl, hp1, by omega, by omega, by rw [r.length]; exact (ixN_seq em).1, hy, ?_⟩
                      have st2 := st1.mut e2 ev n0 ((g1.ag _ _ hp).trans nF) (rF.erase m)
                      refine ⟨pi, xi', y, rfl, rfl, by rw [upd_ne hne]; exact hpi1, by rw [ri.length, sizeLine_eq]; exact hl.1, ?_⟩
                      have e3' : (δ.set j (some (.ml (ds.eraseIdx m))))[i]? = some (some (.ml as)) := by rw [List.getElem?_set_ne (Ne.symm hl.2)]; exact e3
                      exact p _ F1 _ (st2.mut e3' evi n0i ((g1.ag _ _ hpi).trans nFi) ((RpA.mono (g1.ff st.sm) _ _ ri).append (.cons ry .nil))) (g1.ff st.sm)
                    · rw [if_neg hl] at p; exact p.elim
                  · rw [if_neg hsm] at p; exact p.elim
            | _ => exact p.elim
          | _ => exact p.elim
        | _ => rw [e2] at p; exact p.elim
  · exact p.elim
/-! ### xs.insert(k, y) -/
def sIns (i : Nat) (g f : En → Rs Sl) : En → Out := fun δ => match δ[i]? with
  | some (some (.ml ds)) => (match g δ with
    | .ok (.im (.int k)) => (match f δ with
      | .ok (.im d) => if smI 4611686018427387904 k = true ∧ 0 ≤ k ∧ ds.length < 16777216 then .nx (δ.set i (some (.ml (ds.take k.toNat ++ [d] ++ ds.drop k.toNat)))) else .bad
      | .er x => .er x δ
      | _ => .bad)
    | .er x => .er x δ
    | _ => .bad)
  | _ => .bad
abbrev rIns : V → List V → Hp → VK → Prop := fun x vs H Q => ∃ (l : Addr) (xs : List V) (i : Int) (y : V), x = .ref l ∧ vs = [.int i, y] ∧ H l = some (.lst xs) ∧ xs.length < sizeLine ∧ 0 ≤ i ∧ i < 2 ^ 63 ∧
    Q .non (upd H l (.lst (xs.take i.toNat ++ [y] ++ xs.drop i.toNat)))
theorem pds_insert (i : Nat) {ce : Expr} (h : PE X ce (tBM X.K "list" rIns (tVar i) (tCons (tD X.K xi W g) (tCons (tD X.K xi W f) tNil)))) (hs : swapsWith ce none pos.line X.env = pure false := by rfl) : PDS X xi W (.Expr ce pos) (sIns i g f) := by
  refine PS.imp (ps_expr h hs) ?_
  rintro E σ H ⟨F0, H0, F, δ, st, p⟩
  unfold sIns at p
  split at p
  · rename_i ds e2
    obtain ⟨v, ev, ⟨pp, xs, rfl, n0, nF, hp, r⟩, _⟩ := st.sl i _ e2
    refine ⟨_, ev, .inl ⟨rfl, xs, SqL.of hp⟩, ?_⟩
    refine tD_use st (fun x v F1 H1 e1 g1 r1 => ?_) (fun x F1 H1 e1 g1 => by rw [e1] at p; exact p σ F1 H1 (st.grow g1) (g1.ff st.sm)) (fun e1 => by rw [e1] at p; exact p)
    rw [e1] at p
    cases x with
    | im d0 =>
      cases d0 with
      | int k =>
        simp only at p
        refine tD_use (st.grow g1) (fun x w F2 H2 e3 g2 r2 => ?_) (fun x F2 H2 e3 g2 => by rw [e3] at p; exact p σ F2 H2 ((st.grow g1).grow g2) ((g1.trans g2).ff st.sm)) (fun e3 => by rw [e3] at p; exact p)
        rw [e3] at p
        cases x with
        | im d =>
          simp only at p
          by_cases hc : smI 4611686018427387904 k = true ∧ 0 ≤ k ∧ ds.length < 16777216
          · rw [if_pos hc] at p
            have r1 : Rp X.K F1 v (.int k) := r1
            cases r1
            have hsm2 := smI_lt.mp hc.1
            have g := g1.trans g2
            have hp2 := g.hh _ _ hp
            have rF := RpA.mono (g.ff st.sm) _ _ r
            have st2 := (st.grow g1).grow g2
            refine ⟨pp, xs, k, w, rfl, rfl, hp2, by rw [r.length, sizeLine_eq]; exact hc.2.2, hc.2.1, by omega, ?_⟩
            exact p σ F2 _ (st2.mut e2 ev n0 ((g.ag _ _ hp).trans nF) (((rF.take _).append (.cons r2 .nil)).append (rF.drop _))) (g.ff st.sm)
          · rw [if_neg hc] at p; exact p.elim
        | _ => exact p.elim
      | _ => exact p.elim
    | _ => exact p.elim
  · exact p.elim
end
end DL

namespace DL
open PySem PySem.Spec PyProof.Rows L2
/-! ### sorted of a list of triples of numbers whose first numbers differ -/
abbrev Tri : Type := Int × Int × Int
abbrev triD (p : Tri) : D := .tuple [.int p.1, .int p.2.1, .int p.2.2]
def triOf : D → Option Tri
  | .tuple [.int x, .int y, .int z] => some (x, y, z)
  | _ => none
def trisOf : List D → Option (List Tri)
  | [] => some []
  | d :: r => (triOf d).bind fun t => (trisOf r).map (t :: ·)
def ins3 (p : Tri) : List Tri → List Tri
  | [] => [p]
  | q :: r => if p.1 ≤ q.1 then p :: q :: r else q :: ins3 p r
def sort3 : List Tri → List Tri
  | [] => []
  | p :: r => ins3 p (sort3 r)
def rg3 (p : Tri) : Bool := decide (0 ≤ p.1 ∧ p.1 < 2000) && (decide (0 ≤ p.2.1 ∧ p.2.1 < 2000) && decide (0 ≤ p.2.2 ∧ p.2.2 < 2000))
def mSortedA : List Sl → Option Sl
  | [a] => (lstOf a).bind fun ds => match intsOf ds with
    | some ns => some (.ml ((sortI ns).map PyData.int))
    | none => (trisOf ds).bind fun ts => if ts.all rg3 = true ∧ (ts.map (·.1)).Nodup ∧ ts.length < 64 then some (.ml ((sort3 ts).map triD)) else none
  | _ => none
theorem triOf_eq {d : D} {t : Tri} (h : triOf d = some t) : d = triD t := by
  unfold triOf at h
  split at h
  · cases h; rfl
  · cases h
theorem trisOf_eq : ∀ {ds : List D} {ts : List Tri}, trisOf ds = some ts → ds = ts.map triD
  | [], ts, h => by cases h; rfl
  | d :: r, ts, h => by
    obtain ⟨t, h1, h2⟩ := Option.bind_eq_some_iff.mp h
    obtain ⟨ts', h3, rfl⟩ := Option.map_eq_some_iff.mp h2
    rw [triOf_eq h1, trisOf_eq h3]
    rfl
theorem trisOf_map : ∀ ts : List Tri, trisOf (ts.map triD) = some ts
  | [] => rfl
  | t :: ts => by
    show (triOf (triD t)).bind (fun t => (trisOf (ts.map triD)).map (t :: ·)) = _
    rw [trisOf_map ts]
    rfl
theorem ins3_perm (p : Tri) : ∀ l, (ins3 p l).Perm (p :: l)
  | [] => List.Perm.refl _
  | q :: r => by
    unfold ins3
    split
    · exact List.Perm.refl _
    · exact ((ins3_perm p r).cons q).trans (List.Perm.swap p q r)
theorem sort3_perm : ∀ l, (sort3 l).Perm l
  | [] => List.Perm.refl _
  | p :: r => (ins3_perm p (sort3 r)).trans ((sort3_perm r).cons p)
theorem ins3_pw (p : Tri) : ∀ l : List Tri, l.Pairwise (fun a b => a.1 ≤ b.1) → (ins3 p l).Pairwise (fun a b => a.1 ≤ b.1)
  | [], _ => by unfold ins3; simp
  | q :: r, h => by
    obtain ⟨h1, h2⟩ := List.pairwise_cons.mp h
    unfold ins3
    split
    · rename_i hle
      refine List.pairwise_cons.mpr ⟨fun b hb => ?_, h⟩
      rcases List.mem_cons.mp hb with rfl | hb
      · exact hle
      · have := h1 b hb; omega
    · rename_i hle
      refine List.pairwise_cons.mpr ⟨fun b hb => ?_, ins3_pw p r h2⟩
      rcases List.mem_cons.mp ((ins3_perm p r).mem_iff.mp hb) with rfl | hb
      · omega
      · exact h1 b hb
theorem sort3_pw : ∀ l : List Tri, (sort3 l).Pairwise (fun a b => a.1 ≤ b.1)
  | [] => List.Pairwise.nil
  | p :: r => ins3_pw p _ (sort3_pw r)
theorem sort3_one : ∀ {l m : List Tri}, l.Perm m → l.Pairwise (fun a b => a.1 ≤ b.1) → m.Pairwise (fun a b => a.1 ≤ b.1) → (l.map (·.1)).Nodup → l = m
  | [], m, p, _, _, _ => (List.nil_perm.mp p).symm
  | a :: l, [], p, _, _, _ => absurd p.length_eq (by simp)
  | a :: l, b :: m, p, h1, h2, hn => by
    obtain ⟨q1, q2⟩ := List.pairwise_cons.mp h1
    obtain ⟨q3, q4⟩ := List.pairwise_cons.mp h2
    rw [List.map_cons, List.nodup_cons] at hn
    have e : a = b := by
      rcases List.mem_cons.mp (p.mem_iff.mp List.mem_cons_self) with e | ha
      · exact e
      · rcases List.mem_cons.mp (p.symm.mem_iff.mp List.mem_cons_self) with e | hb
        · exact e.symm
        · exact absurd (List.mem_map.mpr ⟨b, hb, Int.le_antisymm (q3 a ha) (q1 b hb)⟩) hn.1
    subst e
    rw [sort3_one (List.perm_cons a |>.mp p) q2 q4 hn.2]
theorem RpA.perm {K : PySem.W.Frag} {F : Hp} {ys xs : List V} (p : ys.Perm xs) : ∀ {ds : List D}, RpA K F xs ds → ∃ es : List D, es.Perm ds ∧ RpA K F ys es := by
  induction p with
  | nil => intro ds h; exact ⟨ds, List.Perm.refl _, h⟩
  | cons x p ih =>
    intro ds h
    cases h with
    | cons h1 h2 =>
      obtain ⟨es, e1, e2⟩ := ih h2
      exact ⟨_ :: es, e1.cons _, .cons h1 e2⟩
  | swap x y l =>
    intro ds h
    cases h with
    | cons h1 h2 => cases h2 with
      | cons h3 h4 => exact ⟨_ :: _ :: _, List.Perm.swap _ _ _, .cons h3 (.cons h1 h4)⟩
  | trans p1 p2 ih1 ih2 =>
    intro ds h
    obtain ⟨es, e1, e2⟩ := ih2 h
    obtain ⟨fs, f1, f2⟩ := ih1 e2
    exact ⟨fs, f1.trans e1, f2⟩
theorem tri_tupI {K : PySem.W.Frag} {F H : Hp} {v : V} {p : Tri} (sm : Same F H) (r : Rp K F v (triD p)) : TupI K H v [p.1, p.2.1, p.2.2] := by
  cases r with
  | tup h1 h2 =>
    have e := RpA.ofInts (ns := [p.1, p.2.1, p.2.2]) h2
    subst e
    exact ⟨_, rfl, same_t sm h1⟩
theorem perm_tris : ∀ {es : List D} {ts : List Tri}, es.Perm (ts.map triD) → ∃ us : List Tri, us.Perm ts ∧ es = us.map triD := by
  intro es ts p
  have hm : ∀ d ∈ es, ∃ t ∈ ts, triD t = d := fun d hd => List.mem_map.mp (p.mem_iff.mp hd)
  obtain ⟨us, hu⟩ : ∃ us : List Tri, es = us.map triD := by
    clear p
    induction es with
    | nil => exact ⟨[], rfl⟩
    | cons d es ih =>
      obtain ⟨t, _, rfl⟩ := hm d (.head _)
      obtain ⟨us, rfl⟩ := ih fun x hx => hm x (.tail _ hx)
      exact ⟨t :: us, rfl⟩
  refine ⟨us, ?_, hu⟩
  subst hu
  have inv : ∀ l : List Tri, (l.map triD).filterMap triOf = l := fun l => by
    induction l with
    | nil => rfl
    | cons a l ih => rw [List.map_cons, List.filterMap_cons]; show a :: (l.map triD).filterMap triOf = _; rw [ih]
  have := p.filterMap triOf
  rwa [inv, inv] at this
section
variable {X : Cx}
theorem c_sortedA : CallR X (.builtin "sorted") (rC X.K mSortedA) := by
  have h1 := c_sorted (X := X)
  have h2 := cr_sortT (X := X) (d := 3) (B := 2000) (by decide)
  intro pins s σ H vs us Q I r h
  obtain ⟨F, as, sl, sm, rr, e, q⟩ := h
  match as, rr, e with
  | [a], rr, e =>
    unfold mSortedA at e
    obtain ⟨ds, e1, e2⟩ := Option.bind_eq_some_iff.mp e
    cases ei : intsOf ds with
    | some ns =>
      rw [ei] at e2
      refine h1 pins s σ H vs us Q I r ⟨F, [a], sl, sm, rr, ?_, q⟩
      unfold mSorted
      dsimp only
      rw [e1]
      show (intsOf ds).map _ = _
      rw [ei]
      exact e2
    | none =>
      rw [ei] at e2
      dsimp only at e2
      obtain ⟨ts, e3, e4⟩ := Option.bind_eq_some_iff.mp e2
      have hds := trisOf_eq e3
      subst hds
      by_cases hc : ts.all rg3 = true ∧ (ts.map (·.1)).Nodup ∧ ts.length < 64
      · rw [if_pos hc] at e4
        cases e4
        obtain ⟨v, rfl, ra⟩ := rr.one
        obtain ⟨p, xs, rfl, hT, rx⟩ := RdR.lst sm ra e1
        have hxl : xs.length = ts.length := by rw [rx.length, List.length_map]
        have each : ∀ {ys : List V} {us : List Tri}, RpA X.K F ys (us.map triD) → (∀ t ∈ us, rg3 t = true) → ∀ y ∈ ys, ∃ ns, TupI X.K H y ns ∧ ns.length = 3 ∧ TS.Bd 2000 ns := by
          intro ys us hr hg y hy
          obtain ⟨i, hi⟩ := List.mem_iff_getElem?.mp hy
          obtain ⟨d, hd, rd⟩ := hr.getV hi
          rw [List.getElem?_map] at hd
          obtain ⟨t, ht, rfl⟩ := Option.map_eq_some_iff.mp hd
          have hg' := hg t (List.mem_of_getElem? ht)
          unfold rg3 at hg'
          simp only [Bool.and_eq_true, decide_eq_true_eq] at hg'
          refine ⟨_, tri_tupI sm rd, rfl, fun n hn => ?_⟩
          simp only [List.mem_cons, List.not_mem_nil, or_false] at hn
          omega
        refine h2 pins s σ H _ us Q I r ⟨p, xs, rfl, hT, by omega, each rx (List.all_eq_true.mp hc.1), fun ys a hp hpw hn => ?_⟩
        obtain ⟨es, p1, r1⟩ := RpA.perm hp rx
        obtain ⟨us', p2, rfl⟩ := perm_tris p1
        have hus : ∀ t ∈ us', rg3 t = true := fun t ht => List.all_eq_true.mp hc.1 t (p2.mem_iff.mp ht)
        have pw : us'.Pairwise (fun a b => a.1 ≤ b.1) := by
          rw [List.pairwise_iff_getElem] at hpw ⊢
          intro i j hi hj hij
          have hyl : ys.length = us'.length := by rw [r1.length, List.length_map]
          have z := hpw i j (by omega) (by omega) hij
          have gi : (us'.map triD)[i]? = some (triD us'[i]) := by rw [List.getElem?_map, List.getElem?_eq_getElem hi]; rfl
          have gj : (us'.map triD)[j]? = some (triD us'[j]) := by rw [List.getElem?_map, List.getElem?_eq_getElem hj]; rfl
          obtain ⟨vi, hvi, ri⟩ := r1.get gi
          obtain ⟨vj, hvj, rj⟩ := r1.get gj
          rw [List.getElem?_eq_getElem (by omega)] at hvi hvj
          cases hvi
          cases hvj
          have z2 := z _ _ (tri_tupI sm ri) (tri_tupI sm rj)
          have bi := hus _ (List.getElem_mem hi)
          have bj := hus _ (List.getElem_mem hj)
          unfold rg3 at bi bj
          simp only [Bool.and_eq_true, decide_eq_true_eq] at bi bj
          have c : ∀ a b c : Int, TS.code 2000 [a, b, c] = a * 2000 ^ 2 + (b * 2000 ^ 1 + (c * 2000 ^ 0 + 0)) := fun _ _ _ => rfl
          rw [c, c] at z2
          omega
        have hnd : (us'.map (·.1)).Nodup := ((p2.map (·.1)).nodup_iff).mpr hc.2.1
        have e := sort3_one (p2.trans (sort3_perm ts).symm) pw (sort3_pw ts) hnd
        subst e
        exact q _ F _ (Grow.newO sm hn) ⟨a, _, rfl, hn, Same.none sm hn, upd_same, r1⟩
      · rw [if_neg hc] at e4; cases e4
end
end DL

namespace DL
open PySem PySem.Spec PyProof.Rows L2
/-! ### an own list is handed on for one expression alone: what comes back holds no list -/
def eTmp (i : Nat) (f : En → Rs Sl) : En → Rs Sl := fun δ => match f (fzS i δ) with
  | .ok (.im d) => if flatD d = true then .ok (.im d) else .bad
  | .er c => .er c
  | _ => .bad
theorem Rp.flat_any {K : PySem.W.Frag} {F F' : Hp} {v : V} {d : D} (h : Rp K F v d) (f : flatD d = true) : Rp K F' v d := by
  cases h with
  | non => exact .non
  | bl b => exact .bl b
  | int i => exact .int i
  | str x => exact .str x
  | lst _ _ => cases f
  | tup _ _ => cases f
theorem pd_tmp {X : Cx} {xi : Xi} {W : WX} {e : Expr} {f : En → Rs Sl} (i : Nat) (he : PD X xi W e f) : PD X xi W e (eTmp i f) := by
  refine PE.imp he ?_
  rintro σ H Q ⟨F0, H0, F, δ, st, p⟩
  obtain ⟨F', s, st'⟩ := st.fz i
  refine ⟨F0, H0, F', fzS i δ, st', ?_⟩
  unfold eTmp at p
  have gr : ∀ {F1 H1 : Hp}, Grow F' H F1 H1 → Grow F H F H1 := fun g => ⟨st.sm.trans g.hh, g.hh, fun _ _ _ => rfl⟩
  cases e1 : f (fzS i δ) with
  | ok s =>
    rw [e1] at p
    cases s with
    | im d =>
      dsimp only at p
      by_cases hf : flatD d = true
      · rw [if_pos hf] at p
        exact fun v F1 H1 g r => p v F H1 (gr g) (Rp.flat_any (show Rp X.K F1 v d from r) hf)
      · rw [if_neg hf] at p
        exact p.elim
    | _ => exact p.elim
  | er c =>
    rw [e1] at p
    exact fun F1 H1 g => p F H1 (gr g)
  | bad =>
    rw [e1] at p
    exact p.elim
end DL

namespace DL
open PySem PySem.Spec PyProof.Rows L2
/-! ### several except clauses, each with a name or without -/
abbrev HTS : Type := Addr → Value → Option Addr → TS
def offD (D : Ends) : Option Nat → Ends
  | none => D
  | some i => { nx := fun σ H => D.nx (σ.set i none) H, rt := D.rt, bk := fun σ H => D.bk (σ.set i none) H, ct := fun σ H => D.ct (σ.set i none) H }
def onS (σ : L2.St) (a : Addr) : Option Nat → L2.St
  | none => σ
  | some i => σ.set i (some (.ref a))
def wNam (K : PySem.W.Frag) (Wout : WX) (D : Ends) : List (Value × Option Nat × HTS) → WX
  | [] => Wout
  | (c, o, ts) :: r => fun cls d σ H => ∃ b, PySem.W.exmOne K cls c = some b ∧ (b = true → ∀ a, H a = none → ts a cls d (offD D o) (onS σ a o) H) ∧ (b = false → wNam K Wout D r cls d σ H)
inductive HdsN (X : Cx) : List ExceptHandler → List (Value × Option Nat × HTS) → Prop
  | nil : HdsN X [] []
  | named {x n : Str} {i : Nat} {c : Value} {ts : HTS} {b₀ : Stmt} {suite : List Stmt} {np p : Pos} {hds : List ExceptHandler} {l : List (Value × Option Nat × HTS)} (hc : Names X x c) (hi : X.N[i]? = some n) (hln : X.env.kindOf n = some .local)
      (hsu : ∀ (a : Addr) (oe : Obj) (cls : Value) (d : Option Addr) (pn : List (Addr × Obj)), L2N.Zn cls d oe → (∃ vs, oe.data = .fields vs) → PSs (X.suite a ((a, oe) :: pn)) (b₀ :: suite) (ts a cls d)) (r : HdsN X hds l) :
      HdsN X (.ExceptHandler (some (.Name x np)) (some n) (b₀ :: suite) p :: hds) ((c, some i, ts) :: l)
  | plain {x : Str} {c : Value} {ts : HTS} {b₀ : Stmt} {suite : List Stmt} {np p : Pos} {hds : List ExceptHandler} {l : List (Value × Option Nat × HTS)} (hc : Names X x c)
      (hsu : ∀ (a : Addr) (oe : Obj) (cls : Value) (d : Option Addr) (pn : List (Addr × Obj)), L2N.Zn cls d oe → (∃ vs, oe.data = .fields vs) → PSs (X.suite a ((a, oe) :: pn)) (b₀ :: suite) (ts a cls d)) (r : HdsN X hds l) :
      HdsN X (.ExceptHandler (some (.Name x np)) none (b₀ :: suite) p :: hds) ((c, none, ts) :: l)
section
variable {X : Cx} {body : List Stmt} {h₀ : ExceptHandler} {hds : List ExceptHandler} {l : List (Value × Option Nat × HTS)} {pos : Pos} {tb : WX → TS} {Wout : WX}
/-- an exception that has landed, and the clauses on it -/
theorem clauses (hs : X.stack = X.env :: X.outer) (hf : X.env.frame = some X.env.locals) (hN : X.N.Nodup) (tk : L2N.Takes X Wout) {pins : List (Addr × Obj)} {D : Ends} {a : Addr} {B h3 : Heap} {sI s' : Shared} {σ : L2.St} {H : Hp} {cls : Value} {d : Option Addr}
    (J : Inv X pins σ H sI) (nb : ∀ b o, sI.heap.get? b = some o → b ∉ frs X.stack → B.get? b = some o) (up : sI.heap.UpToSlots h3) (fl : HandSPX.FlyingZ B (X.env :: X.outer) a (L2N.Zn cls d) h3) (na : H a = none) (os : s'.os = sI.os) (ag : AllBare s'.gens)
    (hh : HdsN X hds l) (w : wNam X.K Wout D l cls d σ H) : wpAny (model X.prog X.w) X.A (handleBy (.ref a) X.env hds) (SP X pins D) X.xe { s' with heap := h3 } := by
  have ok := J.ok
  have lands : ∀ {h : Heap}, HandSPX.FlyingZ B (X.env :: X.outer) a (L2N.Zn cls d) h → sI.heap.UpToSlots h → ∃ oe vs, h.get? a = some oe ∧ L2N.Zn cls d oe ∧ oe.data = .fields vs ∧ Inv X pins σ H { s' with heap := h } ∧ Inv (X.suite a ((a, oe) :: (X.pn ++ pins))) [] σ H { s' with heap := h } := by
    intro h f u
    obtain ⟨oe, vs, e1, e2, e3⟩ := f.there
    have I1 : Inv X pins σ H { s' with heap := h } := J.landed nb f.1 u os ag
    have out : a ∉ frs (X.env :: X.outer) := fun hm => by
      obtain ⟨_, o, q1, q2⟩ := (f.2.2.1).mem hm
      rw [e1] at q1
      cases q1
      exact q2 _ e3
    refine ⟨oe, vs, e1, e2, e3, I1, I1.suite e1 e3 na (fun z => out (List.mem_filterMap.mpr ⟨X.env, .head _, by rw [hf, z]⟩)) fun hm => ?_⟩
    obtain ⟨e, q1, q2⟩ := List.mem_filterMap.mp hm
    exact out (List.mem_filterMap.mpr ⟨e, .tail _ q1, q2⟩)
  obtain ⟨oe, vs, he, hz, hd, I3, S3⟩ := lands fl up
  have asked : ∀ {x : Str} {np : Pos} {c : Value} {b : Bool} {Q : Bool → Shared → Prop} {E : Value → Shared → Prop}, Names X x c → PySem.W.exmOne X.K cls c = some b → Q b { s' with heap := h3 } →
      wpAny (model X.prog X.w) (X.A.mark (some (.ref a))) (eval (.Name x np) X.env) (fun v s₁ => wpAny (model X.prog X.w) (X.A.mark (some (.ref a))) (excMatches (.ref a) v) Q E s₁) E { s' with heap := h3 } := by
    intro x np c b Q E hc hb q
    have look : PySem.W.Looks (model X.prog X.w) h3 (typeOf (.ref a)) cls := fun A Q E s k q => wpAny_typeOf_ref (k _ _ he) (by rw [hz.1]; exact q)
    have m := PySem.W.exm_one (M := model X.prog X.w) I3.kIn look hb
    obtain ⟨g1, g2, g3 | ⟨g3, g4, g5⟩⟩ := hc
    · exact ld_glob (X := X.suite a ((a, oe) :: (X.pn ++ pins))) S3 g1 g3 (m.here q) g2
    · exact ld_blt (X := X.suite a ((a, oe) :: (X.pn ++ pins))) S3 g1 g3 g4 (m.here q) g5 g2
  induction hh with
  | nil =>
    refine wpAny_handleBy_nil ?_
    obtain ⟨_, _, _, _, _, T, _, _, e1, _, e2, e3, _⟩ := id fl
    unfold PySem.passOn
    refine wpAny_bind (wpAny_field e1 e2 e3 ?_)
    rw [if_neg (show ¬ ((Value.ref T == Value.none) = true) by simp)]
    have fin : wpAny (model X.prog X.w) X.A (setFlight (.ref a) X.env.frame) (fun _ s4 => wpAny (model X.prog X.w) X.A (throw (.ref a) : Sem Flow) (SP X pins D) X.xe s4) X.xe { s' with heap := h3 } := by
      rw [hf]
      exact HandSPX.setFlight_upZ fl fun h4 g4 u4 => wpAny_throw (tk _ _ ⟨a, B, sI, pins, σ, H, cls, d, rfl, J, nb, up.trans u4, .inr (.inr (by rw [hs]; exact g4)), na, os, ag, w⟩)
    first
      | exact wpAny_bind (wpAny_pure (wpAny_bind fin))
      | exact wpAny_bind fin
  | @named x n i c ts b₀ suite np p hds l hc hi hln hsu r ih =>
    obtain ⟨b, hb, yes, no⟩ := w
    refine wpAny_handleBy_cons (codeAny_handlers_test (asked hc hb ?_)) (by intro q; cases q)
    cases b with
    | false => exact ih (no rfl)
    | true =>
      refine codeAny_handlers_suite_as (HandSPX.lands_againZ fl fun h4 f4 u4 => ?_)
      obtain ⟨oe4, vs4, _, z4, d4, _, S4⟩ := lands f4 (up.trans u4)
      refine store_ok (X := X.suite a ((a, oe4) :: (X.pn ++ pins))) (v := .ref a) S4 hN hi (.inl hln) rfl (fun s5 S5 => ?_) (.inr hln)
      have gone : ∀ {s6 : Shared} {τ : L2.St} {G : Hp} {Q : Shared → Prop}, Inv (X.suite a ((a, oe4) :: (X.pn ++ pins))) [] τ G s6 → (∀ s7, Inv X pins (τ.set i none) G s7 → Q s7) →
          wpAny (model X.prog X.w) X.A (do bindName X.env n .none; unbindBehindTheSuite X.env n p) (fun _ s7 => Q s7) X.xe s6 := fun S6 q => gone_ok (S6.unsuite ok) hN hi hln q
      refine wpAny_mono ((hsu a oe4 cls d (X.pn ++ pins) z4 ⟨_, d4⟩).run [] s5 _ H _ S5 (yes rfl a na)) (fun f s6 h6 => ?_) (fun _ _ z => False.elim z)
      cases f with
      | ret u =>
        obtain ⟨v, τ, G, S6, r6, q6⟩ := h6
        exact gone S6 fun s7 J7 => ⟨_, _, _, J7, r6, q6⟩
      | next =>
        obtain ⟨τ, G, S6, q6⟩ := h6
        exact gone S6 fun s7 J7 => ⟨_, _, J7, q6⟩
      | brk =>
        obtain ⟨τ, G, S6, q6⟩ := h6
        exact gone S6 fun s7 J7 => ⟨_, _, J7, q6⟩
      | cont =>
        obtain ⟨τ, G, S6, q6⟩ := h6
        exact gone S6 fun s7 J7 => ⟨_, _, J7, q6⟩
  | @plain x c ts b₀ suite np p hds l hc hsu r ih =>
    obtain ⟨b, hb, yes, no⟩ := w
    refine wpAny_handleBy_cons (codeAny_handlers_test (asked hc hb ?_)) (by intro q; cases q)
    cases b with
    | false => exact ih (no rfl)
    | true =>
      refine codeAny_handlers_suite (HandSPX.lands_againZ fl fun h4 f4 u4 => ?_)
      obtain ⟨oe4, vs4, _, z4, d4, _, S4⟩ := lands f4 (up.trans u4)
      refine wpAny_mono ((hsu a oe4 cls d (X.pn ++ pins) z4 ⟨_, d4⟩).run [] _ _ H _ S4 (yes rfl a na)) (fun f s6 h6 => ?_) (fun _ _ z => False.elim z)
      cases f with
      | ret u =>
        obtain ⟨v, τ, G, S6, r6, q6⟩ := h6
        exact ⟨_, _, _, S6.unsuite ok, r6, q6⟩
      | next =>
        obtain ⟨τ, G, S6, q6⟩ := h6
        exact ⟨_, _, S6.unsuite ok, q6⟩
      | brk =>
        obtain ⟨τ, G, S6, q6⟩ := h6
        exact ⟨_, _, S6.unsuite ok, q6⟩
      | cont =>
        obtain ⟨τ, G, S6, q6⟩ := h6
        exact ⟨_, _, S6.unsuite ok, q6⟩
theorem ps_try_named (hs : X.stack = X.env :: X.outer) (hf : X.env.frame = some X.env.locals) (hN : X.N.Nodup) (tk : L2N.Takes X Wout)
    (hb : ∀ (W : WX) (pn : List (Addr × Obj)) (xe : Value → Shared → Prop), L2N.Takes (X.tr pn xe) W → PassesOwn (model X.prog X.w) X.A X.env xe → PSs (X.tr pn xe) body (tb W))
    (hh : HdsN X (h₀ :: hds) l) : PS X (.Try body (h₀ :: hds) [] [] pos) (fun D σ H => tb (wNam X.K Wout D l) D σ H) := by
  refine ⟨fun pins s σ H D I h => ?_⟩
  have ok := I.ok
  have hfr : X.A.frames = some (X.env :: X.outer) := by rw [ok.frames, hs]
  refine wpAny_Try_except (wpAny_mono ((hb (wNam X.K Wout D l) (X.pn ++ pins) (fun e s₁ => wpAny (model X.prog X.w) X.A (noteFrame e X.env) (fun _ s₂ => wpAny (model X.prog X.w) X.A (setFlight e none) (fun _ s₃ =>
    wpAny (model X.prog X.w) X.A (handleBy e X.env (h₀ :: hds)) (SP X pins D) X.xe s₃) X.xe s₂) X.xe s₁) (fun u s' xx => ?_) PassesOwn.looking).run [] s σ H D (I.toTry _) h) (fun f s1 hsp => ?_) (fun e s1 he => he))
  · obtain ⟨a, B, sI, pins', σ', H', cls, d, rfl, J', nb, up, sky, na, os, ag, w⟩ := xx
    have sky' : Sky B (X.env :: X.outer) a (L2N.Zn cls d) X.env.locals s'.heap := by rw [← hs]; exact sky
    show wpAny (model X.prog X.w) X.A (noteFrame (.ref a) X.env) _ _ _
    exact L2N.Sky.land L2N.Zn.steady hfr hf sky' fun h3 f3 u3 => clauses hs hf hN tk (J'.ofTry ok) nb (up.trans u3) f3 na os ag hh w
  · cases f with
    | ret u =>
      obtain ⟨v, τ, G, J, r, q⟩ := hsp
      exact ⟨v, τ, G, J.ofTry ok, r, q⟩
    | next =>
      obtain ⟨τ, G, J, q⟩ := hsp
      exact wpAny_execs_nil ⟨τ, G, J.ofTry ok, q⟩
    | brk =>
      obtain ⟨τ, G, J, q⟩ := hsp
      exact ⟨τ, G, J.ofTry ok, q⟩
    | cont =>
      obtain ⟨τ, G, J, q⟩ := hsp
      exact ⟨τ, G, J.ofTry ok, q⟩
end
/-! ### the clauses' mirror -/
inductive HdsP (X : Cx) (xi : Xi) (cs : List Str) : List ExceptHandler → (Str → En → Option Out) → Prop
  | nil : HdsP X xi cs [] hNil
  | named {d n : Str} {i : Nat} {b₀ : Stmt} {suite : List Stmt} {np p : Pos} {h : En → Out} {hds : List ExceptHandler} {more : Str → En → Option Out} (hx : XiOk xi i) (hd : d ∈ cs) (hi : X.N[i]? = some n) (hln : X.env.kindOf n = some .local) (hc : Names X d (cvOf X.K d))
      (hsu : ∀ (a : Addr) (oe : Obj) (c : Str) (pn : List (Addr × Obj)), c ∈ cs → L2N.Zn (cvOf X.K c) none oe → (∃ vs, oe.data = .fields vs) → PDB (X.suite a ((a, oe) :: pn)) ((i, a, cvOf X.K c) :: xi) WF (b₀ :: suite) h) (r : HdsP X xi cs hds more) :
      HdsP X xi cs (.ExceptHandler (some (.Name d np)) (some n) (b₀ :: suite) p :: hds) (hAs cs i d h more)
  | plain {d : Str} {b₀ : Stmt} {suite : List Stmt} {np p : Pos} {h : En → Out} {hds : List ExceptHandler} {more : Str → En → Option Out} (hd : d ∈ cs) (hc : Names X d (cvOf X.K d))
      (hsu : ∀ (a : Addr) (oe : Obj) (c : Str) (pn : List (Addr × Obj)), c ∈ cs → L2N.Zn (cvOf X.K c) none oe → (∃ vs, oe.data = .fields vs) → PDB (X.suite a ((a, oe) :: pn)) xi WF (b₀ :: suite) h) (r : HdsP X xi cs hds more) :
      HdsP X xi cs (.ExceptHandler (some (.Name d np)) none (b₀ :: suite) p :: hds) (hOnly cs d h more)
section
variable {X : Cx} {W : WX} {cs : List Str} {h₀ : ExceptHandler} {hds : List ExceptHandler} {body : List Stmt} {pos : Pos} {g : En → Out} {m : Str → En → Option Out}
theorem HdsP.told {xi : Xi} (EX : ExF X.K cs) (hh : HdsP X xi cs hds m) : ∃ l, HdsN X hds l ∧ ∀ {E : Ends} {F0 H0 F H : Hp} {σ : L2.St} {δ : En} {c : Str}, Stt X.K xi F0 H0 F H σ δ →
    PostS X.K xi W F0 H0 F H E (match m c δ with | some o => o | none => .er c δ) → c ∈ cs → wNam X.K W E l (cvOf X.K c) none σ H := by
  induction hh with
  | nil =>
    refine ⟨[], .nil, fun st p _ => ?_⟩
    exact p _ _ _ st (Same.refl _)
  | @named d n i b₀ suite np p h hds more hx hd hi hln hc hsu r ih =>
    obtain ⟨l, k1, k2⟩ := ih
    refine ⟨(cvOf X.K d, some i, tSuite X.K xi cs i h) :: l, .named hc hi hln (fun a oe cls od pn hz hv => ⟨fun pins s σ H E I q => ?_⟩) k1, fun {E F0 H0 F H σ δ c} st p hcs => ?_⟩
    · obtain ⟨rfl, c, hcs, rfl, q⟩ := q
      exact (hsu a oe c pn hcs hz hv).run pins s σ H E I q
    · simp only [hAs] at p
      by_cases hil : c ∈ cs ∧ i < δ.length
      · rw [if_pos hil] at p
        refine ⟨isSub c d, EX.exm c hcs d hd, fun hb a ha => ?_, fun hb => ?_⟩
        · rw [if_pos hb] at p
          refine ⟨rfl, c, hcs, rfl, F0, H0, F, _, st.catch_ (a := a) (c := c) (by rw [← st.ln]; exact hil.2) hx, ?_⟩
          simp only at p
          cases e2 : h (δ.set i (some (.xc c))) with
          | nx δ2 => rw [e2] at p; exact fun σ2 F2 H2 st2 s2 => p _ F2 H2 (st2.off i (fun _ h => List.mem_cons_of_mem _ h) hx) s2
          | bk δ2 => rw [e2] at p; exact fun σ2 F2 H2 st2 s2 => p _ F2 H2 (st2.off i (fun _ h => List.mem_cons_of_mem _ h) hx) s2
          | ct δ2 => rw [e2] at p; exact fun σ2 F2 H2 st2 s2 => p _ F2 H2 (st2.off i (fun _ h => List.mem_cons_of_mem _ h) hx) s2
          | rt s => rw [e2] at p; exact p
          | rm d δ2 => rw [e2] at p; exact fun v σ2 F2 H2 st2 s2 => p v _ F2 H2 (st2.off i (fun _ h => List.mem_cons_of_mem _ h) hx) s2
          | er c2 δ2 => rw [e2] at p; exact p.elim
          | bad => rw [e2] at p; exact p.elim
        · rw [if_neg (by rw [hb]; decide)] at p
          exact k2 st p hcs
      · rw [if_neg hil] at p
        exact p.elim
  | @plain d b₀ suite np p h hds more hd hc hsu r ih =>
    obtain ⟨l, k1, k2⟩ := ih
    refine ⟨(cvOf X.K d, none, tSuiteO X.K xi cs h) :: l, .plain hc (fun a oe cls od pn hz hv => ⟨fun pins s σ H E I q => ?_⟩) k1, fun {E F0 H0 F H σ δ c} st p hcs => ?_⟩
    · obtain ⟨rfl, c, hcs, rfl, q⟩ := q
      exact (hsu a oe c pn hcs hz hv).run pins s σ H E I q
    · simp only [hOnly] at p
      rw [if_pos hcs] at p
      refine ⟨isSub c d, EX.exm c hcs d hd, fun hb a ha => ?_, fun hb => ?_⟩
      · rw [if_pos hb] at p
        refine ⟨rfl, c, hcs, rfl, F0, H0, F, _, st, ?_⟩
        simp only at p
        cases e2 : h δ with
        | nx δ2 => rw [e2] at p; exact fun σ2 F2 H2 st2 s2 => p _ F2 H2 st2 s2
        | bk δ2 => rw [e2] at p; exact fun σ2 F2 H2 st2 s2 => p _ F2 H2 st2 s2
        | ct δ2 => rw [e2] at p; exact fun σ2 F2 H2 st2 s2 => p _ F2 H2 st2 s2
        | rt s => rw [e2] at p; exact p
        | rm d δ2 => rw [e2] at p; exact fun v σ2 F2 H2 st2 s2 => p v _ F2 H2 st2 s2
        | er c2 δ2 => rw [e2] at p; exact p.elim
        | bad => rw [e2] at p; exact p.elim
      · rw [if_neg (by rw [hb]; decide)] at p
        exact k2 st p hcs
theorem PostS.move {K : PySem.W.Frag} {xi : Xi} {W : WX} {F0 H0 F H F' H' : Hp} {E : Ends} (s : Same F F') : ∀ {o : Out}, PostS K xi W F0 H0 F H E o → PostS K xi W F0 H0 F' H' E o
  | .nx _, p => fun σ F2 H2 st s2 => p σ F2 H2 st (s.trans s2)
  | .bk _, p => fun σ F2 H2 st s2 => p σ F2 H2 st (s.trans s2)
  | .ct _, p => fun σ F2 H2 st s2 => p σ F2 H2 st (s.trans s2)
  | .rt _, p => p
  | .rm _ _, p => fun v σ F2 H2 st s2 => p v σ F2 H2 st (s.trans s2)
  | .er _ _, p => fun σ F2 H2 st s2 => p σ F2 H2 st (s.trans s2)
  | .bad, p => p
theorem hds_bad {xi : Xi} (hh : HdsP X xi cs hds m) {c : Str} (hc : c ∉ cs) (hn : hds ≠ []) (δ : En) : m c δ = some .bad := by
  cases hh with
  | nil => exact absurd rfl hn
  | named => simp only [hAs]; rw [if_neg (fun h => hc h.1)]
  | plain => simp only [hOnly]; rw [if_neg hc]
theorem pds_try_named {xi : Xi} (EX : ExF X.K cs) (hs : X.stack = X.env :: X.outer) (hf : X.env.frame = some X.env.locals) (hN : X.N.Nodup) (tk : L2N.Takes X W)
    (hb : ∀ (W' : WX) (pn : List (Addr × Obj)) (xe : Value → Shared → Prop), L2N.Takes (X.tr pn xe) W' → PassesOwn (model X.prog X.w) X.A X.env xe → PDB (X.tr pn xe) xi W' body g)
    (hh : HdsP X xi cs (h₀ :: hds) m) : PDS X xi W (.Try body (h₀ :: hds) [] [] pos) (sTry g m) := by
  obtain ⟨l, k1, k2⟩ := hh.told (W := W) EX
  refine PS.imp (ps_try_named hs hf hN tk (tb := fun W' => tS X.K xi W' g) hb k1) ?_
  rintro E σ H ⟨F0, H0, F, δ, st, p⟩
  refine ⟨F0, H0, F, δ, st, ?_⟩
  unfold sTry at p
  cases e : g δ with
  | er c δ' =>
    rw [e] at p
    intro σ' F' H' st' s'
    by_cases hc : c ∈ cs
    · exact k2 st' (PostS.move s' p) hc
    · simp only [hds_bad hh hc (by simp)] at p
      exact p.elim
  | nx δ' => rw [e] at p; exact p
  | bk δ' => rw [e] at p; exact p
  | ct δ' => rw [e] at p; exact p
  | rt s => rw [e] at p; exact p
  | rm d δ' => rw [e] at p; exact p
  | bad => rw [e] at p; exact p
end
end DL

namespace DL
open PySem PySem.Spec PyProof.Rows L2
/-! ### zip of a tuple and a list -/
def ItzX (K : PySem.W.Frag) (a b : Addr) : It :=
  ⟨fun i H => ∃ (xs ys : List V) (x y : V), SqT K H a xs ∧ SqL K H b ys ∧ xs[i]? = some x ∧ ys[i]? = some y,
    fun i H v H' => ∃ T x y, v = .ref T ∧ H T = none ∧ H' = upd H T (.tup [x, y]) ∧ (∀ xs, SqT K H a xs → xs[i]? = some x) ∧ ∀ ys, SqL K H b ys → ys[i]? = some y,
    fun i H => ∃ xs ys : List V, SqT K H a xs ∧ SqL K H b ys ∧ i = min xs.length ys.length⟩
abbrev zX (z TI TO i1 i2 a b : Addr) : Nat → Heap → Prop := fun i h => IsZip h z TI TO .none ∧ IsTupOf2 h TI (.ref i1) (.ref i2) ∧ (∃ x y, IsTupOf2 h TO x y) ∧ h.IsTupleIter i1 a i ∧ h.IsListIter i2 b i
theorem turn_zipX {P : Program} {w : World} {K : PySem.W.Frag} {elts : List Expr} {kk : Nat} {tpos : Pos} {a b z TI TO i1 i2 : Addr} (D : ZipSep2 z TI TO i1 i2 [i1, a] [i2, b]) (n1 : a ≠ i1) (n2 : b ≠ i2) :
    Turn P w K (.Tuple elts kk tpos) (ItzX K a b) [z, TI, TO, i1, i2] z (zX z TI TO i1 i2 a b) where
  mem := by simp
  obj := fun i h st c hc => by
    obtain ⟨hz, hTI, ⟨x, y, hTO⟩, ⟨o1, e1, _, d1⟩, ⟨o2, e2, _, d2⟩⟩ := st
    simp only [List.mem_cons, List.not_mem_nil, or_false] at hc
    rcases hc with rfl | rfl | rfl | rfl | rfl
    · exact ⟨_, hz, fun v q => nomatch q⟩
    · exact ⟨_, hTI, fun v q => nomatch q⟩
    · exact ⟨_, hTO, fun v q => nomatch q⟩
    · exact ⟨o1, e1, fun v q => by rw [d1] at q; cases q⟩
    · exact ⟨o2, e2, fun v q => by rw [d2] at q; cases q⟩
  keep := fun i h h' ⟨hz, hTI, ⟨x, y, hTO⟩, h1, h2⟩ k =>
    ⟨k z (by simp) _ hz, k TI (by simp) _ hTI, ⟨x, y, k TO (by simp) _ hTO⟩, h1.at fun o q => k i1 (by simp) o q, h2.at fun o q => k i2 (by simp) o q⟩
  item := by
    rintro X rfl rfl rfl hc i pins s σ H E I hf ⟨hz, hTI, hTO, h1, h2⟩ ⟨xs, ys, x, y, hqx, hqy, hx, hy⟩
    obtain ⟨us, rv, p, _⟩ := I.tuple hqx
    obtain ⟨vs, rv2, p2, _⟩ := I.list hqy
    obtain ⟨u, hu, ru⟩ := rv.get hx
    obtain ⟨v, hv, rv'⟩ := rv2.get hy
    have hh : X.A.in1.handled = none := I.ok.hd hc
    have G := GoesN.zip2 (prog := X.prog) (w := X.w) (A := X.A) (elts := elts) (x1 := kk) (pos := tpos) D (Draws.tuple hh i1 a n1 us.toArray) (Draws.list hh i2 b n2 vs.toArray)
    have l1 : i < us.toArray.size := by
      have := (List.getElem?_eq_some_iff.mp hu).1
      simpa using this
    have l2 : i < vs.toArray.size := by
      have := (List.getElem?_eq_some_iff.mp hv).1
      simpa using this
    refine G.goes i s _ E (by omega) ⟨hz, hTI, hTO, ⟨h1, p⟩, h2, p2.isList⟩ fun r h' tk hY st' hk htk => ?_
    obtain ⟨T, u', v', rfl, hnew, hu', hv', hT⟩ := hY
    rw [List.getElem?_toArray, hu] at hu'
    rw [List.getElem?_toArray, hv] at hv'
    cases hu'
    cases hv'
    have new : ObjOk X.prog X.w (upd H T (.tup [x, y])) h' T (.tup [x, y]) :=
      ⟨by show 2 ≤ sizeLine; decide, [u, v], .cons ru (.cons rv' .nil), hT⟩
    have wr : ∀ c o, c ∉ [z, TI, TO, i1, i2] → s.heap.get? c = some o → h'.get? c = some o := fun c o hn e => hk c o (fun hm => hn (by
      simp only [List.mem_cons, List.not_mem_nil, or_false] at hm
      rcases hm with h | h | h | h <;> simp [h])) e
    refine ⟨.ref T, _, I.turnedNew (t' := tk) wr hf hnew new, rfl, ⟨T, x, y, rfl, I.hok.fresh hnew, rfl, fun l hl => by rw [I.tuple_inj hl hqx]; exact hx, fun l hl => by rw [I.list_inj hl hqy]; exact hy⟩, ⟨st'.1, st'.2.1, st'.2.2.1, st'.2.2.2.1.1, st'.2.2.2.2.1⟩, fun c hcm => ?_⟩
    have hlt : c < s.heap.objs.size := by
      obtain ⟨o1, e1, _⟩ := h1
      obtain ⟨o2, e2, _⟩ := h2
      obtain ⟨_, _, hTO⟩ := hTO
      simp only [List.mem_cons, List.not_mem_nil, or_false] at hcm
      rcases hcm with rfl | rfl | rfl | rfl | rfl
      · exact Heap.lt_size hz
      · exact Heap.lt_size hTI
      · exact Heap.lt_size hTO
      · exact Heap.lt_size e1
      · exact Heap.lt_size e2
    rw [upd_ne (Nat.ne_of_lt (Nat.lt_of_lt_of_le hlt hnew))]
    exact (hf c hcm).1
  done := by
    rintro X rfl rfl rfl hc i pins s σ H E I hf ⟨hz, hTI, hTO, h1, h2⟩ ⟨xs, ys, hqx, hqy, hend⟩
    obtain ⟨us, rv, p, _⟩ := I.tuple hqx
    obtain ⟨vs, rv2, p2, _⟩ := I.list hqy
    have hh : X.A.in1.handled = none := I.ok.hd hc
    have G := GoesN.zip2 (prog := X.prog) (w := X.w) (A := X.A) (elts := elts) (x1 := kk) (pos := tpos) D (Draws.tuple hh i1 a n1 us.toArray) (Draws.list hh i2 b n2 vs.toArray)
    have e1 := rv.length
    have e2 := rv2.length
    have ei : i = min us.toArray.size vs.toArray.size := by
      simp only [List.size_toArray]
      omega
    refine G.stops s _ E (by rw [← ei]; exact ⟨hz, hTI, hTO, ⟨h1, p⟩, h2, p2.isList⟩) fun h' tk hk htk => ?_
    exact I.turnedL (t' := tk) (ch := [z, TI, TO, i1, i2]) (fun c o hn e => hk c o (fun hm => hn (by
      simp only [List.mem_cons, List.not_mem_nil, or_false] at hm
      rcases hm with h | h | h | h <;> simp [h])) e) hf
  self := fun A i s Q E st h => wpAny_pyIter_zip st.1 h
def iZipX (K : PySem.W.Frag) (ta : TA) : TI := fun σ H R => ta σ H fun vs H1 => ∃ a b xs ys, vs = [.ref a, .ref b] ∧ SqT K H1 a xs ∧ SqL K H1 b ys ∧ R (ItzX K a b) H1
theorem pi_zipX {X : Cx} {e e2 : Expr} {ta : TA} {p pos tpos : Pos} {elts : List Expr} {kk : Nat} (hg : Gl X "zip") (hm : X.mg "zip" = none) (ha : PA X [e, e2] ta)
    (hs : starEach [e, e2] X.env = (false, eval e X.env) :: starEach [e2] X.env := by rfl) (hpl : (backTo pos (starEach [e2] X.env)).any (·.1) = false := by rfl) :
    PI X (.Tuple elts kk tpos) (.Call (.Name "zip" p) [e, e2] [] pos) (iZipX X.K ta) := by
  refine ⟨fun pins s σ H R I h => ?_⟩
  refine Call_ (ld_blt I hg hm PyProof.Rows.boot_zip (PyProof.Rows.callWith_type1 (thn (ha.run pos pins s σ H _ I h) fun us s1 ⟨vs, H1, I1, r1, q1⟩ => ?_) hs hpl))
  obtain ⟨a, b, xs, ys, rfl, hqx, hqy, q⟩ := q1
  cases r1 with
  | cons r rr =>
    cases rr with
    | cons r' rr =>
      cases rr
      cases r
      cases r'
      obtain ⟨its, rv, p1, _⟩ := I1.tuple hqx
      obtain ⟨its2, rv2, p2, _⟩ := I1.list hqy
      obtain ⟨o1, ho1, _⟩ := id p1
      have la : a < s1.heap.objs.size := Heap.lt_size ho1
      have lb : b < s1.heap.objs.size := p2.lt
      refine zip_begins2 (begins_tuple a its.toArray) (begins_list b its2.toArray) p1 p2.isList fun h' hz hTI hTO g1 g2 hsz hk => wpAny_pyIter_zip hz ?_
      have I2 : Inv X pins σ H1 { s1 with heap := h' } := I1.kept (t' := s1.toks) hk
      refine ⟨s1.heap.objs.size + 4, [s1.heap.objs.size + 4, s1.heap.objs.size + 2, s1.heap.objs.size + 3, s1.heap.objs.size, s1.heap.objs.size + 1], _, _, H1, rfl, I2,
        turn_zipX (zip_sep2 (N := s1.heap.objs.size) (fp1 := [a]) (fp2 := [b]) (by simpa using la) (by simpa using lb)) (Nat.ne_of_lt la) (Nat.ne_of_lt (Nat.lt_succ_of_lt lb)), ⟨hz, hTI, ⟨_, _, hTO⟩, ⟨_, g1, rfl, rfl⟩, ⟨_, g2, rfl, rfl⟩⟩, fun c hc => ?_, q⟩
      have hle : s1.heap.objs.size ≤ c := by
        simp only [List.mem_cons, List.not_mem_nil, or_false] at hc
        rcases hc with h | h | h | h | h <;> (rw [h]; first | exact Nat.le_refl _ | exact Nat.le_add_right _ _)
      exact I1.fpOk hle (I1.hok.fresh hle)
theorem itzX_ok {K : PySem.W.Frag} {P : Hp → Hp → Prop} {p q : Addr} {xs ys : List V} {as bs : List D} (hS : ∀ F' H', P F' H' → Same F' H' → SqT K H' p xs) (r : ∀ F' H', P F' H' → RpA K F' xs as) (hS2 : ∀ F' H', P F' H' → Same F' H' → SqL K H' q ys) (r2 : ∀ F' H', P F' H' → RpA K F' ys bs) : ItOk K P (ItzX K p q) (zipD as bs) where
  go := fun i F' H' z s hi => by
    obtain ⟨a, b, ha, hb, _⟩ := zipD_get (List.getElem?_eq_getElem hi)
    obtain ⟨v, hv, _⟩ := (r F' H' z).get ha
    obtain ⟨w, hw, _⟩ := (r2 F' H' z).get hb
    exact ⟨xs, ys, v, w, hS F' H' z s, hS2 F' H' z s, hv, hw⟩
  stop := fun F' H' z s => ⟨xs, ys, hS F' H' z s, hS2 F' H' z s, by
    rw [(r F' H' z).length, (r2 F' H' z).length]
    unfold zipD
    rw [List.length_zipWith]⟩
  yld := fun i d F' H' x H'' z s hd ⟨T, a, b, ex, hT, eH, h1, h2⟩ => by
    subst ex eH
    obtain ⟨a', b', ha, hb, rfl⟩ := zipD_get hd
    obtain ⟨d1, e1, r1⟩ := (r F' _ z).getV (h1 xs (hS F' _ z s))
    obtain ⟨d2, e2, r2⟩ := (r2 F' _ z).getV (h2 ys (hS2 F' _ z s))
    rw [ha] at e1; cases e1
    rw [hb] at e2; cases e2
    have n := Same.new (o := .tup [a, b]) (Same.none s hT)
    exact ⟨_, Grow.new s hT, .tup (SqT.of upd_same) (.cons (Rp.mono n _ _ r1) (.cons (Rp.mono n _ _ r2) .nil))⟩
/-- a tuple and a list -/
def zpX : List Sl → Option (List D)
  | [a, b] => match tupOf a, itL b with
    | some x, some y => some (zipD x y)
    | _, _ => none
  | _ => none
theorem pdi_zipX {X : Cx} {xi : Xi} {W : WX} {e e2 : Expr} {fs : En → Rs (List Sl)} {p p2 tpos : Pos} {elts : List Expr} {kk : Nat} (hG : Gl X "zip") (hm : X.mg "zip" = none) (ha : PDA X xi W [e, e2] fs)
    (hs : starEach [e, e2] X.env = (false, eval e X.env) :: starEach [e2] X.env := by rfl) (hpl : (backTo p2 (starEach [e2] X.env)).any (·.1) = false := by rfl) : PDI X xi W zF (.Tuple elts kk tpos) (.Call (.Name "zip" p) [e, e2] [] p2) (iCall zpX fs) := by
  refine PI.imp (pi_zipX hG hm ha hs hpl) ?_
  rintro σ H R ⟨F0, H0, F, δ, st, p⟩
  refine tA_use st (fun x v F1 H1 e1 g1 r1 => ?_) (fun x F1 H1 e1 g1 => by simp only [iCall, e1, Rs.bind] at p; exact p F1 H1 g1) (fun e1 => by simp only [iCall, e1, Rs.bind] at p; exact p)
  simp only [iCall, e1, Rs.bind] at p
  cases e2 : zpX x with
  | none => rw [e2] at p; exact p.elim
  | some q =>
    rw [e2] at p
    unfold zpX at e2
    split at e2
    · obtain ⟨v1, v2, rfl, ra, rb⟩ := r1.two
      split at e2
      · rename_i ha hb
        cases e2
        obtain ⟨p1, xs, rfl, hS, ra⟩ := ra.tupF ha
        obtain ⟨p2, ys, rfl, hS2, rb⟩ := rb.itl hb
        exact ⟨p1, p2, xs, ys, rfl, same_t g1.sm hS, same_l g1.sm hS2, p _ F1 H1 g1 (itzX_ok (fun F' H' q s => same_t s (same_t q hS)) (fun F' H' q => RpA.mono q _ _ ra) (fun F' H' q s => same_l s (same_l q hS2)) fun F' H' q => RpA.mono q _ _ rb)⟩
      · cases e2
    · cases e2
end DL

namespace DL
open PySem PySem.Spec PyProof.Rows L2
/-! ### one except clause of two classes, without a name -/
inductive HdsT (X : Cx) : List ExceptHandler → Value → Value → HTS → Prop
  | two {x x2 : Str} {c c2 : Value} {ts : HTS} {b₀ : Stmt} {suite : List Stmt} {np np2 tp p : Pos} {kk : Nat} (hc : Names X x c) (hc2 : Names X x2 c2) (h1 : starEach [.Name x np, .Name x2 np2] X.env = (false, eval (.Name x np) X.env) :: starEach [.Name x2 np2] X.env) (h2 : starEach [.Name x2 np2] X.env = (false, eval (.Name x2 np2) X.env) :: starEach [] X.env)
      (hsu : ∀ (a : Addr) (oe : Obj) (cls : Value) (d : Option Addr) (pn : List (Addr × Obj)), L2N.Zn cls d oe → (∃ vs, oe.data = .fields vs) → PSs (X.suite a ((a, oe) :: pn)) (b₀ :: suite) (ts a cls d)) :
      HdsT X [.ExceptHandler (some (.Tuple [.Name x np, .Name x2 np2] kk tp)) none (b₀ :: suite) p] c c2 ts
theorem flying_push {B h : Heap} {l : List Env} {a : Addr} {Z : Obj → Prop} (f : HandSPX.FlyingZ B l a Z h) (o : Obj) : HandSPX.FlyingZ B l a Z (h.push o) := by
  obtain ⟨f1, f2, f3, oe, vs, T, oT, ts, e1, e2, e3, e4, e5, e6, e7, e8, e9⟩ := f
  exact ⟨fun b u e => Heap.get?_push_of_some _ (f1 b u e), f2, Heap.FunFrames.of_keeps (fun b u e _ => ⟨u, Heap.get?_push_of_some _ e, rfl⟩) f3, oe, vs, T, oT, ts, Heap.get?_push_of_some _ e1, e2, e3, e4, e5, e6, Heap.get?_push_of_some _ e7, e8, e9⟩
theorem upTo_push (h : Heap) (o : Obj) : h.UpToSlots (h.push o) := fun b u e _ => ⟨u.slots, Heap.get?_push_of_some _ e⟩
def wTwo (K : PySem.W.Frag) (Wout : WX) (D : Ends) (c c2 : Value) (ts : HTS) : WX := fun cls d σ H => ∃ b, PySem.W.exmAny K cls [c, c2] = some b ∧ (b = true → ∀ a, H a = none → ts a cls d D σ H) ∧ (b = false → Wout cls d σ H)
section
variable {X : Cx} {body : List Stmt} {hds : List ExceptHandler} {c c2 : Value} {ts : HTS} {pos : Pos} {tb : WX → TS} {Wout : WX}
theorem clause2 (hs : X.stack = X.env :: X.outer) (hf : X.env.frame = some X.env.locals) (tk : L2N.Takes X Wout) {pins : List (Addr × Obj)} {D : Ends} {a : Addr} {B h3 : Heap} {sI s' : Shared} {σ : L2.St} {H : Hp} {cls : Value} {d : Option Addr}
    (J : Inv X pins σ H sI) (nb : ∀ b o, sI.heap.get? b = some o → b ∉ frs X.stack → B.get? b = some o) (up : sI.heap.UpToSlots h3) (fl : HandSPX.FlyingZ B (X.env :: X.outer) a (L2N.Zn cls d) h3) (na : H a = none) (os : s'.os = sI.os) (ag : AllBare s'.gens)
    (hh : HdsT X hds c c2 ts) (w : wTwo X.K Wout D c c2 ts cls d σ H) : wpAny (model X.prog X.w) X.A (handleBy (.ref a) X.env hds) (SP X pins D) X.xe { s' with heap := h3 } := by
  have ok := J.ok
  have lands : ∀ {h : Heap}, HandSPX.FlyingZ B (X.env :: X.outer) a (L2N.Zn cls d) h → sI.heap.UpToSlots h → ∃ oe vs, h.get? a = some oe ∧ L2N.Zn cls d oe ∧ oe.data = .fields vs ∧ Inv X pins σ H { s' with heap := h } ∧ Inv (X.suite a ((a, oe) :: (X.pn ++ pins))) [] σ H { s' with heap := h } := by
    intro h f u
    obtain ⟨oe, vs, e1, e2, e3⟩ := f.there
    have I1 : Inv X pins σ H { s' with heap := h } := J.landed nb f.1 u os ag
    have out : a ∉ frs (X.env :: X.outer) := fun hm => by
      obtain ⟨_, o, q1, q2⟩ := (f.2.2.1).mem hm
      rw [e1] at q1
      cases q1
      exact q2 _ e3
    refine ⟨oe, vs, e1, e2, e3, I1, I1.suite e1 e3 na (fun z => out (List.mem_filterMap.mpr ⟨X.env, .head _, by rw [hf, z]⟩)) fun hm => ?_⟩
    obtain ⟨e, q1, q2⟩ := List.mem_filterMap.mp hm
    exact out (List.mem_filterMap.mpr ⟨e, .tail _ q1, q2⟩)
  obtain ⟨oe, vs, he, hz, hd, I3, S3⟩ := lands fl up
  have named : ∀ {x : Str} {np : Pos} {c : Value} {Q : Value → Shared → Prop} {E : Value → Shared → Prop}, Names X x c → Q c { s' with heap := h3 } → wpAny (model X.prog X.w) (X.A.mark (some (.ref a))) (eval (.Name x np) X.env) Q E { s' with heap := h3 } := by
    intro x np c Q E hc q
    obtain ⟨g1, g2, g3 | ⟨g3, g4, g5⟩⟩ := hc
    · exact ld_glob (X := X.suite a ((a, oe) :: (X.pn ++ pins))) S3 g1 g3 q g2
    · exact ld_blt (X := X.suite a ((a, oe) :: (X.pn ++ pins))) S3 g1 g3 g4 q g5 g2
  cases hh with
  | @two x x2 c c2 ts b₀ suite np np2 tp p kk hc hc2 h1 h2 hsu =>
    obtain ⟨b, hb, yes, no⟩ := w
    refine wpAny_handleBy_cons (codeAny_handlers_test (wpAny_Tuple_spliced ?_)) (by intro q; cases q)
    rw [h1]
    show wpAny _ _ (spliced ((false, eval (.Name x np) X.env) :: backTo tp (starEach [.Name x2 np2] X.env))) _ _ _
    refine Calls.spliced_cons (named hc ?_)
    rw [h2]
    show wpAny _ _ (spliced ((false, eval (.Name x2 np2) X.env) :: backTo tp (starEach [] X.env))) _ _ _
    refine Calls.spliced_cons (named hc2 ?_)
    refine wpAny_pure ⟨(show 2 ≤ sizeLine by decide), ?_⟩
    show wpAny _ _ (excMatches (.ref a) (.ref h3.objs.size)) _ _ { s' with heap := h3.push { cls := .type "tuple", data := .seq [c, c2].toArray } }
    have fl4 := flying_push fl { cls := .type "tuple", data := .seq [c, c2].toArray }
    have up4 := up.trans (upTo_push h3 { cls := .type "tuple", data := .seq [c, c2].toArray })
    have hp : (h3.push { cls := .type "tuple", data := .seq [c, c2].toArray }).get? h3.objs.size = some { cls := .type "tuple", data := .seq [c, c2].toArray } := Heap.get?_push_size _ rfl
    generalize h3.push { cls := .type "tuple", data := .seq [c, c2].toArray } = h4 at *
    obtain ⟨oe4, vs4, he4, hz4, hd4, I4, S4⟩ := lands fl4 up4
    have look : PySem.W.Looks (model X.prog X.w) h4 (typeOf (.ref a)) cls := fun A Q E s k q => wpAny_typeOf_ref (k _ _ he4) (by rw [hz4.1]; exact q)
    refine (PySem.W.exm_tup2 (M := model X.prog X.w) I4.kIn look hp hb).here ?_
    cases b with
    | true =>
      refine codeAny_handlers_suite (HandSPX.lands_againZ fl4 fun h5 f5 u5 => ?_)
      obtain ⟨oe5, vs5, _, z5, d5, _, S5⟩ := lands f5 (up4.trans u5)
      refine wpAny_mono ((hsu a oe5 cls d (X.pn ++ pins) z5 ⟨_, d5⟩).run [] _ _ H _ S5 (yes rfl a na)) (fun f s6 h6 => ?_) (fun _ _ z => False.elim z)
      cases f with
      | ret u =>
        obtain ⟨v, τ, G, S6, r6, q6⟩ := h6
        exact ⟨_, _, _, S6.unsuite ok, r6, q6⟩
      | next =>
        obtain ⟨τ, G, S6, q6⟩ := h6
        exact ⟨_, _, S6.unsuite ok, q6⟩
      | brk =>
        obtain ⟨τ, G, S6, q6⟩ := h6
        exact ⟨_, _, S6.unsuite ok, q6⟩
      | cont =>
        obtain ⟨τ, G, S6, q6⟩ := h6
        exact ⟨_, _, S6.unsuite ok, q6⟩
    | false =>
      show wpAny _ X.A (handleBy (.ref a) X.env []) _ _ _
      refine wpAny_handleBy_nil ?_
      obtain ⟨_, _, _, _, _, T, _, _, e1, _, e2, e3, _⟩ := id fl4
      unfold PySem.passOn
      refine wpAny_bind (wpAny_field e1 e2 e3 ?_)
      rw [if_neg (show ¬ ((Value.ref T == Value.none) = true) by simp)]
      have fin : wpAny (model X.prog X.w) X.A (setFlight (.ref a) X.env.frame) (fun _ s4 => wpAny (model X.prog X.w) X.A (throw (.ref a) : Sem Flow) (SP X pins D) X.xe s4) X.xe { s' with heap := h4 } := by
        rw [hf]
        exact HandSPX.setFlight_upZ fl4 fun h5 g5 u5 => wpAny_throw (tk _ _ ⟨a, B, sI, pins, σ, H, cls, d, rfl, J, nb, up4.trans u5, .inr (.inr (by rw [hs]; exact g5)), na, os, ag, no rfl⟩)
      first
        | exact wpAny_bind (wpAny_pure (wpAny_bind fin))
        | exact wpAny_bind fin
theorem ps_try_two {h₀ : ExceptHandler} {hds : List ExceptHandler} (hs : X.stack = X.env :: X.outer) (hf : X.env.frame = some X.env.locals) (tk : L2N.Takes X Wout)
    (hb : ∀ (W : WX) (pn : List (Addr × Obj)) (xe : Value → Shared → Prop), L2N.Takes (X.tr pn xe) W → PassesOwn (model X.prog X.w) X.A X.env xe → PSs (X.tr pn xe) body (tb W))
    (hh : HdsT X (h₀ :: hds) c c2 ts) : PS X (.Try body (h₀ :: hds) [] [] pos) (fun D σ H => tb (wTwo X.K Wout D c c2 ts) D σ H) := by
  refine ⟨fun pins s σ H D I h => ?_⟩
  have ok := I.ok
  have hfr : X.A.frames = some (X.env :: X.outer) := by rw [ok.frames, hs]
  refine wpAny_Try_except (wpAny_mono ((hb (wTwo X.K Wout D c c2 ts) (X.pn ++ pins) (fun e s₁ => wpAny (model X.prog X.w) X.A (noteFrame e X.env) (fun _ s₂ => wpAny (model X.prog X.w) X.A (setFlight e none) (fun _ s₃ =>
    wpAny (model X.prog X.w) X.A (handleBy e X.env (h₀ :: hds)) (SP X pins D) X.xe s₃) X.xe s₂) X.xe s₁) (fun u s' xx => ?_) PassesOwn.looking).run [] s σ H D (I.toTry _) h) (fun f s1 hsp => ?_) (fun e s1 he => he))
  · obtain ⟨a, B, sI, pins', σ', H', cls, d, rfl, J', nb, up, sky, na, os, ag, w⟩ := xx
    have sky' : Sky B (X.env :: X.outer) a (L2N.Zn cls d) X.env.locals s'.heap := by rw [← hs]; exact sky
    show wpAny (model X.prog X.w) X.A (noteFrame (.ref a) X.env) _ _ _
    exact L2N.Sky.land L2N.Zn.steady hfr hf sky' fun h3 f3 u3 => clause2 hs hf tk (J'.ofTry ok) nb (up.trans u3) f3 na os ag hh w
  · cases f with
    | ret u =>
      obtain ⟨v, τ, G, J, r, q⟩ := hsp
      exact ⟨v, τ, G, J.ofTry ok, r, q⟩
    | next =>
      obtain ⟨τ, G, J, q⟩ := hsp
      exact wpAny_execs_nil ⟨τ, G, J.ofTry ok, q⟩
    | brk =>
      obtain ⟨τ, G, J, q⟩ := hsp
      exact ⟨τ, G, J.ofTry ok, q⟩
    | cont =>
      obtain ⟨τ, G, J, q⟩ := hsp
      exact ⟨τ, G, J.ofTry ok, q⟩
end
/-- except (d, e): suite -/
def hTwo (cs : List Str) (d e : Str) (suite : En → Out) : Str → En → Option Out := fun c δ =>
  if c ∈ cs then (if (isSub c d || isSub c e) = true then some (noEr (suite δ)) else none) else some .bad
section
variable {X : Cx} {W : WX} {cs : List Str} {d e : Str} {body suite : List Stmt} {b₀ : Stmt} {np np2 tp pos pos' : Pos} {kk : Nat} {g h : En → Out}
theorem pds_try_two {xi : Xi} (EX : ExF X.K cs) (hd : d ∈ cs) (he : e ∈ cs) (hs : X.stack = X.env :: X.outer) (hf : X.env.frame = some X.env.locals) (hc : Names X d (cvOf X.K d)) (hc2 : Names X e (cvOf X.K e)) (tk : L2N.Takes X W)
    (hb : ∀ (W' : WX) (pn : List (Addr × Obj)) (xe : Value → Shared → Prop), L2N.Takes (X.tr pn xe) W' → PassesOwn (model X.prog X.w) X.A X.env xe → PDB (X.tr pn xe) xi W' body g)
    (hsu : ∀ (a : Addr) (oe : Obj) (c : Str) (pn : List (Addr × Obj)), c ∈ cs → L2N.Zn (cvOf X.K c) none oe → (∃ vs, oe.data = .fields vs) → PDB (X.suite a ((a, oe) :: pn)) xi WF (b₀ :: suite) h)
    (h1 : starEach [.Name d np, .Name e np2] X.env = (false, eval (.Name d np) X.env) :: starEach [.Name e np2] X.env := by rfl) (h2 : starEach [.Name e np2] X.env = (false, eval (.Name e np2) X.env) :: starEach [] X.env := by rfl) :
    PDS X xi W (.Try body [.ExceptHandler (some (.Tuple [.Name d np, .Name e np2] kk tp)) none (b₀ :: suite) pos'] [] [] pos) (sTry g (hTwo cs d e h)) := by
  refine PS.imp (ps_try_two (ts := tSuiteO X.K xi cs h) (c := cvOf X.K d) (c2 := cvOf X.K e) hs hf tk (tb := fun W' => tS X.K xi W' g) hb (.two hc hc2 h1 h2 fun a oe cls od pn hz hv => ⟨fun pins s σ H E I q => ?_⟩)) ?_
  · obtain ⟨rfl, c, hcs, rfl, q⟩ := q
    exact (hsu a oe c pn hcs hz hv).run pins s σ H E I q
  · rintro E σ H ⟨F0, H0, F, δ, st, p⟩
    refine ⟨F0, H0, F, δ, st, ?_⟩
    unfold sTry at p
    cases e1 : g δ with
    | er c δ' =>
      rw [e1] at p
      simp only [hTwo] at p
      intro σ' F' H' st' s'
      by_cases hcs : c ∈ cs
      · rw [if_pos hcs] at p
        refine ⟨isSub c d || isSub c e, ?_, fun hb a ha => ?_, fun hb => ?_⟩
        · unfold PySem.W.exmAny
          rw [EX.exm c hcs d hd]
          unfold PySem.W.exmAny
          rw [EX.exm c hcs e he]
          simp only [PySem.W.exmAny, Bool.or_false]
        · rw [if_pos hb] at p
          refine ⟨rfl, c, hcs, rfl, F0, H0, F', _, st', ?_⟩
          simp only at p
          cases e2 : h δ' with
          | nx δ2 => rw [e2] at p; exact fun σ2 F2 H2 st2 s2 => p _ F2 H2 st2 (s'.trans s2)
          | bk δ2 => rw [e2] at p; exact fun σ2 F2 H2 st2 s2 => p _ F2 H2 st2 (s'.trans s2)
          | ct δ2 => rw [e2] at p; exact fun σ2 F2 H2 st2 s2 => p _ F2 H2 st2 (s'.trans s2)
          | rt s => rw [e2] at p; exact p
          | rm d δ2 => rw [e2] at p; exact fun v σ2 F2 H2 st2 s2 => p v _ F2 H2 st2 (s'.trans s2)
          | er c2 δ2 => rw [e2] at p; exact p.elim
          | bad => rw [e2] at p; exact p.elim
        · rw [if_neg (by rw [hb]; decide)] at p
          exact p σ' F' H' st' s'
      · rw [if_neg hcs] at p; exact p.elim
    | nx δ' => rw [e1] at p; exact p
    | bk δ' => rw [e1] at p; exact p
    | ct δ' => rw [e1] at p; exact p
    | rt s => rw [e1] at p; exact p
    | rm d δ' => rw [e1] at p; exact p
    | bad => rw [e1] at p; exact p
end
end DL

namespace DL
open PySem PySem.Spec PyProof.Rows L2 HotX
/-! ### what runs while an exception is handled -/
section
variable {prog : Program} {w : World} {A : Around} {E : Value → Shared → Prop} {s : Shared}
theorem next_tuple_end_hot {it t x1 : Addr} {i : Nat} {items : Array Value} {Q : Option Value → Shared → Prop} (hot : HotAt A x1 s.heap) (nx : x1 ≠ it)
    (hit : s.heap.IsTupleIter it t i) (ht : s.heap.IsTuple t items) (hx : items[i]? = none)
    (hQ : ∀ h', Heap.ExtBut it s.heap h' → Q none { s with heap := h' }) : wpAny (model prog w) A (pyNext (.ref it)) Q E s := by
  obtain ⟨o, ho, hc, hd⟩ := id hit
  obtain ⟨ol, hol, _, nl, hdl⟩ := ht
  obtain ⟨hh, o1, vs1, h1, d1, c1⟩ := hot
  unfold pyNext
  refine wpAny_bind (wpAny_attempt (wpAny_callSpecial?_slot (name := Str.ofString "__next__") hit.typeIs F.slot_tuple_iterator_next
    (wpAny_call_entry F.slot_tuple_iterator_next hit.typeIs F.entry_tuple_iterator_next ?_ (F.args_tuple_iterator_next_1 _))))
  show wpAny _ _ (field (.ref it) 0 >>= _) _ _ s
  refine wpAny_bind (wpAny_field ho hd (x := .ref t) rfl ?_)
  show wpAny _ _ (if (Value.ref t == Value.none) = true then _ else _) _ _ s
  rw [if_neg (show ¬ ((Value.ref t == Value.none) = true) from Bool.false_ne_true)]
  show wpAny _ _ (field (.ref it) 1 >>= _) _ _ s
  refine wpAny_bind (wpAny_field ho hd (x := .int i 0) rfl ?_)
  show wpAny _ _ (seqItems? (.ref t) >>= _) _ _ s
  refine wpAny_bind (wpAny_seqItems hol hdl ?_)
  simp only [Int.toNat_natCast, hx]
  refine wpAny_bind (wpAny_rule (wpAny_bind (wpAny_setField ho hd (by simp) ?_)))
  show wpAny _ _ (newExc (.type "StopIteration") [] >>= _) _ _ _
  refine wpAny_bind ?_
  simp only [newExc, newTuple]
  refine wpAny_bind (wpAny_newObj_type ?_ (by size_fits))
  refine wpAny_bind (m := firstArgMember _ _) (wpAny_of_eq (a := Value.none) (by first | rfl | (simp only [firstArgMember]; rfl)) ?_)
  refine wpAny_newObj_type ?_ (by size_fits)
  have h2 := (Heap.get?_update_other s.heap (Obj.mapFields (·.setIfInBounds 0 Value.none)) (Ne.symm nx)).trans h1
  refine raiseNew_hot ⟨hh, o1, vs1, Heap.get?_push_of_some _ (Heap.get?_push_of_some _ h2), d1, c1⟩ (Nat.ne_of_lt (Heap.lt_size (Heap.get?_push_of_some _ h2))) (Heap.get?_push_size _ rfl) rfl (by first | (simp; done) | (simp; omega) | (simp only [Array.size_append]; simp; omega)) ?_
  refine wpAny_bind (wpAny_isInstance (T := "StopIteration") (b := true) ⟨_, Heap.get?_update_self _ (Heap.get?_push_size _ rfl) rfl, rfl⟩ isSubtype_stop ?_)
  refine wpAny_pure (hQ _ fun b o hb e => ?_)
  have e2 := (Heap.get?_update_other s.heap (Obj.mapFields (·.setIfInBounds 0 Value.none)) (Ne.symm hb)).trans e
  rw [Heap.get?_update_other _ _ (Nat.ne_of_gt (Heap.lt_size (Heap.get?_push_of_some _ e2)))]
  exact Heap.get?_push_of_some _ (Heap.get?_push_of_some _ e2)
theorem next_list_end_hot {it t x1 : Addr} {i : Nat} {items : Array Value} {Q : Option Value → Shared → Prop} (hot : HotAt A x1 s.heap) (nx : x1 ≠ it)
    (hit : s.heap.IsListIter it t i) (ht : s.heap.IsList t items) (hx : items[i]? = none)
    (hQ : ∀ h', Heap.ExtBut it s.heap h' → Q none { s with heap := h' }) : wpAny (model prog w) A (pyNext (.ref it)) Q E s := by
  obtain ⟨o, ho, hc, hd⟩ := id hit
  obtain ⟨ol, hol, _, nl, hdl⟩ := ht
  obtain ⟨hh, o1, vs1, h1, d1, c1⟩ := hot
  unfold pyNext
  refine wpAny_bind (wpAny_attempt (wpAny_callSpecial?_slot (name := Str.ofString "__next__") hit.typeIs slot_listiter_next
    (wpAny_call_entry slot_listiter_next hit.typeIs entry_listiter_next ?_ (args_listiter_next _))))
  show wpAny _ _ (field (.ref it) 0 >>= _) _ _ s
  refine wpAny_bind (wpAny_field ho hd (x := .ref t) rfl ?_)
  show wpAny _ _ (if (Value.ref t == Value.none) = true then _ else _) _ _ s
  rw [if_neg (show ¬ ((Value.ref t == Value.none) = true) from Bool.false_ne_true)]
  show wpAny _ _ (field (.ref it) 1 >>= _) _ _ s
  refine wpAny_bind (wpAny_field ho hd (x := .int i 0) rfl ?_)
  show wpAny _ _ (seqItems? (.ref t) >>= _) _ _ s
  refine wpAny_bind (wpAny_seqItems hol hdl ?_)
  simp only [Int.toNat_natCast, hx]
  refine wpAny_bind (wpAny_rule (wpAny_bind (wpAny_setField ho hd (by simp) ?_)))
  show wpAny _ _ (newExc (.type "StopIteration") [] >>= _) _ _ _
  refine wpAny_bind ?_
  simp only [newExc, newTuple]
  refine wpAny_bind (wpAny_newObj_type ?_ (by size_fits))
  refine wpAny_bind (m := firstArgMember _ _) (wpAny_of_eq (a := Value.none) (by first | rfl | (simp only [firstArgMember]; rfl)) ?_)
  refine wpAny_newObj_type ?_ (by size_fits)
  have h2 := (Heap.get?_update_other s.heap (Obj.mapFields (·.setIfInBounds 0 Value.none)) (Ne.symm nx)).trans h1
  refine raiseNew_hot ⟨hh, o1, vs1, Heap.get?_push_of_some _ (Heap.get?_push_of_some _ h2), d1, c1⟩ (Nat.ne_of_lt (Heap.lt_size (Heap.get?_push_of_some _ h2))) (Heap.get?_push_size _ rfl) rfl (by first | (simp; done) | (simp; omega) | (simp only [Array.size_append]; simp; omega)) ?_
  refine wpAny_bind (wpAny_isInstance (T := "StopIteration") (b := true) ⟨_, Heap.get?_update_self _ (Heap.get?_push_size _ rfl) rfl, rfl⟩ isSubtype_stop ?_)
  refine wpAny_pure (hQ _ fun b o hb e => ?_)
  have e2 := (Heap.get?_update_other s.heap (Obj.mapFields (·.setIfInBounds 0 Value.none)) (Ne.symm hb)).trans e
  rw [Heap.get?_update_other _ _ (Nat.ne_of_gt (Heap.lt_size (Heap.get?_push_of_some _ e2)))]
  exact Heap.get?_push_of_some _ (Heap.get?_push_of_some _ e2)
end
theorem HotC.away {X : Cx} {pins : List (Addr × Obj)} {σ : L2.St} {H : Hp} {s : Shared} {it : Addr} (c : L2H.HotC X) (I : Inv X pins σ H s) (f : FpOk X pins H it) : ∃ x1, HotAt X.A x1 s.heap ∧ x1 ≠ it := by
  obtain ⟨p, ⟨hh, v1, e1, c1⟩, hp⟩ := c
  have e := (I.pin p (List.mem_append_left _ hp)).1
  refine ⟨p.1, ⟨hh, p.2, v1, e, e1, c1⟩, fun z => ?_⟩
  obtain ⟨f0, f1, f2, f3, f4, f5⟩ := f
  first
  | exact f5 p (List.mem_append_left _ hp) z
  | exact f5 p (List.mem_append_left _ hp) z.symm
  | exact f4 p (List.mem_append_left _ hp) z
  | exact f4 p (List.mem_append_left _ hp) z.symm
  | exact f3 p (List.mem_append_left _ hp) z
  | exact f3 p (List.mem_append_left _ hp) z.symm
theorem turn_tupleH {P : Program} {w : World} {K : PySem.W.Frag} {tg : Expr} (a it : Addr) : L2H.TurnH P w K tg (Itt K a) [it] it (fun i h => h.IsTupleIter it a i) where
  mem := by simp
  obj := fun i h st b hb => by
    have e : b = it := by simpa using hb
    subst e
    obtain ⟨o, e, c, d⟩ := st
    exact ⟨o, e, fun v z => by rw [d] at z; cases z⟩
  keep := fun i h h' st k => st.at fun o e => k it (by simp) o e
  item := by
    rintro X rfl rfl rfl hc i pins s σ H E I hf st ⟨xs, x, hq, hx⟩
    obtain ⟨its, rv, p, hz⟩ := I.tuple hq
    obtain ⟨u, hu, ru⟩ := rv.get hx
    obtain ⟨f0, f1, f2, f3, f4, f5⟩ := hf it (by simp)
    refine wpAny_pyNext_tuple_item st (show s.heap.IsTuple a its.toArray from p) (x := u) (by simpa using hu) fun h' st' sb => ?_
    have I1 : Inv X pins σ H { s with heap := h' } := I.turned (t' := s.toks) (fun b o hb e => (sb.2 b hb).trans e) f0 f1 f3 f4 f5
    obtain ⟨o, e, c, d⟩ := id st'
    exact ⟨u, rfl, go_of (s := { s with heap := h' }) e c d (by decide) ⟨x, H, I1, ru, ⟨rfl, fun ys hy => by rw [I.tuple_inj hy hq]; exact hx⟩, st', fun b hb => (hf b hb).1⟩⟩
  done := by
    rintro X rfl rfl rfl hc i pins s σ H E I hf st ⟨xs, hq, hx⟩
    obtain ⟨its, rv, p, hz⟩ := I.tuple hq
    obtain ⟨x1, hot, nx⟩ := HotC.away hc I (hf it (by simp))
    obtain ⟨f0, f1, f2, f3, f4, f5⟩ := hf it (by simp)
    have hl := rv.length
    exact next_tuple_end_hot hot nx st (show s.heap.IsTuple a its.toArray from p) (by simp; omega) fun h' eb => ⟨rfl, I.turned (t' := s.toks) (fun b o hb e => eb b o hb e) f0 f1 f3 f4 f5⟩
  self := fun _ _ _ _ _ st h => wpAny_pyIter_tupleiter st h
theorem turn_listH {P : Program} {w : World} {K : PySem.W.Frag} {tg : Expr} (a it : Addr) : L2H.TurnH P w K tg (Itl K a) [it] it (fun i h => h.IsListIter it a i) where
  mem := by simp
  obj := fun i h st b hb => by
    have e : b = it := by simpa using hb
    subst e
    obtain ⟨o, e, c, d⟩ := st
    exact ⟨o, e, fun v z => by rw [d] at z; cases z⟩
  keep := fun i h h' st k => st.at fun o e => k it (by simp) o e
  item := by
    rintro X rfl rfl rfl hc i pins s σ H E I hf st ⟨xs, x, hq, hx⟩
    obtain ⟨its, rv, p, hz⟩ := I.list hq
    obtain ⟨u, hu, ru⟩ := rv.get hx
    obtain ⟨f0, f1, f2, f3, f4, f5⟩ := hf it (by simp)
    refine wpAny_pyNext_list_item st p.isList (x := u) (by simpa using hu) fun h' st' sb => ?_
    have I1 : Inv X pins σ H { s with heap := h' } := I.turned (t' := s.toks) (fun b o hb e => (sb.2 b hb).trans e) f0 f1 f3 f4 f5
    obtain ⟨o, e, c, d⟩ := id st'
    exact ⟨u, rfl, go_of (s := { s with heap := h' }) e c d (by decide) ⟨x, H, I1, ru, ⟨rfl, fun ys hy => by rw [I.list_inj hy hq]; exact hx⟩, st', fun b hb => (hf b hb).1⟩⟩
  done := by
    rintro X rfl rfl rfl hc i pins s σ H E I hf st ⟨xs, hq, hx⟩
    obtain ⟨its, rv, p, hz⟩ := I.list hq
    obtain ⟨x1, hot, nx⟩ := HotC.away hc I (hf it (by simp))
    obtain ⟨f0, f1, f2, f3, f4, f5⟩ := hf it (by simp)
    have hl := rv.length
    exact next_list_end_hot hot nx st p.isList (by simp; omega) fun h' eb => ⟨rfl, I.turned (t' := s.toks) (fun b o hb e => eb b o hb e) f0 f1 f3 f4 f5⟩
  self := fun _ _ _ _ _ st h => wpAny_pyIter_listiter st h
section
variable {X : Cx} {tg : Expr}
theorem pi_listH {l : Expr} {tl : TE} (hl : PE X l tl) : L2H.PIH X tg l (iList X.K tl) := by
  refine ⟨fun pins s σ H R I h => ?_⟩
  refine thn (hl.run pins s σ H _ I h) fun v s1 ⟨x, H1, I1, r1, q1⟩ => ?_
  obtain ⟨a, e, ⟨xs, hq⟩, q⟩ := q1
  subst e
  cases r1
  obtain ⟨its, rv, p, hz⟩ := I1.list hq
  refine wpAny_pyIter_list p.isList ?_
  refine ⟨s1.heap.objs.size, [s1.heap.objs.size], _, _, H1, rfl, I1.kept (t' := s1.toks) fun b o e => Heap.get?_push_of_some _ e, turn_listH a _, ⟨_, Heap.get?_push_size _ rfl, rfl, rfl⟩, fun b hb => ?_, q⟩
  have e : b = s1.heap.objs.size := by simpa using hb
  subst e
  exact I1.fpOk (Nat.le_refl _) (I1.hok.fresh (Nat.le_refl _))
theorem pi_tupH {l : Expr} {tl : TE} (hl : PE X l tl) : L2H.PIH X tg l (L2.iTup X.K tl) := by
  refine ⟨fun pins s σ H R I h => ?_⟩
  refine thn (hl.run pins s σ H _ I h) fun v s1 ⟨x, H1, I1, r1, q1⟩ => ?_
  obtain ⟨a, e, ⟨xs, hq⟩, q⟩ := q1
  subst e
  cases r1
  obtain ⟨its, rv, p, hz⟩ := I1.tuple hq
  refine wpAny_pyIter_tuple (show s1.heap.IsTuple a its.toArray from p) ?_
  refine ⟨s1.heap.objs.size, [s1.heap.objs.size], _, _, H1, rfl, I1.kept (t' := s1.toks) fun b o e => Heap.get?_push_of_some _ e, turn_tupleH a _, ⟨_, Heap.get?_push_size _ rfl, rfl, rfl⟩, fun b hb => ?_, q⟩
  have e : b = s1.heap.objs.size := by simpa using hb
  subst e
  exact I1.fpOk (Nat.le_refl _) (I1.hok.fresh (Nat.le_refl _))
theorem pi_range2H {a b : Expr} {ta : TA} {p pos : Pos} (hg : Gl X "range") (hm : X.mg "range" = none) (ha : PA X [a, b] ta) (hs : starEach [a, b] X.env = [(false, eval a X.env), (false, eval b X.env)] := by rfl) (hs2 : starEach [b] X.env = [(false, eval b X.env)] := by rfl) :
    L2H.PIH X tg (.Call (.Name "range" p) [a, b] [] pos) (iRng2 ta) := by
  refine ⟨fun pins s σ H R I h => ?_⟩
  refine Call_ (ld_blt I hg hm boot_range (PyProof.Rows.callWith_type1 (thn (ha.run pos pins s σ H _ I h) fun us s1 ⟨vs, H1, I1, r1, q1⟩ => ?_) (by rw [hs, hs2]) (by rw [hs2]; rfl)))
  obtain ⟨i, j, e, ⟨q1, q2, q3, q4⟩, q⟩ := q1
  subst e
  cases r1 with
  | cons r rr =>
    cases rr with
    | cons r' rr =>
      cases rr
      obtain ⟨t, rfl⟩ := r
      obtain ⟨t', rfl⟩ := r'
      exact call_range_2 (L2H.range_itH I1 q1 q2 q3 q4 q)
end
abbrev PDIH (X : Cx) (xi : Xi) (W : WX) (Z : Hp → Hp → Hp → Hp → Prop) (tg e : Expr) (it : En → Rs (List D)) : Prop := L2H.PIH X tg e (tI X.K xi W Z it)
theorem PIH.imp {X : Cx} {tg e : Expr} {t t' : TI} (h : L2H.PIH X tg e t) (i : ∀ σ H R, t' σ H R → t σ H R) : L2H.PIH X tg e t' := ⟨fun pins s σ H R I q => h.run pins s σ H R I (i _ _ _ q)⟩
theorem pi_orH {X : Cx} {tg e : Expr} {t1 t2 : TI} (h1 : L2H.PIH X tg e t1) (h2 : L2H.PIH X tg e t2) : L2H.PIH X tg e (fun σ H R => t1 σ H R ∨ t2 σ H R) :=
  ⟨fun pins s σ H R I q => q.elim (h1.run pins s σ H R I) (h2.run pins s σ H R I)⟩
section
variable {X : Cx} {xi : Xi} {W : WX} {tg e e2 : Expr} {f : En → Rs Sl} {fs : En → Rs (List Sl)} {it : En → Rs (List D)} {p p2 : Pos}
theorem pdih_lst (he : PD X xi W e f) : PDIH X xi W zF tg e (iLst f) := by
  refine PIH.imp (pi_listH he) ?_
  rintro σ H R ⟨F0, H0, F, δ, st, p⟩
  refine tD_use st (fun x v F1 H1 e1 g1 r1 => ?_) (fun x F1 H1 e1 g1 => by simp only [iLst, e1, Rs.bind] at p; exact p F1 H1 g1) (fun e1 => by simp only [iLst, e1, Rs.bind] at p; exact p)
  simp only [iLst, e1, Rs.bind] at p
  cases e2 : itL x with
  | none => rw [e2] at p; exact p.elim
  | some ds =>
    rw [e2] at p
    obtain ⟨pp, xs, rfl, hS, ra⟩ := r1.rd.itl e2
    exact ⟨pp, rfl, ⟨xs, same_l g1.sm hS⟩, p _ F1 H1 g1 (itl_ok (fun F' H' q s => same_l s (same_l q hS)) fun F' H' q => RpA.mono q _ _ ra)⟩
theorem pdih_tup (he : PD X xi W e f) : PDIH X xi W zF tg e (DL.iTup f) := by
  refine PIH.imp (pi_tupH he) ?_
  rintro σ H R ⟨F0, H0, F, δ, st, p⟩
  refine tD_use st (fun x v F1 H1 e1 g1 r1 => ?_) (fun x F1 H1 e1 g1 => by simp only [DL.iTup, e1, Rs.bind] at p; exact p F1 H1 g1) (fun e1 => by simp only [DL.iTup, e1, Rs.bind] at p; exact p)
  simp only [DL.iTup, e1, Rs.bind] at p
  cases e2 : tupOf x with
  | none => rw [e2] at p; exact p.elim
  | some ds =>
    rw [e2] at p
    obtain ⟨pp, xs, rfl, hS, ra⟩ := r1.rd.tupF e2
    exact ⟨pp, rfl, ⟨xs, same_t g1.sm hS⟩, p _ F1 H1 g1 (itt_ok (fun F' H' q s => same_t s (same_t q hS)) fun F' H' q => RpA.mono q _ _ ra)⟩
theorem pdih_range1 {Z : Hp → Hp → Hp → Hp → Prop} (hG : Gl X "range") (hm : X.mg "range" = none) (ha : PDA X xi W [e] fs) (h1 : starEach [e] X.env = [(false, eval e X.env)] := by rfl) : PDIH X xi W Z tg (.Call (.Name "range" p) [e] [] p2) (iCall rg1 fs) := by
  refine PIH.imp (L2H.pi_range1H hG hm ha h1) ?_
  rintro σ H R ⟨F0, H0, F, δ, st, p⟩
  refine tA_use st (fun x v F1 H1 e1 g1 r1 => ?_) (fun x F1 H1 e1 g1 => by simp only [iCall, e1, Rs.bind] at p; exact p F1 H1 g1) (fun e1 => by simp only [iCall, e1, Rs.bind] at p; exact p)
  simp only [iCall, e1, Rs.bind] at p
  cases e2 : rg1 x with
  | none => rw [e2] at p; exact p.elim
  | some q =>
    rw [e2] at p
    unfold rg1 at e2
    split at e2
    · split at e2
      · rename_i j hj
        cases e2
        obtain ⟨_, _, h3, h4⟩ := rgOk_ok hj
        cases r1 with
        | cons r1 r2 =>
          cases r2
          have r1 : Rp X.K F1 _ (.int j) := r1
          cases r1
          exact ⟨j, rfl, h3, h4, p _ F1 H1 g1 itr_ok⟩
      · cases e2
    · cases e2
theorem pdih_range2 {Z : Hp → Hp → Hp → Hp → Prop} (hG : Gl X "range") (hm : X.mg "range" = none) (ha : PDA X xi W [e, e2] fs) (h1 : starEach [e, e2] X.env = [(false, eval e X.env), (false, eval e2 X.env)] := by rfl) (h2 : starEach [e2] X.env = [(false, eval e2 X.env)] := by rfl) : PDIH X xi W Z tg (.Call (.Name "range" p) [e, e2] [] p2) (iCall rg2 fs) := by
  refine PIH.imp (pi_range2H hG hm ha h1 h2) ?_
  rintro σ H R ⟨F0, H0, F, δ, st, p⟩
  refine tA_use st (fun x v F1 H1 e1 g1 r1 => ?_) (fun x F1 H1 e1 g1 => by simp only [iCall, e1, Rs.bind] at p; exact p F1 H1 g1) (fun e1 => by simp only [iCall, e1, Rs.bind] at p; exact p)
  simp only [iCall, e1, Rs.bind] at p
  cases e2 : rg2 x with
  | none => rw [e2] at p; exact p.elim
  | some q =>
    rw [e2] at p
    unfold rg2 at e2
    split at e2
    · split at e2
      · rename_i i j hj
        cases e2
        have h3 := rgOk_ok hj
        cases r1 with
        | cons r1 r2 =>
          cases r2 with
          | cons r2 r3 =>
            cases r3
            have r1 : Rp X.K F1 _ (.int i) := r1
            have r2 : Rp X.K F1 _ (.int j) := r2
            cases r1; cases r2
            exact ⟨i, j, rfl, h3, p _ F1 H1 g1 itr_ok⟩
      · cases e2
    · cases e2
/-- a list that stays, a tuple -/
def iSeqT (f : En → Rs Sl) : En → Rs (List D) := fun δ => (f δ).bind fun s => match tupOf s with
  | some ds => .ok ds
  | none => ofD (itL s) .ok
theorem seqT_or {K : PySem.W.Frag} {Z : Hp → Hp → Hp → Hp → Prop} {σ : L2.St} {H : Hp} {R : It → Hp → Prop} (h : tI K xi W Z (iSeqT f) σ H R) : tI K xi W Z (iLst f) σ H R ∨ tI K xi W Z (DL.iTup f) σ H R := by
  obtain ⟨F0, H0, F, δ, st, p⟩ := h
  unfold iSeqT at p
  cases e1 : f δ with
  | ok s =>
    rw [e1] at p
    simp only [Rs.bind] at p
    cases e2 : tupOf s with
    | some ds =>
      rw [e2] at p
      exact .inr ⟨F0, H0, F, δ, st, by unfold DL.iTup; rw [e1]; simp only [Rs.bind, e2, ofD]; exact p⟩
    | none =>
      rw [e2] at p
      exact .inl ⟨F0, H0, F, δ, st, by unfold iLst; rw [e1]; simp only [Rs.bind]; exact p⟩
  | er c =>
    rw [e1] at p
    exact .inl ⟨F0, H0, F, δ, st, by unfold iLst; rw [e1]; exact p⟩
  | bad => rw [e1] at p; exact p.elim
theorem pdi_seqT (he : PD X xi W e f) : PDI X xi W zF tg e (iSeqT f) := PI.imp (pi_or (pdi_lst he) (pdi_tup he)) fun _ _ _ h => seqT_or h
theorem pdih_seqT (he : PD X xi W e f) : PDIH X xi W zF tg e (iSeqT f) := PIH.imp (pi_orH (pdih_lst he) (pdih_tup he)) fun _ _ _ h => seqT_or h
variable {a b : En → Out} {pos : Pos} {A : List Stmt} {t : Tg}
theorem pds_forH (hp : PassesOwn (model X.prog X.w) X.A X.env X.xe) (hc : L2H.HotC X) (hi : PDIH X xi W zF tg e it) (hg : PDG X xi tg t) (hb : PDB X xi W A b) (hs : ∀ x, foldedSetIterable e X.env x = pure x := by intro _; rfl) :
    PDS X xi W (.For tg e A [] pos) (sFor it t b) := by
  refine PS.imp (L2H.ps_forH hp hc hi hg hb hs) ?_
  rintro E σ H ⟨F0, H0, F, δ, st, p⟩
  refine ⟨F0, H0, F, δ, st, ?_⟩
  unfold sFor at p
  cases e1 : it δ with
  | bad => rw [e1] at p; exact p
  | er c => rw [e1] at p; exact fun F1 H1 g1 => p σ F1 H1 (st.grow g1) (g1.ff st.sm)
  | ok ds =>
    rw [e1] at p
    intro J F1 H1 g1 j
    have st1 := st.grow g1
    refine ⟨fun i m σ H => m = ds.length - i ∧ i ≤ ds.length ∧ ∃ F' δ, Stt X.K xi F0 H0 F' H σ δ ∧ Same F1 F' ∧ PostS X.K xi W F0 H0 F' H E (forL t b (ds.drop i) δ), ⟨_, rfl, Nat.zero_le _, F1, δ, st1, Same.refl F1, PostS.later p (g1.ff st.sm)⟩, ?_⟩
    rintro i m σ2 H2 ⟨rfl, hi, F', δ', st', s', q⟩
    by_cases hlt : i < ds.length
    · have hd : ds[i]? = some ds[i] := List.getElem?_eq_getElem hlt
      rw [forL_drop hd] at q
      refine .inr ⟨j.go i F' H2 s' st'.sm hlt, fun σ' H' => ∃ F' δ, Stt X.K xi F0 H0 F' H' σ' δ ∧ Same F1 F' ∧ PostS X.K xi W F0 H0 F' H' E (forL t b (ds.drop (i + 1)) δ), fun σ' H' h => ⟨ds.length - (i + 1), by omega, rfl, hlt, h⟩, fun x H3 y => ?_⟩
      obtain ⟨F3, g3, rx⟩ := j.yld i _ F' H2 x H3 s' st'.sm hd y
      cases e2 : t (.im ds[i]) δ' with
      | none => rw [e2] at q; exact q.elim
      | some δ1 =>
        rw [e2] at q
        refine ⟨F0, H0, F', H2, F3, δ', .im ds[i], δ1, st', g3, rx, e2, fun σ4 F4 st4 s4 => ⟨F0, H0, F4, δ1, st4, ?_⟩⟩
        exact lp_step (PostS.later (H1 := H3) q s4) fun σ5 F5 H5 δ5 st5 s5 q5 => ⟨F5, δ5, st5, (s'.trans s4).trans s5, q5⟩
    · have e : i = ds.length := by omega
      subst e
      rw [List.drop_length] at q
      exact .inl ⟨j.stop F' H2 s' st'.sm, q σ2 F' H2 st' (Same.refl F')⟩
end
/-! ### a def as it is called while an exception is handled -/
abbrev cxDH (P : Program) (w : World) (K : PySem.W.Frag) (mg : Str → Option Value) (base : Heap) (N : List Str) (s : Stmt) (qual : Str) (f : Addr) (cdv : Value) (A : Around) (outer : List Env) (sh : Shared) (H : Hp) (E : XK) (p : Addr × Obj) : Cx :=
  L2H.cxH (L2N.CX P w) P w K mg base N qual (defScope s) f cdv A outer sh H E p
theorem RoomH.units {k : Nat} {A : Around} (r : L2H.RoomH k A) : A.units + 64 < cLine := by have := r.un; omega
theorem RoomH.u65 {k : Nat} {A : Around} (r : L2H.RoomH k A) : A.units + 65 < cLine := by have := r.un; omega
theorem hot_suite {X : Cx} {a : Addr} {oe : Obj} {cls : Value} {d : Option Addr} {pn : List (Addr × Obj)} (hz : L2N.Zn cls d oe) (hf : ∃ vs, oe.data = .fields vs) : L2H.HotC (X.suite a ((a, oe) :: pn)) := by
  obtain ⟨vs, e⟩ := hf
  exact ⟨(a, oe), ⟨rfl, vs, e, hz.2.2 vs e⟩, .head _⟩
structure CalH (P : Program) (w : World) (K : PySem.W.Frag) (mg : Str → Option Value) (base : Heap) (x : Str) (ps : List Str) (k n : Nat) (m : List Sl → Rs Sl) : Prop where
  ex : ∃ fd, L2H.FnH P w K mg base (L2N.CX P w) k (He.ga K x) fd ps (spD K n m) ∧ Binds K fd ps []
  gl : mg x = some (.ref (He.ga K x))
  kp : PySem.W.keepIn K (.ref (He.ga K x)) = true
section
variable {P : Program} {w : World} {K : PySem.W.Frag} {mg : Str → Option Value} {base : Heap} {fd : FuncData} {x : Str} {st : Stmt} {N ps : List Str} {k n : Nat} {g : En → Out} {m : List Sl → Rs Sl}
theorem cal_mkH (F : FnD K x st (He.ga K x) fd) (S : FnScope N ps (defScope st)) (gl : mg x = some (.ref (He.ga K x))) (hb : Binds K fd ps []) (hn : ps.length = n)
    (body : ∀ (cdv : Value) (A : Around) (outer : List Env) (sh : Shared) (H : Hp) (E : XK) (p : Addr × Obj), L2H.RoomH k (cxDH P w K mg base N st x (He.ga K x) cdv A outer sh H E p).A → L2N.Takes (cxDH P w K mg base N st x (He.ga K x) cdv A outer sh H E p) (wDef E) →
      PassesOwn (model P w) (cxDH P w K mg base N st x (He.ga K x) cdv A outer sh H E p).A (cxDH P w K mg base N st x (He.ga K x) cdv A outer sh H E p).env (cxDH P w K mg base N st x (He.ga K x) cdv A outer sh H E p).xe →
      L2H.HotC (cxDH P w K mg base N st x (He.ga K x) cdv A outer sh H E p) → PDB (cxDH P w K mg base N st x (He.ga K x) cdv A outer sh H E p) [] (wDef E) (defBody st) g) : CalH P w K mg base x ps (k + 1) n (fnM N.length g) := by
  subst hn
  refine ⟨⟨fd, ?_, hb⟩, gl, F.kp⟩
  obtain ⟨oc, od, dV, kV, doc, pm, an, cdv, ct, osl, rfl, lk, hcd, _, _⟩ := F.ex
  refine L2H.fn_ofH lk hcd S (fun vs H Q E h => h.1) fun A outer sh H vs Q E p hot hr h => ?_
  refine ⟨_, body cdv A outer sh H E p hr (L2N.takes_of rfl rfl rfl rfl) (passes_of rfl) ⟨p, hot, .head _⟩, ?_⟩
  obtain ⟨hl, F, as, sm, r, hf, q⟩ := h
  refine ⟨F, H, F, initE N.length as, Stt.init sm r hf, ?_⟩
  unfold fnM at q
  cases e : g (initE N.length as) with
  | nx δ =>
    rw [e] at q
    exact fun σ' F' H' st' s' => q .non F' H' st'.gr .non
  | rt s =>
    rw [e] at q
    exact fun v F' H' g' r' => q v F' H' g' r'
  | rm d δ =>
    rw [e] at q
    exact fun v σ' F' H' st' _ r' => q v F' H' st'.gr r'
  | er c δ =>
    rw [e] at q
    exact fun σ' F' H' st' s' => q F' H' st'.gr
  | bk δ => rw [e] at q; exact q.elim
  | ct δ => rw [e] at q; exact q.elim
  | bad => rw [e] at q; exact q.elim
end
section
variable {X : Cx} {xi : Xi} {W : WX} {e : Expr} {es : List Expr} {fs : En → Rs (List Sl)} {p pos : Pos} {j k n : Nat} {x : Str} {ps : List Str} {m : List Sl → Rs Sl}
theorem pd_callH (C : CalH X.prog X.w X.K X.mg X.base x ps j n m) (hr : L2H.RoomH k X.A) (hj : j ≤ k) (hc : L2H.HotC X) (tk : L2N.Takes X W) (ha : PDA X xi W (e :: es) fs) (hl : eLen n fs) (hg : Gl X x := by rfl) (hdb : (x == ("__debug__" : Str)) = false := by decide)
    (he : starEach (e :: es) X.env = (false, eval e X.env) :: starEach es X.env := by rfl) (hpl : (backTo pos (starEach es X.env)).any (·.1) = false := by rfl) : PD X xi W (.Call (.Name x p) (e :: es) [] pos) (eCall m fs) := by
  obtain ⟨fd, F, b⟩ := C.ex
  refine PE.imp (L2H.pe_callH F (hr.mono hj) hc hg C.gl C.kp b (fun σ => L2N.passAt tk σ) ha hdb he hpl) ?_
  rintro σ H Q ⟨F0, H0, F, δ, st, p⟩
  refine tA_use st (fun x v F1 H1 e1 g1 r1 => ?_) (fun c F1 H1 e1 g1 => by simp only [eCall, e1, Rs.bind] at p; exact p F1 H1 g1) (fun e1 => by simp only [eCall, e1, Rs.bind] at p; exact p)
  simp only [eCall, e1, Rs.bind] at p
  by_cases hf : x.all froz = true
  · rw [if_pos hf] at p
    refine ⟨by rw [r1.length]; exact hl δ x e1, F1, x, g1.sm, r1, hf, ?_⟩
    cases em : m x with
    | ok s =>
      rw [em] at p
      exact fun v F' H' gg r => p v F' H' (g1.trans gg) (r.pre g1.hh)
    | er c =>
      rw [em] at p
      exact fun F' H' gg => p F' H' (g1.trans gg)
    | bad => rw [em] at p; exact p
  · rw [if_neg hf] at p; exact p.elim
end
theorem takesN {X : Cx} : L2N.Takes X (fun _ _ _ _ => False) := fun _ _ x => by
  obtain ⟨_, _, _, _, _, _, _, _, _, _, _, _, _, _, _, _, z⟩ := x
  exact z.elim
theorem roomS {X : Cx} {a : Addr} {pn : List (Addr × Obj)} {k : Nat} (r : Room k X.A) : L2H.RoomH k (X.suite a pn).A := ⟨r.dp, r.un⟩
end DL

namespace DL
open PySem PySem.Spec PyProof.Rows L2 HotX
/-! ### sum, max, min of a list or a tuple, an exception handled or not -/
section
variable {prog : Program} {w : World} {A : Around} {E : Value → Shared → Prop} {s : Shared} {l : Addr} {its : List Value} {ns : List Int} {Q : Value → Shared → Prop}
/-- l can be walked: its parts are items -/
def Wlk (prog : Program) (w : World) (A : Around) (s : Shared) (l : Addr) (items : Array Value) : Prop :=
  ∀ (E : Value → Shared → Prop), wpAny (model prog w) A (pyIter (.ref l)) (fun it s₂ => ∃ I fp wr St, it = .ref I ∧ Walks prog w A I fp wr items.size (fun i v => items[i]? = some v) St ∧ St 0 s₂.heap ∧ (∀ b ∈ fp, b < s₂.heap.objs.size) ∧
    s₂.gens = s.gens ∧ s₂.drawn = s.drawn ∧ s₂.os = s.os ∧ (∀ b o, s.heap.get? b = some o → s₂.heap.get? b = some o ∧ b ∉ wr)) E s
theorem wlk_tup (hh : A.handled = none) {items : Array Value} (hl : s.heap.IsTuple l items) : Wlk prog w A s l items := by
  intro E
  have hlt : l < s.heap.objs.size := by obtain ⟨_, e, _⟩ := hl; exact Heap.lt_size e
  refine wpAny_pyIter_tuple hl ?_
  refine ⟨_, _, _, _, rfl, Walks.tuple hh _ l (Nat.ne_of_lt hlt) items, ⟨⟨_, Heap.get?_push_size _ rfl, rfl, rfl⟩, hl.push _⟩, (fun b hb => ?_), rfl, rfl, rfl, fun b o e => ⟨Heap.get?_push_of_some _ e, fun hb => absurd (Heap.lt_size e) ((List.mem_singleton.mp hb) ▸ Nat.lt_irrefl _)⟩⟩
  show b < (s.heap.push _).objs.size
  rw [Heap.size_push]
  rcases List.mem_cons.mp hb with rfl | hb
  · exact Nat.lt_succ_self _
  · rcases List.mem_cons.mp hb with rfl | hb
    · exact Nat.lt_succ_of_lt hlt
    · cases hb
theorem wlk_list (hh : A.handled = none) {items : Array Value} (hl : s.heap.IsList l items) : Wlk prog w A s l items := by
  intro E
  have hlt : l < s.heap.objs.size := by obtain ⟨_, e, _⟩ := hl; exact Heap.lt_size e
  refine wpAny_pyIter_list hl ?_
  refine ⟨_, _, _, _, rfl, Walks.list hh _ l (Nat.ne_of_lt hlt) items, ⟨⟨_, Heap.get?_push_size _ rfl, rfl, rfl⟩, hl.push _⟩, (fun b hb => ?_), rfl, rfl, rfl, fun b o e => ⟨Heap.get?_push_of_some _ e, fun hb => absurd (Heap.lt_size e) ((List.mem_singleton.mp hb) ▸ Nat.lt_irrefl _)⟩⟩
  show b < (s.heap.push _).objs.size
  rw [Heap.size_push]
  rcases List.mem_cons.mp hb with rfl | hb
  · exact Nat.lt_succ_self _
  · rcases List.mem_cons.mp hb with rfl | hb
    · exact Nat.lt_succ_of_lt hlt
    · cases hb
theorem walksH_tup {x1 : Addr} {o1 : Obj} {vs1 : Array Value} (hh : A.handled = some (.ref x1)) (d1 : o1.data = .fields vs1) (c1 : vs1[2]? = some .none) (I ax : Addr) (hne : ax ≠ I) (nx : x1 ≠ I) (items : Array Value) :
    Walks prog w A I [I, ax, x1] [I] items.size (fun i v => items[i]? = some v) (fun i h => h.IsTupleIter I ax i ∧ h.IsTuple ax items ∧ h.get? x1 = some o1) where
  sub := fun b hb => by simp at hb; simp [hb]
  frame := fun _ _ _ st hk => ⟨st.1.at fun o e => hk I (by simp) o e, st.2.1.at fun o e => hk ax (by simp) o e, hk x1 (by simp) _ st.2.2⟩
  item := fun i s Q E hi st hQ => by
    refine wpAny_pyNext_tuple_item st.1 st.2.1 (x := items[i]) (by simp [hi]) fun h' hit' hs' => ?_
    exact hQ _ h' s.toks (by simp [hi]) ⟨hit', st.2.1.extBut hs'.extBut hne, hs'.extBut x1 o1 nx st.2.2⟩ fun b o hb e => hs'.extBut b o (fun h => hb (by simp [h])) e
  done := fun s Q E st hQ => next_tuple_end_hot ⟨hh, o1, vs1, st.2.2, d1, c1⟩ nx st.1 st.2.1 (by simp) fun h' he' => hQ h' s.toks fun b o hb e => he' b o (fun h => hb (by simp [h])) e
  self := fun _ _ _ _ st hQ => wpAny_pyIter_tupleiter st.1 hQ
theorem walksH_list {x1 : Addr} {o1 : Obj} {vs1 : Array Value} (hh : A.handled = some (.ref x1)) (d1 : o1.data = .fields vs1) (c1 : vs1[2]? = some .none) (I ax : Addr) (hne : ax ≠ I) (nx : x1 ≠ I) (items : Array Value) :
    Walks prog w A I [I, ax, x1] [I] items.size (fun i v => items[i]? = some v) (fun i h => h.IsListIter I ax i ∧ h.IsList ax items ∧ h.get? x1 = some o1) where
  sub := fun b hb => by simp at hb; simp [hb]
  frame := fun _ _ _ st hk => ⟨st.1.at fun o e => hk I (by simp) o e, st.2.1.at fun o e => hk ax (by simp) o e, hk x1 (by simp) _ st.2.2⟩
  item := fun i s Q E hi st hQ => by
    refine wpAny_pyNext_list_item st.1 st.2.1 (x := items[i]) (by simp [hi]) fun h' hit' hs' => ?_
    exact hQ _ h' s.toks (by simp [hi]) ⟨hit', st.2.1.extBut hs'.extBut hne, hs'.extBut x1 o1 nx st.2.2⟩ fun b o hb e => hs'.extBut b o (fun h => hb (by simp [h])) e
  done := fun s Q E st hQ => next_list_end_hot ⟨hh, o1, vs1, st.2.2, d1, c1⟩ nx st.1 st.2.1 (by simp) fun h' he' => hQ h' s.toks fun b o hb e => he' b o (fun h => hb (by simp [h])) e
  self := fun _ _ _ _ st hQ => wpAny_pyIter_listiter st.1 hQ
theorem wlk_tupH {x1 : Addr} (hot : HotAt A x1 s.heap) {items : Array Value} (hl : s.heap.IsTuple l items) : Wlk prog w A s l items := by
  intro E
  obtain ⟨hh, o1, vs1, g1, d1, c1⟩ := hot
  have hlt : l < s.heap.objs.size := by obtain ⟨_, e, _⟩ := hl; exact Heap.lt_size e
  have hx : x1 < s.heap.objs.size := Heap.lt_size g1
  refine wpAny_pyIter_tuple hl ?_
  refine ⟨_, _, _, _, rfl, walksH_tup hh d1 c1 _ l (Nat.ne_of_lt hlt) (Nat.ne_of_lt hx) items, ⟨⟨_, Heap.get?_push_size _ rfl, rfl, rfl⟩, hl.push _, Heap.get?_push_of_some _ g1⟩, (fun b hb => ?_), rfl, rfl, rfl, fun b o e => ⟨Heap.get?_push_of_some _ e, fun hb => absurd (Heap.lt_size e) ((List.mem_singleton.mp hb) ▸ Nat.lt_irrefl _)⟩⟩
  show b < (s.heap.push _).objs.size
  rw [Heap.size_push]
  simp only [List.mem_cons, List.not_mem_nil, or_false] at hb
  rcases hb with rfl | rfl | rfl
  · exact Nat.lt_succ_self _
  · exact Nat.lt_succ_of_lt hlt
  · exact Nat.lt_succ_of_lt hx
theorem wlk_listH {x1 : Addr} (hot : HotAt A x1 s.heap) {items : Array Value} (hl : s.heap.IsList l items) : Wlk prog w A s l items := by
  intro E
  obtain ⟨hh, o1, vs1, g1, d1, c1⟩ := hot
  have hlt : l < s.heap.objs.size := by obtain ⟨_, e, _⟩ := hl; exact Heap.lt_size e
  have hx : x1 < s.heap.objs.size := Heap.lt_size g1
  refine wpAny_pyIter_list hl ?_
  refine ⟨_, _, _, _, rfl, walksH_list hh d1 c1 _ l (Nat.ne_of_lt hlt) (Nat.ne_of_lt hx) items, ⟨⟨_, Heap.get?_push_size _ rfl, rfl, rfl⟩, hl.push _, Heap.get?_push_of_some _ g1⟩, (fun b hb => ?_), rfl, rfl, rfl, fun b o e => ⟨Heap.get?_push_of_some _ e, fun hb => absurd (Heap.lt_size e) ((List.mem_singleton.mp hb) ▸ Nat.lt_irrefl _)⟩⟩
  show b < (s.heap.push _).objs.size
  rw [Heap.size_push]
  simp only [List.mem_cons, List.not_mem_nil, or_false] at hb
  rcases hb with rfl | rfl | rfl
  · exact Nat.lt_succ_self _
  · exact Nat.lt_succ_of_lt hlt
  · exact Nat.lt_succ_of_lt hx
/-- nothing but the heap has moved -/
def Only (s s' : Shared) : Prop := s'.gens = s.gens ∧ s'.drawn = s.drawn ∧ s'.os = s.os ∧ ∀ b o, s.heap.get? b = some o → s'.heap.get? b = some o
theorem sum_wlk (hw : Wlk prog w A.in1 s l its.toArray) (hi : IntsAre its ns) (h : ∀ s' t', Only s s' → Q (.int ns.sum t') s') : wpAny (model prog w) A (call (.builtin "sum") [.ref l]) Q E s := by
  obtain ⟨xs, e⟩ := hi.allInts.items
  have hn : numsOf (intItems xs).toList = ns := by rw [← e]; exact hi.numsOf
  rw [nums_intItems] at hn
  rw [e] at hw
  refine call_sum_walkG (wpAny_mono (hw E) (fun it s₂ hs => ?_) fun _ _ x => x)
  obtain ⟨I, fp, wr, St, rfl, W, st, hfp, g1, g2, g3, k⟩ := hs
  refine ⟨I, fp, wr, _, _, St, numAt xs, rfl, W, st, hfp, (fun _ _ => intItems_at), fun h' tk t' hk => ?_⟩
  have := h { s₂ with heap := h', toks := tk } t' ⟨g1, g2, g3, fun b o e => hk b o (k b o e).2 (k b o e).1⟩
  have hsz : (intItems xs).size = xs.size := by simp [intItems]
  rw [hsz, preSum_eq, List.take_of_length_le (by simp), hn]; exact this
theorem max_wlk (hw : Wlk prog w A.in1 s l its.toArray) (hi : IntsAre its ns) (hne : 0 < ns.length) (h : ∀ s' M t', Only s s' → M ∈ ns → (∀ a, a ∈ ns → a ≤ M) → Q (.int M t') s') : wpAny (model prog w) A (call (.builtin "max") [.ref l]) Q E s := by
  obtain ⟨xs, e⟩ := hi.allInts.items
  have hn : numsOf (intItems xs).toList = ns := by rw [← e]; exact hi.numsOf
  rw [nums_intItems] at hn
  subst hn
  rw [e] at hw
  have hsz : 0 < xs.size := by simpa using hne
  refine call_max_walk (wpAny_mono (hw E) (fun it s₂ hs => ?_) fun _ _ x => x)
  obtain ⟨I, fp, wr, St, rfl, W, st, hfp, g1, g2, g3, k⟩ := hs
  refine ⟨I, fp, wr, _, _, St, _, rfl, W, st, hfp, by simpa [intItems] using hsz, CmpOf.ints_gt (numAt xs) (fun _ _ => intItems_at), fun v h' tk hv hk => ?_⟩
  have hv : (intItems xs)[argBest (fun i j => decide (numAt xs i > numAt xs j)) (xs.size - 1)]? = some v := by simpa [intItems] using hv
  obtain ⟨t, rfl⟩ := intItems_at hv
  obtain ⟨h1, h2⟩ := argBest_gt (numAt xs) (xs.size - 1)
  refine h { s₂ with heap := h', toks := tk } _ t ⟨g1, g2, g3, fun b o e => hk b o (k b o e).2 (k b o e).1⟩ ?_ fun a ha => ?_
  · rw [numAt_eq]; exact PySem.getD_mem (by rw [List.length_map, Array.length_toList]; omega)
  · obtain ⟨j, hj, rfl⟩ := mem_getD ha
    rw [List.length_map, Array.length_toList] at hj
    rw [← numAt_eq]; exact h2 j (by omega)
theorem min_wlk (hw : Wlk prog w A.in1 s l its.toArray) (hi : IntsAre its ns) (hne : 0 < ns.length) (h : ∀ s' M t', Only s s' → M ∈ ns → (∀ a, a ∈ ns → M ≤ a) → Q (.int M t') s') : wpAny (model prog w) A (call (.builtin "min") [.ref l]) Q E s := by
  obtain ⟨xs, e⟩ := hi.allInts.items
  have hn : numsOf (intItems xs).toList = ns := by rw [← e]; exact hi.numsOf
  rw [nums_intItems] at hn
  subst hn
  rw [e] at hw
  have hsz : 0 < xs.size := by simpa using hne
  refine call_min_walk (wpAny_mono (hw E) (fun it s₂ hs => ?_) fun _ _ x => x)
  obtain ⟨I, fp, wr, St, rfl, W, st, hfp, g1, g2, g3, k⟩ := hs
  refine ⟨I, fp, wr, _, _, St, _, rfl, W, st, hfp, by simpa [intItems] using hsz, CmpOf.ints_lt (numAt xs) (fun _ _ => intItems_at), fun v h' tk hv hk => ?_⟩
  have hv : (intItems xs)[argBest (fun i j => decide (numAt xs i < numAt xs j)) (xs.size - 1)]? = some v := by simpa [intItems] using hv
  obtain ⟨t, rfl⟩ := intItems_at hv
  obtain ⟨h1, h2⟩ := argBest_lt (numAt xs) (xs.size - 1)
  refine h { s₂ with heap := h', toks := tk } _ t ⟨g1, g2, g3, fun b o e => hk b o (k b o e).2 (k b o e).1⟩ ?_ fun a ha => ?_
  · rw [numAt_eq]; exact PySem.getD_mem (by rw [List.length_map, Array.length_toList]; omega)
  · obtain ⟨j, hj, rfl⟩ := mem_getD ha
    rw [List.length_map, Array.length_toList] at hj
    rw [← numAt_eq]; exact h2 j (by omega)
end
/-- nothing is handled, or an exception without a context -/
def Mood (X : Cx) : Prop := X.calm = true ∨ L2H.HotC X
theorem Mood.calm {X : Cx} (h : X.calm = true := by rfl) : Mood X := .inl h
section
variable {X : Cx} {pins : List (Addr × Obj)} {σ : L2.St} {H : Hp} {s s' : Shared}
theorem wlk_ref (hm : Mood X) (I : Inv X pins σ H s) {a : Addr} {ns : List Int} (h : SqT X.K H a (ns.map V.int) ∨ SqL X.K H a (ns.map V.int)) : ∃ its : List Value, IntsAre its ns ∧ Wlk X.prog X.w X.A.in1 s a its.toArray := by
  rcases h with h | h
  · obtain ⟨its, rv, hl, _⟩ := I.tuple h
    refine ⟨its, rv.ints, ?_⟩
    rcases hm with hm | hm
    · exact wlk_tup (A := X.A.in1) (I.ok.hd hm) hl
    · obtain ⟨x1, h1⟩ := hm.at I
      exact wlk_tupH (A := X.A.in1) (show HotAt X.A.in1 x1 s.heap from h1) hl
  · obtain ⟨its, rv, hl, _⟩ := I.list h
    refine ⟨its, rv.ints, ?_⟩
    rcases hm with hm | hm
    · exact wlk_list (A := X.A.in1) (I.ok.hd hm) hl.isList
    · obtain ⟨x1, h1⟩ := hm.at I
      exact wlk_listH (A := X.A.in1) (show HotAt X.A.in1 x1 s.heap from h1) hl.isList
theorem Only.inv (I : Inv X pins σ H s) (o : Only s s') : Inv X pins σ H s' := by
  obtain ⟨h1, h2, h3, h4⟩ := o
  obtain ⟨hp', g', d', tk', os'⟩ := s'
  obtain ⟨hp, g, d, tk, os⟩ := s
  simp only at h1 h2 h3
  subst h1 h2 h3
  exact I.kept h4
def seqInts (a : Sl) : Option (List Int) := match tupOf a with
  | some ds => intsOf ds
  | none => (lstOf a).bind intsOf
theorem seqInts_ref {K : PySem.W.Frag} {F H : Hp} {v : V} {a : Sl} {ns : List Int} (sm : Same F H) (r : RdR K F H v a) (e : seqInts a = some ns) : ∃ p, v = .ref p ∧ (SqT K H p (ns.map V.int) ∨ SqL K H p (ns.map V.int)) := by
  unfold seqInts at e
  cases et : tupOf a with
  | some ds =>
    rw [et] at e
    obtain ⟨p, xs, rfl, hT, rr⟩ := RdR.tup sm r et
    rw [intsOf_eq e] at rr
    rw [rr.ofInts] at hT
    exact ⟨p, rfl, .inl hT⟩
  | none =>
    rw [et] at e
    obtain ⟨ds, h2, h3⟩ := Option.bind_eq_some_iff.mp e
    obtain ⟨p, xs, rfl, hT, rr⟩ := RdR.lst sm r h2
    rw [intsOf_eq h3] at rr
    rw [rr.ofInts] at hT
    exact ⟨p, rfl, .inr hT⟩
def mSumB : List Sl → Option Sl
  | [a] => (seqInts a).map fun ns => .im (.int ns.sum)
  | _ => none
def mMaxB : List Sl → Option Sl
  | [a] => (seqInts a).bind fun ns => if ns ≠ [] then some (.im (.int (maxL ns))) else none
  | _ => none
def mMinB : List Sl → Option Sl
  | [a] => (seqInts a).bind fun ns => if ns ≠ [] then some (.im (.int (minL ns))) else none
  | _ => none
theorem c_sumB (hm : Mood X) : CallR X (.builtin "sum") (rC X.K mSumB) := by
  intro pins s σ H vs us Q I r h
  obtain ⟨F, as, sl, sm, rr, e, q⟩ := h
  match as, rr, e with
  | [a], rr, e =>
    obtain ⟨ns, hns, rfl⟩ := Option.map_eq_some_iff.mp e
    obtain ⟨v, rfl, ra⟩ := rr.one
    obtain ⟨p, rfl, hq⟩ := seqInts_ref sm ra hns
    obtain ⟨its, hi, hw⟩ := wlk_ref hm I hq
    rw [Vals.ref1 r]
    exact sum_wlk hw hi fun s' t' o => ⟨.int _, H, o.inv I, ⟨_, rfl⟩, q _ F H (Grow.refl sm) (.int _)⟩
theorem c_maxB (hm : Mood X) : CallR X (.builtin "max") (rC X.K mMaxB) := by
  intro pins s σ H vs us Q I r h
  obtain ⟨F, as, sl, sm, rr, e, q⟩ := h
  match as, rr, e with
  | [a], rr, e =>
    obtain ⟨ns, hns, e⟩ := Option.bind_eq_some_iff.mp e
    split at e
    · rename_i hne
      cases e
      obtain ⟨v, rfl, ra⟩ := rr.one
      obtain ⟨p, rfl, hq⟩ := seqInts_ref sm ra hns
      obtain ⟨its, hi, hw⟩ := wlk_ref hm I hq
      rw [Vals.ref1 r]
      obtain ⟨m1, m2⟩ := maxL_spec ns hne
      refine max_wlk hw hi (List.length_pos_iff.mpr hne) fun s' M t' o h1 h2 => ?_
      have : M = maxL ns := Int.le_antisymm (m2 M h1) (h2 _ m1)
      subst this
      exact ⟨.int _, H, o.inv I, ⟨_, rfl⟩, q _ F H (Grow.refl sm) (.int _)⟩
    · cases e
theorem c_minB (hm : Mood X) : CallR X (.builtin "min") (rC X.K mMinB) := by
  intro pins s σ H vs us Q I r h
  obtain ⟨F, as, sl, sm, rr, e, q⟩ := h
  match as, rr, e with
  | [a], rr, e =>
    obtain ⟨ns, hns, e⟩ := Option.bind_eq_some_iff.mp e
    split at e
    · rename_i hne
      cases e
      obtain ⟨v, rfl, ra⟩ := rr.one
      obtain ⟨p, rfl, hq⟩ := seqInts_ref sm ra hns
      obtain ⟨its, hi, hw⟩ := wlk_ref hm I hq
      rw [Vals.ref1 r]
      obtain ⟨m1, m2⟩ := minL_spec ns hne
      refine min_wlk hw hi (List.length_pos_iff.mpr hne) fun s' M t' o h1 h2 => ?_
      have : M = minL ns := Int.le_antisymm (h2 _ m1) (m2 M h1)
      subst this
      exact ⟨.int _, H, o.inv I, ⟨_, rfl⟩, q _ F H (Grow.refl sm) (.int _)⟩
    · cases e
end
/-! ### a, b = t while an exception is handled -/
section
variable {prog : Program} {w : World} {A : Around} {E : Value → Shared → Prop} {s : Shared}
theorem unpackItems_hot {x1 t : Addr} {items : Array Value} {Q : List Value → Shared → Prop} (hot : HotAt A x1 s.heap) (ht : s.heap.IsTuple t items)
    (hQ : ∀ h', Heap.ExtBut s.heap.objs.size s.heap h' → Q items.toList { s with heap := h' }) : wpAny (model prog w) A (unpackItems (.ref t) items.size none) Q E s := by
  have hlt : t ≠ s.heap.objs.size := by obtain ⟨o, ho, _⟩ := ht; exact Nat.ne_of_lt (Heap.lt_size ho)
  obtain ⟨hh, o1, vs1, g1, d1, c1⟩ := hot
  have hx : x1 ≠ s.heap.objs.size := Nat.ne_of_lt (Heap.lt_size g1)
  unfold unpackItems
  refine wpAny_bind ?_
  · unfold notIterableAtAll
    refine wpAny_bind (wpAny_specialOf ht.typeIs F.slot_tuple_iter.lookup ?_)
    refine wpAny_pure ?_
    simp only [Bool.false_eq_true, if_false]
    refine wpAny_bind (wpAny_holding (wpAny_pyIter_tuple ht ?_))
    refine wpAny_bind (wpAny_holding (wpAny_draw_tuple hlt items.size 0 _ _ ⟨_, Heap.get?_push_size _ rfl, rfl, rfl⟩ (ht.push _) (by omega) fun h₁ hit₁ hs₁ => ?_))
    have hall : List.take items.size (List.drop 0 items.toList) = items.toList := by
      rw [List.drop_zero]; exact List.take_of_length_le (by simp)
    rw [hall]
    rw [if_neg (by simp)]
    have ht₁ : h₁.IsTuple t items := (ht.push _).extBut hs₁.extBut hlt
    have hot₁ : HotAt A x1 h₁ := ⟨hh, o1, vs1, hs₁.extBut x1 o1 hx (Heap.get?_push_of_some _ g1), d1, c1⟩
    refine wpAny_bind (wpAny_holding (next_tuple_end_hot (s := { s with heap := h₁ }) hot₁ hx hit₁ ht₁ (by simp) fun h₂ he₂ => ?_))
    simp only [Option.isSome_none, Bool.false_eq_true, if_false]
    refine wpAny_pure (hQ h₂ fun b o hb e => he₂ b o hb (hs₁.extBut b o hb (Heap.get?_push_of_some _ e)))
theorem assign_tuple_hot {env : Env} {elts : List Expr} {k : Nat} {pos : Pos} {x1 t : Addr} {items : Array Value} {Q : Unit → Shared → Prop} (hot : HotAt A x1 s.heap) (ht : s.heap.IsTuple t items)
    (hn : (assignEach elts env).length = items.size) (hstar : (assignEach elts env).findIdx? (·.1) = none)
    (h : ∀ h', Heap.ExtBut s.heap.objs.size s.heap h' → wpAny (model prog w) A (assignInOrder ((assignEach elts env).map (·.2)) items.toList) Q E { s with heap := h' }) :
    wpAny (model prog w) A (assign (.Tuple elts k pos) env (.ref t)) Q E s := by
  rw [arm_assign_Tuple]
  refine wpAny_bind (wpAny_standAt ?_)
  unfold unpack
  rw [hn, hstar]
  exact wpAny_bind (wpAny_holding (unpackItems_hot hot ht h))
end
section
variable {X : Cx} {xi : Xi} {pos : Pos}
theorem pg_tupH {es : List Expr} {k : Nat} {t : TGs} {n : Nat} (hc : L2H.HotC X) (h : PGs X es t)
    (hn : (assignEach es X.env).length = n := by rfl) (hst : (assignEach es X.env).findIdx? (·.1) = none := by rfl) : PG X (.Tuple es k pos) (gTup X.K n t) := by
  refine ⟨fun pins s σ H v u Q I r hw => ?_⟩
  obtain ⟨a, xs, e1, hq, hl, hw⟩ := hw
  subst e1
  cases r
  obtain ⟨its, rv, ht, hz⟩ := I.tuple hq
  obtain ⟨x1, hot⟩ := hc.at I
  refine assign_tuple_hot hot ht (by simp [hn, ← hl, rv.length]) hst fun h' hx => ?_
  have I1 : Inv X pins σ H { s with heap := h' } := I.kept (t' := s.toks) fun b o e => hx b o (Nat.ne_of_lt (Heap.lt_size e)) e
  exact h.run pins _ σ H xs _ Q I1 (by simpa using rv) hw
theorem pdg_tupH {es : List Expr} {k : Nat} {t : List D → En → Option En} {n : Nat} (hc : L2H.HotC X) (h : PDGs X xi es t)
    (hn : (assignEach es X.env).length = n := by rfl) (hst : (assignEach es X.env).findIdx? (·.1) = none := by rfl) : PDG X xi (.Tuple es k pos) (gT n t) := by
  refine PG.imp (pg_tupH hc h hn hst) ?_
  rintro v σ H Q ⟨F0, H0, F1, H1, F, δ, s, δ', st, g, r, e, q⟩
  unfold gT at e
  split at e
  · rename_i ds hd
    split at e
    · rename_i hl
      obtain ⟨p, xs, rfl, ht, ra⟩ := RdR.tup g.sm r.rd hd
      refine ⟨p, xs, rfl, ht, by rw [ra.length]; exact hl, F0, H0, F, ds, δ, δ', st.grow g, ra, e, fun σ' F' st' s' => q σ' F' st' ((g.ff st.sm).trans s')⟩
    · cases e
  · cases e
end
end DL

namespace DL
open PySem PySem.Spec PyProof.Rows L2 HotX
/-! ### a def that is called with the exception that is handled -/
/-- the wish may speak of the exception -/
structure FnP (P : Program) (w : World) (K : PySem.W.Frag) (mg : Str → Option Value) (base : Heap) (CX : CXT) (k : Nat) (f : Addr) (fd : FuncData) (ps : List Str) (sp : Addr × Obj → Sp) : Prop where
  len : ∀ p vs H Q E, sp p vs H Q E → vs.length = ps.length
  run : ∀ (A : Around) (outer : List Env) (s : Shared) (H : Hp) (args : Args) (us : List Value) (vs : List V) (Q : VK) (E : XK) (p : Addr × Obj), L2H.RoomH k A → L2H.Hot1 A p → L2H.PinOk outer H s p → Env0 P w K mg base A outer s H → BindsTo s fd args (ps.zip us) → Vals vs us → sp p vs H Q E →
    codeAny (model P w) A (.call (.ref f) args) (CR CX outer P w H s Q E) s
theorem fn_ofP {CX : CXT} {P : Program} {w : World} {K : PySem.W.Frag} {mg : Str → Option Value} {base : Heap} {k : Nat} {f : Addr} {name qual : Str} {params : Arguments} {body : List Stmt} {scope : Scope} {dV kV doc pm cdv ct oc : Value} {an od : Option Addr}
    {osl : Array (Option Value)} {N ps : List Str} {sp : Addr × Obj → Sp} (lk : K.lookup f = some ⟨oc, od, .func (PySem.W.fnOf name qual params body scope dV kV doc pm an cdv ct), osl⟩) (hcd : PySem.W.codeIn K cdv qual = true) (S : FnScope N ps scope)
    (len : ∀ p vs H Q E, sp p vs H Q E → vs.length = ps.length)
    (hbody : ∀ (A : Around) (outer : List Env) (s : Shared) (H : Hp) (vs : List V) (Q : VK) (E : XK) (p : Addr × Obj), L2H.Hot1 A p → L2H.RoomH k (A.deeper (envOfC qual scope s.heap.objs.size f cdv)) → sp p vs H Q E →
      ∃ t, PSs (L2H.cxH CX P w K mg base N qual scope f cdv A outer s H E p) body t ∧ t { nx := fun _ H' => Q .non H', rt := Q } (L2.start N vs) H) :
    FnP P w K mg base CX (k + 1) f (PySem.W.fnOf name qual params body scope dV kV doc pm an cdv ct) ps sp := by
  refine ⟨len, fun A outer s H args us vs Q E p hr hot hpin e0 hb r hsp => ?_⟩
  have long := len _ _ _ _ _ hsp
  have inK : K.In s.heap := e0.mod.kin.keeps fun b o e => (e0.bs b o e).1
  have nolim : s.heap.NoLimit := e0.mod.nolimit.keeps fun b o e => (e0.bs b o e).1
  have kinds : ∀ y ∈ ps.zip us, scope.names.lookup y.1 = some .local ∨ (scope.names.lookup y.1 = some .cell ∧ ((cellsFrom (s.heap.objs.size + 1) scope.names []).lookup y.1).isSome = true) := by
    rintro ⟨n, v⟩ hy
    exact (S.par n (List.of_mem_zip hy).1).imp id fun q => ⟨q, PySem.W.cellsFrom_some _ _ _ (.inl q)⟩
  refine codeAny_call_function hr.depth (inK _ _ lk) rfl S.co S.gen rfl (PySem.W.codeRec_of inK hcd) (hb _ _ _ _ (wpAny_newFunctionEnv_cells S.kind kinds fun env he s1 x => ?_))
  subst he
  refine ⟨nolim.keeps x.toInCall.keep, codeAny_func ?_⟩
  obtain ⟨t, ht, hq⟩ := hbody A outer s H vs Q E p hot (hr.deeper _) hsp
  have I : Inv (L2H.cxH CX P w K mg base N qual scope f cdv A outer s H E p) [] (L2.start N vs) H s1 := L2H.inv_startH S hpin e0 long r x
  refine wpAny_mono (ht.run [] s1 (L2.start N vs) H _ I hq) (fun fl s' hs => ?_) fun e s' hs => hs
  have done : ∀ {σ' : L2.St} {H' : Hp} {v : V} {u : Value}, Inv (L2H.cxH CX P w K mg base N qual scope f cdv A outer s H E p) [] σ' H' s' → RelV v u → Q v H' → CE outer P w H s Q u s' :=
    fun {_ H' v _} J rv q => ⟨v, H', J.os, J.bare, J.base, J.hok, rv, q⟩
  cases fl with
  | next => obtain ⟨_, _, J, q⟩ := hs; exact done (v := V.non) (u := Value.none) J rfl q
  | ret u => obtain ⟨_, _, _, J, rv, q⟩ := hs; exact done J rv q
  | brk => obtain ⟨_, _, _, q⟩ := hs; exact q.elim
  | cont => obtain ⟨_, _, _, q⟩ := hs; exact q.elim
/-- the exception's class is c: the def is the function m of it -/
def spX (K : PySem.W.Frag) (cs : List Str) (m : List Sl → Rs Sl) (p : Addr × Obj) : Sp := fun vs H Q E => ∃ c ∈ cs, vs = [.ref p.1] ∧ L2N.Zn (cvOf K c) none p.2 ∧ (∃ us, p.2.data = .fields us) ∧ ∃ F, Same F H ∧ PostC K F H Q E (m [.xc c])
structure CalX (P : Program) (w : World) (K : PySem.W.Frag) (mg : Str → Option Value) (base : Heap) (cs : List Str) (x : Str) (ps : List Str) (k : Nat) (m : List Sl → Rs Sl) : Prop where
  ex : ∃ fd, FnP P w K mg base (L2N.CX P w) k (He.ga K x) fd ps (spX K cs m) ∧ Binds K fd ps []
  gl : mg x = some (.ref (He.ga K x))
  kp : PySem.W.keepIn K (.ref (He.ga K x)) = true
theorem Stt.initX {K : PySem.W.Frag} {F H : Hp} {a : Addr} {c : Str} {N : List Str} (sm : Same F H) : Stt K [(0, a, cvOf K c)] F H F H (L2.start N [.ref a]) (initE N.length [.xc c]) := by
  refine ⟨sm, Same.refl H, fun _ _ _ => rfl, by simp [initE, L2.start], fun i s e => ?_, fun i j s t v w a e _ _ _ o _ => ?_, fun i b d e => ?_, fun i c' fs e => ?_⟩
  · have h := initE_get e
    cases i with
    | zero => simp at h; subst h; exact ⟨.ref a, by simp [L2.start], trivial, rfl⟩
    | succ i => simp at h
  · have h := initE_get e
    cases i with
    | zero => simp at h; subst h; exact o.elim
    | succ i => simp at h
  · cases List.mem_singleton.mp e
    refine ⟨by simp [L2.start], fun x h => ?_⟩
    have h := initE_get h
    simp at h
    rw [h]
  · have h := initE_get e
    cases i with
    | zero => simp at h
    | succ i => simp at h
section
variable {P : Program} {w : World} {K : PySem.W.Frag} {mg : Str → Option Value} {base : Heap} {fd : FuncData} {x y : Str} {st : Stmt} {N : List Str} {k : Nat} {g : En → Out} {m : List Sl → Rs Sl} {cs : List Str}
theorem cal_mkX (F : FnD K x st (He.ga K x) fd) (S : FnScope N [y] (defScope st)) (gl : mg x = some (.ref (He.ga K x))) (hb : Binds K fd [y] [])
    (body : ∀ (cdv : Value) (A : Around) (outer : List Env) (sh : Shared) (H : Hp) (E : XK) (a : Addr) (oe : Obj) (c : Str), c ∈ cs → L2N.Zn (cvOf K c) none oe → (∃ us, oe.data = .fields us) → L2H.RoomH k (cxDH P w K mg base N st x (He.ga K x) cdv A outer sh H E (a, oe)).A →
      L2N.Takes (cxDH P w K mg base N st x (He.ga K x) cdv A outer sh H E (a, oe)) (wDef E) →
      PassesOwn (model P w) (cxDH P w K mg base N st x (He.ga K x) cdv A outer sh H E (a, oe)).A (cxDH P w K mg base N st x (He.ga K x) cdv A outer sh H E (a, oe)).env (cxDH P w K mg base N st x (He.ga K x) cdv A outer sh H E (a, oe)).xe →
      L2H.HotC (cxDH P w K mg base N st x (He.ga K x) cdv A outer sh H E (a, oe)) → PDB (cxDH P w K mg base N st x (He.ga K x) cdv A outer sh H E (a, oe)) [(0, a, cvOf K c)] (wDef E) (defBody st) g) : CalX P w K mg base cs x [y] (k + 1) (fnM N.length g) := by
  refine ⟨⟨fd, ?_, hb⟩, gl, F.kp⟩
  obtain ⟨oc, od, dV, kV, doc, pm, an, cdv, ct, osl, rfl, lk, hcd, _, _⟩ := F.ex
  refine fn_ofP lk hcd S (fun p vs H Q E h => by obtain ⟨_, _, rfl, _⟩ := h; rfl) fun A outer sh H vs Q E p hot hr h => ?_
  obtain ⟨c, hc, rfl, hz, hf, F, sm, q⟩ := h
  refine ⟨_, body cdv A outer sh H E p.1 p.2 c hc hz hf hr (L2N.takes_of rfl rfl rfl rfl) (passes_of rfl) ⟨p, hot, .head _⟩, ?_⟩
  refine ⟨F, H, F, initE N.length [.xc c], Stt.initX sm, ?_⟩
  unfold fnM at q
  cases e : g (initE N.length [.xc c]) with
  | nx δ =>
    rw [e] at q
    exact fun σ' F' H' st' s' => q .non F' H' st'.gr .non
  | rt s =>
    rw [e] at q
    exact fun v F' H' g' r' => q v F' H' g' r'
  | rm d δ =>
    rw [e] at q
    exact fun v σ' F' H' st' _ r' => q v F' H' st'.gr r'
  | er c δ =>
    rw [e] at q
    exact fun σ' F' H' st' s' => q F' H' st'.gr
  | bk δ => rw [e] at q; exact q.elim
  | ct δ => rw [e] at q; exact q.elim
  | bad => rw [e] at q; exact q.elim
end
/-- the call of such a def in the suite -/
def eCallX (cs : List Str) (m : List Sl → Rs Sl) (i : Nat) : En → Rs Sl := fun δ => match δ[i]? with
  | some (some (.xc c)) => if c ∈ cs then m [.xc c] else .bad
  | _ => .bad
section
variable {X : Cx} {i k : Nat} {a : Addr} {oe : Obj} {c n f : Str} {pn : List (Addr × Obj)} {cs ps : List Str} {p1 p2 pos : Pos} {m : List Sl → Rs Sl}
theorem pd_callX {j : Nat} (C : CalX X.prog X.w X.K X.mg X.base cs f ps j m) (hr : Room k X.A) (hj : j ≤ k) (hz : L2N.Zn (cvOf X.K c) none oe) (hf : ∃ vs, oe.data = .fields vs)
    (hg : Gl (X.suite a ((a, oe) :: pn)) f := by rfl) (hN : X.N[i]? = some n := by rfl) (hv : Vis X.env.scope n := by first | exact Or.inl rfl | exact Or.inr (Or.inl rfl))
    (hdb : (f == ("__debug__" : Str)) = false := by decide) (hd : (n == ("__debug__" : Str)) = false := by decide) (hcd : (n == ("__classdict__" : Str)) = false := by decide)
    (he : starEach [.Name n p2] X.env = (false, eval (.Name n p2) X.env) :: starEach [] X.env := by rfl) (hpl : (backTo pos (starEach [] X.env)).any (·.1) = false := by rfl) :
    PD (X.suite a ((a, oe) :: pn)) ((i, a, cvOf X.K c) :: xi) WF (.Call (.Name f p1) [.Name n p2] [] pos) (eCallX cs m i) := by
  obtain ⟨fd, F, b⟩ := C.ex
  have hv' : Vis (X.suite a ((a, oe) :: pn)).env.scope n := hv
  have hx := L2N.passAt (X := X.suite a ((a, oe) :: pn)) takesN
  refine ⟨fun pins s σ H Q I h => ?_⟩
  obtain ⟨F0, H0, F1, δ, st, p⟩ := h
  obtain ⟨x1, x2⟩ := st.xi i a _ (List.mem_cons_self ..)
  unfold eCallX at p
  have hr' : L2H.RoomH j (X.suite a ((a, oe) :: pn)).A := roomS (hr.mono hj)
  have hot : L2H.Hot1 (X.suite a ((a, oe) :: pn)).A (a, oe) := by
    obtain ⟨vs, e⟩ := hf
    exact ⟨rfl, vs, e, hz.2.2 vs e⟩
  split at p
  · rename_i y e
    split at p
    · rename_i hy
      have ec := x2 y e
      rw [ec] at hz
      refine wpAny_Call_Name_kw (ld_glob I hg C.gl ?_ hdb)
      have ha : PA (X.suite a ((a, oe) :: pn)) [.Name n p2] (tCons (tVar i) tNil) := pa_cons (pe_var (i := i) hN hv' hd hcd) pa_nil he
      refine PySem.W.callWith_K (h₀ := X.base) I.ok.mod.kin C.kp (thn (ha.run pos pins s σ H (fun vs H1 => vs = [.ref a] ∧ H1 = H) I ⟨_, x1, rfl, rfl⟩) fun us s1 ⟨vs, H1, I1, r, ev, eH⟩ => ⟨I1.kIn, ?_⟩) he hpl
      subst ev
      subst eH
      have hl : us.length = ps.length := by
        rw [← r.length]
        exact F.len (a, oe) [.ref a] H1 Q (WE (fun _ _ _ _ => False) σ) ⟨y, hy, rfl, hz, hf, F1, st.sm, by
          cases em : m [.xc y] with
          | ok s => rw [em] at p; exact fun v F' H' g rr => p v F' H' g rr
          | er c => rw [em] at p; exact fun F' H' g => p F' H' g
          | bad => rw [em] at p; exact p⟩
      have bb := b s1 us I1.kIn (by rw [List.append_nil]; exact hl)
      rw [List.append_nil] at bb
      have P1 := I1.pin (a, oe) (List.mem_append_left _ (.head _))
      have hpin : L2H.PinOk (X.suite a ((a, oe) :: pn)).stack H1 s1 (a, oe) := ⟨P1.1, P1.2.1, fun hm => (List.mem_cons.mp (I1.stkSub a hm)).elim P1.2.2.1 P1.2.2.2.1, P1.2.2.2.2⟩
      refine wpAny_call (codeAny_mono (F.run _ (X.suite a ((a, oe) :: pn)).stack s1 H1 ⟨us, []⟩ us [.ref a] Q (WE (fun _ _ _ _ => False) σ) (a, oe) hr' hot hpin I1.env0 bb r ⟨y, hy, rfl, hz, hf, F1, st.sm, ?_⟩) fun r s' hq => ?_)
      · cases em : m [.xc y] with
        | ok s => rw [em] at p; exact fun v F' H' g rr => p v F' H' g rr
        | er c => rw [em] at p; exact fun F' H' g => p F' H' g
        | bad => rw [em] at p; exact p
      · cases r with
        | error e => exact hx σ pins H1 s1 e s' I1 hq
        | ok fl =>
          cases fl with
          | ret u => exact I1.after hq
          | next => exact False.elim hq
          | brk => exact False.elim hq
          | cont => exact False.elim hq
    · exact p.elim
  · exact p.elim
end
/-! ### isinstance of an exception that stands in the context -/
theorem call_isP {X : Cx} {a D : Addr} {oe : Obj} (C : ExcC X.K D) (hz : Zc (.ref D) none oe) (hf : ∃ vs, oe.data = .fields vs) (hp : (a, oe) ∈ X.pn) : CallR X (.builtin "isinstance") (rIsE X.K D a) := by
  intro pins s σ H xs us Q I r h
  obtain ⟨c, cv, b, rfl, hcv, e, q⟩ := h
  cases r with
  | cons rx rr =>
    cases rr with
    | cons rt rr =>
      cases rr
      cases rx
      obtain rfl := hcv _ rt
      have hget := (I.pin (a, oe) (List.mem_append_left _ hp)).1
      obtain ⟨vs, hv⟩ := hf
      have J : PySem.W.InstAt s.heap a oe D none := by
        obtain ⟨oc, od, oda, osl⟩ := oe
        obtain ⟨h1, h2⟩ := hz
        dsimp only at h1 h2 hv
        subst h1 h2 hv
        exact ⟨hget, rfl, rfl, trivial⟩
      exact PySem.W.kia_one (PySem.W.handS_kitx_exc C.hg C.hk C.hs C.hd C.ha C.hn C.ht C.hm) I.kIn J e (fun z => nomatch z) fun tk => ⟨.bl b, H, I.kept (t' := tk) fun _ _ z => z, rfl, q⟩
section
variable {X : Cx} {W : WX} {pos : Pos}
theorem pd_isP {i : Nat} {a : Addr} {oe : Obj} {c C n : Str} {cs : List Str} {p1 p2 p3 : Pos} (EX : ExF X.K cs) (hcs : c ∈ cs) (hz : L2N.Zn (cvOf X.K c) none oe) (hf : ∃ vs, oe.data = .fields vs) (EC : ExK X.K X.mg C)
    (hG : Gl X "isinstance") (hm : X.mg "isinstance" = none) (hp : (a, oe) ∈ X.pn := by exact List.Mem.head _) (hN : X.N[i]? = some n := by rfl) (hv : Vis X.env.scope n := by first | exact Or.inl rfl | exact Or.inr (Or.inl rfl))
    (hg : Gl X C := by rfl) (hdb : (C == ("__debug__" : Str)) = false := by decide) (hd : (n == ("__debug__" : Str)) = false := by decide) (hcd : (n == ("__classdict__" : Str)) = false := by decide)
    (h1 : starEach [.Name n p2, .Name C p3] X.env = (false, eval (.Name n p2) X.env) :: starEach [.Name C p3] X.env := by rfl) (h2 : starEach [.Name C p3] X.env = (false, eval (.Name C p3) X.env) :: starEach [] X.env := by rfl)
    (hpl : (backTo pos (starEach [.Name C p3] X.env)).any (·.1) = false := by rfl) :
    PD X ((i, a, cvOf X.K c) :: xi) W (.Call (.Name "isinstance" p1) [.Name n p2, .Name C p3] [] pos) (eIsE cs i C) := by
  refine PE.imp (pe_callB (call_isP (EX.exc c hcs) hz.zc hf hp) hG hm (by decide +kernel) (pa_cons (pe_var (i := i) hN hv hd hcd) (pa_cons (pe_glob (v := .ref (He.ga X.K C)) hg EC.gl rfl hdb) pa_nil h2) h1) (by decide) (by decide) h1 hpl) ?_
  rintro σ H Q ⟨F0, H0, F, δ, st, p⟩
  obtain ⟨x1, x2⟩ := st.xi i a _ (List.mem_cons_self ..)
  unfold eIsE at p
  split at p
  · rename_i x e
    split at p
    · rename_i hx
      have ec := x2 x e
      refine ⟨_, x1, .ref (He.ga X.K C), cvOf X.K C, isSub x C, rfl, fun u r => r, ?_, p _ F H (Grow.refl st.sm) (.bl _)⟩
      have h3 := EX.exm x hx.1 C hx.2
      show PySem.W.kitOne X.K (cvOf X.K c) (cvOf X.K C) = _
      rw [ec]
      refine kit_of_exm h3 fun q => ?_
      have h4 := EX.exm x hx.1 x hx.1
      rw [q] at h4 h3
      rw [h4, isSub_self] at h3
      exact (Option.some.inj h3).symm
    · exact p.elim
  · exact p.elim
end
end DL

namespace DL
open PySem PySem.Spec PyProof.Rows L2 HotX
/-! ### comprehensions in any mood -/
structure TurnM (md : Cx → Prop) (P : Program) (w : World) (K : PySem.W.Frag) (tg : Expr) (J : It) (fp : List Addr) (it : Addr) (tn : Nat → Heap → Prop) : Prop where
  mem : it ∈ fp
  obj : ∀ i h, tn i h → ∀ b ∈ fp, ∃ o, h.get? b = some o ∧ ∀ v, o.data ≠ .cell v
  keep : ∀ i h h', tn i h → (∀ b ∈ fp, ∀ o, h.get? b = some o → h'.get? b = some o) → tn i h'
  item : ∀ (X : Cx), X.prog = P → X.w = w → X.K = K → md X → ∀ (i : Nat) (pins : List (Addr × Obj)) (s : Shared) (σ : L2.St) (H : Hp) (E : Value → Shared → Prop), Inv X pins σ H s → (∀ b ∈ fp, FpOk X pins H b) → tn i s.heap → J.go i H →
    wpAny (model P w) X.A (pyNext (.ref it)) (fun r s1 => ∃ u, r = some u ∧
      wpAny (model P w) X.A (letOwnedTupleGo tg (.ref it) u) (fun _ s2 => ∃ x H', Inv X pins σ H' s2 ∧ RelV x u ∧ J.yld i H x H' ∧ tn (i + 1) s2.heap ∧ ∀ b ∈ fp, H' b = none) E s1) E s
  done : ∀ (X : Cx), X.prog = P → X.w = w → X.K = K → md X → ∀ (i : Nat) (pins : List (Addr × Obj)) (s : Shared) (σ : L2.St) (H : Hp) (E : Value → Shared → Prop), Inv X pins σ H s → (∀ b ∈ fp, FpOk X pins H b) → tn i s.heap → J.stop i H →
    wpAny (model P w) X.A (pyNext (.ref it)) (fun r s1 => r = none ∧ Inv X pins σ H s1) E s
  self : ∀ (A : Around) (i : Nat) (s : Shared) (Q : Value → Shared → Prop) (E : Value → Shared → Prop), tn i s.heap → Q (.ref it) s → wpAny (model P w) A (pyIter (.ref it)) Q E s
def PIEM (md : Cx → Prop) (X : Cx) (pins : List (Addr × Obj)) (σ : L2.St) (tg : Expr) (R : It → Hp → Prop) (itv : Value) (s2 : Shared) : Prop :=
  ∃ (it : Addr) (fp : List Addr) (tn : Nat → Heap → Prop) (J : It) (H' : Hp), itv = .ref it ∧ Inv X pins σ H' s2 ∧ TurnM md X.prog X.w X.K tg J fp it tn ∧ tn 0 s2.heap ∧ (∀ b ∈ fp, FpOk X pins H' b) ∧ R J H'
structure PIM (md : Cx → Prop) (X : Cx) (tg iter : Expr) (wi : TI) : Prop where
  run : ∀ (pins : List (Addr × Obj)) (s : Shared) (σ : L2.St) (H : Hp) (R : It → Hp → Prop), Inv X pins σ H s → wi σ H R →
    wpAny (model X.prog X.w) X.A (eval iter X.env) (fun v s1 => wpAny (model X.prog X.w) X.A (pyIter v) (PIEM md X pins σ tg R) X.xe s1) X.xe s
theorem PIM.calm {X : Cx} {tg iter : Expr} {wi : TI} (h : PI X tg iter wi) : PIM (fun X => X.calm = true) X tg iter wi := by
  refine ⟨fun pins s σ H R I q => thn (h.run pins s σ H R I q) fun v s1 h1 => thn h1 fun u s2 h2 => ?_⟩
  obtain ⟨it, fp, tn, J, H', e, I2, T, r⟩ := h2
  exact ⟨it, fp, tn, J, H', e, I2, ⟨T.mem, T.obj, T.keep, T.item, T.done, T.self⟩, r⟩
theorem PIM.hot {X : Cx} {tg iter : Expr} {wi : TI} (h : L2H.PIH X tg iter wi) : PIM L2H.HotC X tg iter wi := by
  refine ⟨fun pins s σ H R I q => thn (h.run pins s σ H R I q) fun v s1 h1 => thn h1 fun u s2 h2 => ?_⟩
  obtain ⟨it, fp, tn, J, H', e, I2, T, r⟩ := h2
  exact ⟨it, fp, tn, J, H', e, I2, ⟨T.mem, T.obj, T.keep, T.item, T.done, T.self⟩, r⟩
/-- the block's context, some pins kept -/
abbrev blkP (X : Cx) (s : Shared) (H : Hp) (scope : Scope) (ce : Env) (fp : List Addr) (pn : List (Addr × Obj)) : Cx := (X.blk s H scope ce fp).tr pn fun _ _ => False
theorem Inv.withPn {X : Cx} {s : Shared} {H : Hp} {scope : Scope} {ce : Env} {fp : List Addr} {pn : List (Addr × Obj)} {σ : L2.St} {H' : Hp} {s' : Shared} (I : Inv (X.blk s H scope ce fp) [] σ H' s')
    (h : ∀ p ∈ pn, s'.heap.get? p.1 = some p.2 ∧ H' p.1 = none ∧ p.1 ≠ ce.locals ∧ p.1 ∉ frs X.stack ∧ ∀ v, p.2.data ≠ .cell v) : Inv (blkP X s H scope ce fp pn) [] σ H' s' :=
  ⟨⟨I.ok.mod, I.ok.kind, I.ok.glob, I.ok.blt, I.ok.above, I.ok.inj, I.ok.has, I.ok.cab, I.ok.hd, I.ok.frames, I.ok.stk, I.ok.exf, I.ok.bs, I.ok.bsz, I.ok.noex, I.ok.exfs, I.ok.funs, I.ok.frf⟩, I.os, I.bare, I.base, I.loc, I.cell, I.free, I.freeC,
    fun p hp => h p (by simpa using hp), I.hok, I.len⟩
section
variable {X : Cx} {md : Cx → Prop}
theorem lc_coreM {pn pins : List (Addr × Obj)} {s : Shared} {σ : L2.St} {H : Hp} {Q : VK} {elt tg iter : Expr} {ifs : List Expr} {scope : Scope} {own : List (Str × Nat)} {pos pos' : Pos} {wi : TI} {g : TG} {tt : TT} {te : TE} {use : Option (Value → Sem Unit)} {Qf : Value → Shared → Prop}
    (hm : ∀ s H ce fp, md (blkP X s H scope ce fp pn)) (hpn : ∀ p ∈ pn, p ∈ X.pn) (hN : X.N.Nodup) (I : Inv X pins σ H s) (hi : PIM md X tg iter wi) (ok : BlkOk X.N X.env.scope scope own)
    (hg : ∀ (s : Shared) (H : Hp) (C : Addr) (cl : List (Str × Addr)) (fp : List Addr), PG (blkP X s H scope (compEnvC scope cl C X.env) fp pn) tg g) (ht : ∀ (s : Shared) (H : Hp) (C : Addr) (cl : List (Str × Addr)) (fp : List Addr), PTs (blkP X s H scope (compEnvC scope cl C X.env) fp pn) ifs tt)
    (he : ∀ (s : Shared) (H : Hp) (C : Addr) (cl : List (Str × Addr)) (fp : List Addr), PE (blkP X s H scope (compEnvC scope cl C X.env) fp pn) elt te) (hs : ∀ x, foldedSetIterable iter X.env x = pure x)
    (h : tLc wi g tt te (own.map (·.2)) σ H Q)
    (hRR : ∀ D C s' m H', Inv X pins σ H' s' → Q (.ref D) H' → s'.heap.Ns C m → FpOk X pins H' C → compPost (model X.prog X.w) X.A X.xe use Qf (.ref D) C (.ok .next) s') :
    wpAny (model X.prog X.w) X.A (comprehension (.ListComp elt [⟨tg, iter, ifs, 0⟩] scope pos) scope X.env pos' (newList []) false (eval iter X.env) use) Qf X.xe s := by
  have free : ∀ y ∈ scope.names, y.2 = .free → ∃ c, X.env.cells.lookup y.1 = some c := fun y hy e => (ok.free y hy e).elim (fun k => I.ok.has _ (.inl k)) fun k => I.ok.has _ (.inr k)
  refine wpAny_comprehension_free (use := use) rfl hs (closure_ok free) ok.kind (fun y hy e => by rw [ok.uniq y hy, e])
    (thn (hi.run pins s σ H _ I h) fun xv s1 hx => thn hx fun itv s2 h2 => ?_)
  obtain ⟨it, fp, tn, J, H2, rfl, I2, T, st2, f2, q⟩ := h2
  refine wpAny_newObj_type (newEnv_comp ?_) (by show 0 ≤ sizeLine; decide)
  generalize hD : s2.heap.objs.size = D
  have hDn : H2 D = none := I2.hok.fresh (Nat.le_of_eq hD)
  obtain ⟨W, ⟨m0, w0⟩, turn⟩ := q D hDn
  generalize hs3 : ({ s2 with heap := s2.heap.push { cls := .type "list", data := .seq ([] : List Value).toArray } } : Shared) = s3
  have I3 : Inv X pins σ (upd H2 D (.lst [])) s3 := by
    rw [← hs3]
    refine I2.laid (t' := s2.toks) (fun b o e => Heap.get?_push_of_some _ e) (Nat.le_of_eq hD) ⟨Nat.zero_le _, [], 0, .nil, ?_⟩
    rw [← hD]
    exact Heap.get?_push_size _ rfl
  have h3 : s3.heap = s2.heap.push { cls := .type "list", data := .seq ([] : List Value).toArray } := by rw [← hs3]
  have sz : ∀ b ∈ fp, b < s2.heap.objs.size := fun b hb => by
    obtain ⟨o, e, _⟩ := T.obj _ _ st2 b hb
    exact Heap.lt_size e
  have f3 : ∀ b ∈ fp, FpOk X pins (upd H2 D (.lst [])) b ∧ b < s3.heap.objs.size := fun b hb => by
    have hlt := sz b hb
    refine ⟨⟨?_, (f2 b hb).2⟩, by rw [h3, Heap.size_push]; exact Nat.lt_succ_of_lt hlt⟩
    rw [upd_ne (by rw [← hD]; exact Nat.ne_of_lt hlt)]
    exact (f2 b hb).1
  have st3 : tn 0 s3.heap := T.keep _ _ _ st2 fun b _ o e => by rw [h3]; exact Heap.get?_push_of_some _ e
  have I4 := block_start I3 ok hN f3
  have pinned3 : ∀ p ∈ pn, s3.heap.get? p.1 = some p.2 ∧ (upd H2 D (.lst [])) p.1 = none ∧ p.1 ∉ frs X.stack ∧ ∀ v, p.2.data ≠ .cell v := fun p hp => by
    obtain ⟨a, b, c, d, e⟩ := I3.pin p (List.mem_append_left _ (hpn p hp))
    exact ⟨a, b, fun z => (List.mem_cons.mp (I3.stkSub p.1 z)).elim c d, e⟩
  have pg := hg s3 (upd H2 D (.lst [])) s3.heap.objs.size (cellsFrom (s3.heap.objs.size + 1) scope.names (cloFrom X.env.cells scope.names [])) fp
  have pt := ht s3 (upd H2 D (.lst [])) s3.heap.objs.size (cellsFrom (s3.heap.objs.size + 1) scope.names (cloFrom X.env.cells scope.names [])) fp
  have pe := he s3 (upd H2 D (.lst [])) s3.heap.objs.size (cellsFrom (s3.heap.objs.size + 1) scope.names (cloFrom X.env.cells scope.names [])) fp
  have mood := hm s3 (upd H2 D (.lst [])) (compEnvC scope (cellsFrom (s3.heap.objs.size + 1) scope.names (cloFrom X.env.cells scope.names [])) s3.heap.objs.size X.env) fp
  show codeAny _ _ (.compStart (.ListComp elt [⟨tg, iter, ifs, 0⟩] scope pos) 0 (.ref it) (.ref D) (compEnvC scope (cellsFrom (s3.heap.objs.size + 1) scope.names (cloFrom X.env.cells scope.names [])) s3.heap.objs.size X.env)) (compPost (model X.prog X.w) X.A X.xe use Qf (.ref D) s3.heap.objs.size) { s3 with heap := pushCells (s3.heap.push { cls := .type "dict", data := .dict #[] }) scope.names }
  have nfp : ∀ b ∈ fp, (upd H2 D (.lst [])) b = none := fun b hb => (f3 b hb).1.1
  generalize hce : compEnvC scope (cellsFrom (s3.heap.objs.size + 1) scope.names (cloFrom X.env.cells scope.names [])) s3.heap.objs.size X.env = ce at I4 pg pt pe mood ⊢
  have cL : ce.locals = s3.heap.objs.size := by subst hce; rfl
  generalize hH3 : upd H2 D (.lst []) = H3 at I3 I4 pg pt pe mood w0 nfp f3 pinned3
  generalize hs4 : ({ s3 with heap := pushCells (s3.heap.push { cls := .type "dict", data := .dict #[] }) scope.names } : Shared) = s4 at I4 ⊢
  have up4 : ∀ b o, s3.heap.get? b = some o → s4.heap.get? b = some o := fun b o e => by rw [← hs4]; exact pushCells_keeps _ _ _ _ (Heap.get?_push_of_some _ e)
  have I4 : Inv (blkP X s3 H3 scope ce fp pn) [] (wipe σ (own.map (·.2))) H3 s4 := Inv.withPn I4 fun p hp => by
    obtain ⟨a, b, c, d⟩ := pinned3 p hp
    exact ⟨up4 _ _ a, b, by rw [cL]; exact Nat.ne_of_lt (Heap.lt_size a), c, d⟩
  have st4 : tn 0 s4.heap := T.keep _ _ _ st3 fun b _ o e => up4 b o e
  have apart : ∀ b ∈ fp, ∀ p ∈ pn ++ ([] : List (Addr × Obj)), p.1 ≠ b := fun b hb p hp => by
    have hp : p ∈ pn := by simpa using hp
    exact (f3 b hb).1.2.2.2.2.2 p (List.mem_append_left _ (hpn p hp))
  have stat : ∀ {σ' : L2.St} {H' : Hp} {s' : Shared}, Inv (blkP X s3 H3 scope ce fp pn) [] σ' H' s' → (∀ b ∈ fp, H' b = none) → ∀ b ∈ fp, FpOk (blkP X s3 H3 scope ce fp pn) [] H' b := fun {σ' H' s'} I' hn b hb =>
    ⟨hn b hb, (I'.ok.exf b hb).1, I'.ok.exfs b hb, .inl hb, fun x c e => (I'.ok.exf b hb).2 x c e, apart b hb⟩
  have loop : codeAny (model X.prog X.w) X.A (.compLoop (.ListComp elt [⟨tg, iter, ifs, 0⟩] scope pos) 0 (.ref it) (.ref D) ce) (compPost (model X.prog X.w) X.A X.xe use Qf (.ref D) s3.heap.objs.size) s4 := by
    refine compLoop_any (fun n s' => ∃ i H', Inv (blkP X s3 H3 scope ce fp pn) [] (wipe σ (own.map (·.2))) H' s' ∧ tn i s'.heap ∧ (∀ b ∈ fp, H' b = none) ∧ W i n H') ?_ m0 ⟨0, H3, I4, st4, nfp, w0⟩
    rintro n s5 ⟨i, H5, I5, st5, n5, w5⟩
    rcases turn i n H5 w5 with ⟨stop, qq⟩ | ⟨go, Nx, hNx, step⟩
    · refine thnF (T.done (blkP X s3 H3 scope ce fp pn) rfl rfl rfl mood i [] s5 _ H5 (fun _ _ => False) I5 (stat I5 n5) st5 stop) fun r s6 ⟨hr, I6⟩ => ?_
      subst hr
      have I7 : Inv X pins σ H5 s6 := I3.call' (ch := fp) I6.os I6.base I6.hok I6.bare fun b hb => ⟨(f3 b hb).1.2.2.2.1, (f3 b hb).1.2.1, (f3 b hb).1.2.2.2.2.1, (f3 b hb).1.2.2.2.2.2⟩
      have nC : H5 s3.heap.objs.size = none := by
        have z : H5 ce.locals = none := I6.free
        rw [cL] at z
        exact z
      obtain ⟨m, hn, _⟩ := I6.loc
      have hn : s6.heap.Ns ce.locals m := hn
      rw [cL] at hn
      exact hRR D s3.heap.objs.size s6 m H5 I7 qq hn (I3.fpOk (Nat.le_refl _) nC)
    · refine thnF (T.item (blkP X s3 H3 scope ce fp pn) rfl rfl rfl mood i [] s5 _ H5 (fun _ _ => False) I5 (stat I5 n5) st5 go) fun r s6 ⟨u, hr, h6⟩ => ?_
      subst hr
      refine thnF h6 fun _ s7 ⟨x, H7, I7, r7, y7, st7, n7⟩ => ?_
      have I7' := I7.pinned (stat I7 n7) (T.obj _ _ st7)
      refine thnF (pg.run _ s7 _ H7 x u _ I7' r7 (step x H7 y7)) fun _ s8 ⟨σ8, H8, I8, hw8, q8⟩ => ?_
      refine thnF (pt.run _ s8 σ8 H8 _ I8 q8) fun b s9 ⟨H9, I9, q9⟩ => ?_
      have fin : ∀ {s' : Shared} {H' : Hp}, Inv (blkP X s3 H3 scope ce fp pn) ([] ++ pinsAt fp s7.heap) σ8 H' s' → Nx H' → ∃ m, m < n ∧ ∃ i H', Inv (blkP X s3 H3 scope ce fp pn) [] (wipe σ (own.map (·.2))) H' s' ∧ tn i s'.heap ∧ (∀ b ∈ fp, H' b = none) ∧ W i m H' := fun {s' H'} I' nx => by
        obtain ⟨m', hm', w'⟩ := hNx H' nx
        have pin' : ∀ b ∈ fp, ∀ o, s7.heap.get? b = some o → s'.heap.get? b = some o ∧ H' b = none := fun b hb o e =>
          let z := I'.pin (b, o) (List.mem_append_right _ (List.mem_append_right _ (mem_pinsAt hb e)))
          ⟨z.1, z.2.1⟩
        have hl : (wipe σ (own.map (·.2))).length = σ8.length := by rw [← hw8, wipe_length]
        refine ⟨m', hm', i + 1, H', (I'.unpinned (pins := [])).weak hl (fun j v e => ?_), T.keep _ _ _ st7 fun b hb o e => (pin' b hb o e).1, fun b hb => ?_, w'⟩
        · rw [← hw8] at e
          exact (wipe_some e).1
        · obtain ⟨o, e, _⟩ := T.obj _ _ st7 b hb
          exact (pin' b hb o e).2
      cases b with
      | false =>
        simp only [Bool.false_eq_true, if_false] at q9 ⊢
        exact fin I9 q9
      | true =>
        simp only [if_true] at q9 ⊢
        refine thnF (pe.run _ s9 σ8 H9 _ I9 q9) fun z s10 ⟨yv, H10, I10, r10, acc, hD10, hz10, nx⟩ => ?_
        exact app_ok (X := blkP X s3 H3 scope ce fp pn) I10 hD10 hz10 r10 fun s11 I11 => fin I11 nx
  exact codeAny_compStart_list loop (T.self X.A 0 _ _ _ st4 loop)
/-- as a value -/
theorem pe_lcM {pn : List (Addr × Obj)} {elt tg iter : Expr} {ifs : List Expr} {scope : Scope} {own : List (Str × Nat)} {pos : Pos} {wi : TI} {g : TG} {tt : TT} {te : TE}
    (hm : ∀ s H ce fp, md (blkP X s H scope ce fp pn)) (hpn : ∀ p ∈ pn, p ∈ X.pn) (hN : X.N.Nodup) (hi : PIM md X tg iter wi) (ok : BlkOk X.N X.env.scope scope own)
    (hg : ∀ (s : Shared) (H : Hp) (C : Addr) (cl : List (Str × Addr)) (fp : List Addr), PG (blkP X s H scope (compEnvC scope cl C X.env) fp pn) tg g) (ht : ∀ (s : Shared) (H : Hp) (C : Addr) (cl : List (Str × Addr)) (fp : List Addr), PTs (blkP X s H scope (compEnvC scope cl C X.env) fp pn) ifs tt)
    (he : ∀ (s : Shared) (H : Hp) (C : Addr) (cl : List (Str × Addr)) (fp : List Addr), PE (blkP X s H scope (compEnvC scope cl C X.env) fp pn) elt te) (hs : ∀ x, foldedSetIterable iter X.env x = pure x := by intro _; rfl) :
    PE X (.ListComp elt [⟨tg, iter, ifs, 0⟩] scope pos) (tLc wi g tt te (own.map (·.2))) := by
  refine ⟨fun pins s σ H Q I h => ?_⟩
  rw [eval_ListComp]
  refine lc_coreM hm hpn hN I hi ok hg ht he hs h fun D C s' m H' I' q hn f => ⟨m, hn, fun h'' sb => ?_⟩
  obtain ⟨f0, f1, f2, f3, f4, f5⟩ := f
  exact ⟨.ref D, H', I'.turned (t' := s'.toks) (fun b o hb e => (sb.2 b hb).trans e) f0 f1 f3 f4 f5, rfl, q⟩
theorem ps_setLcM {pn : List (Addr × Obj)} {i : Nat} {y : Str} {py : Pos} {elt tg iter : Expr} {ifs : List Expr} {scope : Scope} {own : List (Str × Nat)} {pos spos : Pos} {wi : TI} {g : TG} {tt : TT} {te : TE}
    (hm : ∀ s H ce fp, md (blkP X s H scope ce fp pn)) (hpn : ∀ p ∈ pn, p ∈ X.pn) (hN : X.N.Nodup) (hy : X.N[i]? = some y) (hyl : X.env.scope.names.lookup y = some .local)
    (hsw : swapsWith (.ListComp elt [⟨tg, iter, ifs, 0⟩] scope pos) (some (.Name y py)) spos.line X.env = pure true) (hi : PIM md X tg iter wi) (ok : BlkOk X.N X.env.scope scope own)
    (hg : ∀ (s : Shared) (H : Hp) (C : Addr) (cl : List (Str × Addr)) (fp : List Addr), PG (blkP X s H scope (compEnvC scope cl C X.env) fp pn) tg g) (ht : ∀ (s : Shared) (H : Hp) (C : Addr) (cl : List (Str × Addr)) (fp : List Addr), PTs (blkP X s H scope (compEnvC scope cl C X.env) fp pn) ifs tt)
    (he : ∀ (s : Shared) (H : Hp) (C : Addr) (cl : List (Str × Addr)) (fp : List Addr), PE (blkP X s H scope (compEnvC scope cl C X.env) fp pn) elt te) (hs : ∀ x, foldedSetIterable iter X.env x = pure x := by intro _; rfl) :
    PS X (.Assign [.Name y py] (.ListComp elt [⟨tg, iter, ifs, 0⟩] scope pos) spos) (tAsg (tLc wi g tt te (own.map (·.2))) (gName i)) := by
  refine ⟨fun pins s σ H D I h => ?_⟩
  rw [exec_Assign_Name_used _ _ _ _ hsw]
  refine wpAny_bind (wpAny_standAt (wpAny_bind ?_))
  show wpAny _ X.A (do let _ ← comprehension (.ListComp elt [⟨tg, iter, ifs, 0⟩] scope pos) scope X.env (firstIterPos [⟨tg, iter, ifs, 0⟩] pos) (newList []) false (eval iter X.env) (some (assign (.Name y py) X.env))) _ _ s
  have h : tLc wi g tt te (own.map (·.2)) σ H (fun x H1 => gName i x σ H1 D.nx) := h
  refine wpAny_bind (thn (lc_coreM (Qf := fun _ s' => SP X pins D .next s') hm hpn hN I hi ok hg ht he hs h fun L C s' m H' I' q hn f => ?_) fun _ s' hq => wpAny_pure (wpAny_pure hq))
  show wpAny _ _ (assign (.Name y py) X.env (.ref L)) _ _ _
  refine wpAny_assign_Name (store_ok2 (v := V.ref L) I' hN hy (.inl hyl) rfl (fun s2 I2 ⟨a, sb, ha⟩ => ?_) (.inr hyl))
  obtain ⟨f0, f1, f2, f3, f4, f5⟩ := f
  have haC : C ≠ a := by
    rcases ha with z | z
    · rw [z]; exact f1
    · exact fun e => f4 y a z e.symm
  refine ⟨m, hn.sameBut sb haC, fun h3 sb3 => ?_⟩
  exact ⟨_, H', I2.turned (t' := s2.toks) (fun b o hb e => (sb3.2 b hb).trans e) f0 f1 f3 f4 f5, q⟩
end
/-! ### .. while an exception is handled -/
theorem hotBlk {X : Cx} {s : Shared} {H : Hp} {scope : Scope} {ce : Env} {fp : List Addr} (hc : L2H.HotC X) : L2H.HotC (blkP X s H scope ce fp X.pn) := hc
section
variable {X : Cx} {W : WX} {elt tg iter : Expr} {ifs : List Expr} {scope : Scope} {own : List (Str × Nat)} {pos : Pos} {it : En → Rs (List D)} {g : TG} {t : Tg} {c : En → Rs Bool} {f : En → Rs Sl} {xi : Xi} {e : Expr}
/-- what holds without the exception in a slot, holds with it -/
theorem pd_xi (h : PD X [] W e f) : PD X xi W e f := PE.imp h fun σ H Q ⟨F0, H0, F, δ, st, p⟩ => ⟨F0, H0, F, δ, ⟨st.sm, st.hh, st.ag, st.ln, st.sl, st.dg, (fun _ _ _ e => nomatch e), st.pb⟩, p⟩
theorem pd_lcH {vs : List Nat} (hc : L2H.HotC X) (hN : X.N.Nodup) (hi : PDIH X [] W zH tg iter it) (ok : BlkOk X.N X.env.scope scope own) (ho : OwnTg X.K (own.map (·.2)) g t)
    (hg : ∀ (s : Shared) (H : Hp) (C : Addr) (cl : List (Str × Addr)) (fp : List Addr), PG (blkP X s H scope (compEnvC scope cl C X.env) fp X.pn) tg g)
    (ht : ∀ (s : Shared) (H : Hp) (C : Addr) (cl : List (Str × Addr)) (fp : List Addr), PDTs (blkP X s H scope (compEnvC scope cl C X.env) fp X.pn) [] WF ifs c)
    (he : ∀ (s : Shared) (H : Hp) (C : Addr) (cl : List (Str × Addr)) (fp : List Addr), PD (blkP X s H scope (compEnvC scope cl C X.env) fp X.pn) [] WF elt f)
    (hs : ∀ x, foldedSetIterable iter X.env x = pure x := by intro _; rfl) (hvs : own.map (·.2) = vs := by rfl) : PD X [] W (.ListComp elt [⟨tg, iter, ifs, 0⟩] scope pos) (eComp it vs t c f) := by
  subst hvs
  exact PE.imp (pe_lcM (md := L2H.HotC) (fun _ _ _ _ => hotBlk hc) (fun _ h => h) hN (.hot hi) ok hg ht he hs) (comp_of ho)
theorem pds_setLcH {vs : List Nat} {i : Nat} {y : Str} {py spos : Pos} (hc : L2H.HotC X) (hN : X.N.Nodup) (hsw : swapsWith (.ListComp elt [⟨tg, iter, ifs, 0⟩] scope pos) (some (.Name y py)) spos.line X.env = pure true)
    (hi : PDIH X [] W zH tg iter it) (ok : BlkOk X.N X.env.scope scope own) (ho : OwnTg X.K (own.map (·.2)) g t)
    (hg : ∀ (s : Shared) (H : Hp) (C : Addr) (cl : List (Str × Addr)) (fp : List Addr), PG (blkP X s H scope (compEnvC scope cl C X.env) fp X.pn) tg g)
    (ht : ∀ (s : Shared) (H : Hp) (C : Addr) (cl : List (Str × Addr)) (fp : List Addr), PDTs (blkP X s H scope (compEnvC scope cl C X.env) fp X.pn) [] WF ifs c)
    (he : ∀ (s : Shared) (H : Hp) (C : Addr) (cl : List (Str × Addr)) (fp : List Addr), PD (blkP X s H scope (compEnvC scope cl C X.env) fp X.pn) [] WF elt f)
    (hy : X.N[i]? = some y := by rfl) (hyl : X.env.scope.names.lookup y = some .local := by rfl)
    (hs : ∀ x, foldedSetIterable iter X.env x = pure x := by intro _; rfl) (hvs : own.map (·.2) = vs := by rfl) : PDS X [] W (.Assign [.Name y py] (.ListComp elt [⟨tg, iter, ifs, 0⟩] scope pos) spos) (sAsg (eComp it vs t c f) (gN i)) := by
  subst hvs
  exact PS.imp (ps_setLcM (md := L2H.HotC) (fun _ _ _ _ => hotBlk hc) (fun _ h => h) hN hy hyl hsw (.hot hi) ok hg ht he hs) fun E σ H q => by
    obtain ⟨F0, H0, F, δ, st, p⟩ := q
    refine comp_of (K := X.K) (W := W) (c := c) (f := f) ho σ H (fun x H1 => gName i x σ H1 E.nx) ?_
    refine tD_use st (fun s v F1 H1 e1 g1 r1 => ?_) (fun x F1 H1 e1 g1 => by simp only [sAsg, e1] at p; exact p σ F1 H1 (st.grow g1) (g1.ff st.sm)) (fun e1 => by simp only [sAsg, e1] at p; exact p)
    simp only [sAsg, e1] at p
    cases e2 : gN i s δ with
    | none => rw [e2] at p; exact p.elim
    | some δ' =>
      rw [e2] at p
      exact tG_name xiN v σ H1 _ ⟨F0, H0, F, H, F1, δ, s, δ', st, g1, r1, e2, fun σ' F' st' s' => p σ' F' H1 st' s'⟩
end
end DL

namespace DL
open PySem PySem.Spec PyProof.Rows L2 HotX
/-! ### data compared: <, and the least of a list -/
def notNone : D → Bool
  | .none => false
  | _ => true
theorem notNone_ne {d : D} (h : notNone d = true) : d ≠ .none := by
  rintro rfl
  cases h
/-- a < b, of whole numbers or of alike data -/
def mLtD (a b : Sl) : Option Sl := match mLt a b with
  | some s => some s
  | none => match datOf a, datOf b with
    | some d, some e => if (PySem.W.alike d e && notNone d && decide (d.depth ≤ 60)) = true then some (.im (.bool (PySem.W.dataLt d e))) else none
    | _, _ => none
section
variable {X : Cx}
theorem o_ltD (hu : X.A.units + 64 < cLine) : OpR X (compareOp .Lt) (rD X.K mLtD) := by
  intro pins s σ H x y v u Q I rx ry h
  obtain ⟨F, a, b, sl, sm, ra, rb, e, q⟩ := h
  unfold mLtD at e
  cases e1 : mLt a b with
  | some z =>
    rw [e1] at e
    cases e
    exact o_lt pins s σ H x y v u Q I rx ry ⟨F, a, b, _, sm, ra, rb, e1, q⟩
  | none =>
    rw [e1] at e
    simp only at e
    split at e
    · rename_i d e' hd he
      split at e
      · rename_i hc
        cases e
        simp only [Bool.and_eq_true, decide_eq_true_iff] at hc
        obtain ⟨⟨h1, h2⟩, h3⟩ := hc
        obtain ⟨as, r1⟩ := Dp.reads I d x v (ra.dp sm hd) rx
        obtain ⟨bs, r2⟩ := Dp.reads I e' y u (rb.dp sm he) ry
        have hm := Nat.min_le_left d.depth e'.depth
        exact PySem.W.lt_data r1 r2 h1 (notNone_ne h2) (by omega) ⟨.bl _, H, I, rfl, q _ F H (Grow.refl sm) (.bl _)⟩
      · cases e
    · cases e
def alB (xs : List D) : Bool := xs.all fun x => xs.all fun y => PySem.W.alike x y
theorem alB_ok {xs : List D} (h : alB xs = true) (h2 : xs.all notNone = true) : PySem.W.AlikeAll xs :=
  ⟨fun x hx y hy => List.all_eq_true.mp (List.all_eq_true.mp h x hx) y hy, fun x hx => notNone_ne (List.all_eq_true.mp h2 x hx)⟩
/-- the least of a list of alike data -/
def minT : List D → Option Sl
  | [] => none
  | x :: xs => if (alB (x :: xs) && (x :: xs).all notNone && decide (PyData.depthAll (x :: xs) ≤ 60)) = true then some (.im (PySem.W.minD x xs)) else none
def mMinT : List Sl → Option Sl
  | [a] => (lstOf a).bind minT
  | _ => none
theorem minD_mem (x : D) (xs : List D) : PySem.W.minD x xs ∈ x :: xs := by
  unfold PySem.W.minD
  induction xs generalizing x with
  | nil => exact .head _
  | cons y ys ih =>
    rw [List.foldl_cons]
    split
    · rcases List.mem_cons.mp (ih y) with h | h
      · rw [h]; exact .tail _ (.head _)
      · exact .tail _ (.tail _ h)
    · rcases List.mem_cons.mp (ih x) with h | h
      · rw [h]; exact .head _
      · exact .tail _ (.tail _ h)
theorem c_minT (hc : X.calm = true) (hu : X.A.units + 64 < cLine) : CallR X (.builtin "min") (rC X.K mMinT) := by
  intro pins s σ H vs us Q I r h
  obtain ⟨F, as, sl, sm, rr, e, q⟩ := h
  match as, rr, e with
  | [a], rr, e =>
    obtain ⟨ds0, hl, e⟩ := Option.bind_eq_some_iff.mp e
    cases ds0 with
    | nil => exact absurd e (by simp [minT])
    | cons x xs =>
      by_cases hb : (alB (x :: xs) && (x :: xs).all notNone && decide (PyData.depthAll (x :: xs) ≤ 60)) = true
      · rw [minT, if_pos hb] at e
        have e := Option.some.inj e
        subst e
        simp only [Bool.and_eq_true, decide_eq_true_iff] at hb
        obtain ⟨⟨h1, h2⟩, h3⟩ := hb
        have hal := alB_ok h1 (by simpa using h2)
        obtain ⟨v, rfl, ra⟩ := rr.one
        obtain ⟨p, ys, rfl, hT, rx⟩ := RdR.lst sm ra hl
        obtain ⟨its, rv, hp, _⟩ := I.list hT
        obtain ⟨bs, rds⟩ := Dp.readsAll I _ _ _ (RpA.dp sm _ _ rx) rv
        rw [Vals.ref1 r]
        refine PySem.W.min_list_data (I.ok.hd hc) hp.isList (as := bs) (by simpa using rds) hal (by omega) fun i u h' tk cs hi hr hk => ?_
        have hi' : its[i]? = some u := by simpa using hi
        have il : i < ys.length := by
          rw [rv.length]
          exact (List.getElem?_eq_some_iff.mp hi').1
        obtain ⟨d, hd, rd⟩ := rx.getV (List.getElem?_eq_getElem il)
        obtain ⟨u', hu', ru⟩ := rv.get (List.getElem?_eq_getElem il)
        rw [hi'] at hu'
        cases hu'
        have I' : Inv X pins σ H { s with heap := h', toks := tk } := I.kept hk
        obtain ⟨ds, r1⟩ := Dp.reads I' d _ u (Rp.dp sm d _ rd) ru
        have ed : d = PySem.W.minD x xs := PySem.W.alike_unique d _ u _ _ (hal.1 _ (List.mem_of_getElem? hd) _ (minD_mem x xs)) r1 hr
        rw [ed] at rd
        exact ⟨_, H, I', ru, q _ F H (Grow.refl sm) rd⟩
      · rw [minT, if_neg hb] at e
        cases e
/-! ### in, of a tuple of any data -/
def inT (a b : Sl) : Option Bool := match inD a b with
  | some k => some k
  | none => match tupOf b, datOf a with
    | some ds, some d => if (SeqAt.shaped d && SeqAt.shaped (.tuple ds)) = true then some (ds.any fun z => PyData.eqv z d) else none
    | _, _ => none
def mInT (a b : Sl) : Option Sl := (inT a b).map fun k => .im (.bool k)
theorem o_inT (hu : X.A.units + 65 < cLine) : OpR X (compareOp .In) (rD X.K mInT) := by
  intro pins s σ H x y v u Q I rx ry h
  obtain ⟨F, a, b, sl, sm, ra, rb, e, q⟩ := h
  unfold mInT inT at e
  cases e1 : inD a b with
  | some k =>
    rw [e1] at e
    exact o_in hu pins s σ H x y v u Q I rx ry ⟨F, a, b, sl, sm, ra, rb, by unfold mIn; rw [e1]; exact e, q⟩
  | none =>
    rw [e1] at e
    simp only at e
    split at e
    · rename_i ds d hd he
      by_cases hc : (SeqAt.shaped d && SeqAt.shaped (.tuple ds)) = true
      · rw [if_pos hc] at e
        cases e
        obtain ⟨h1, h2⟩ := (Bool.and_eq_true _ _).mp hc
        obtain ⟨as, r1⟩ := Dp.reads I d x v (ra.dp sm he) rx
        have e3 : datOf b = some (.tuple ds) := by
          unfold tupOf at hd
          split at hd
          · cases hd; rfl
          · cases hd
        obtain ⟨bs, r2⟩ := Dp.reads I (.tuple ds) y u (rb.dp sm e3) ry
        exact SeqAt.in_tuple_reads r2 r1 (SeqAt.canLay_of_shaped h2) (SeqAt.canLay_of_shaped h1) (room_in_shaped h1 hu) ⟨.bl _, H, I, rfl, q _ F H (Grow.refl sm) (.bl _)⟩
      · rw [if_neg hc] at e
        cases e
    · cases e
end
end DL

namespace DL
open PySem PySem.Spec PyProof.Rows L2 HotX
/-! ### any list walked while an exception is handled -/
section
variable {X : Cx} {xi : Xi} {W : WX} {tg e e2 : Expr} {f g : En → Rs Sl} {pos apos : Pos}
theorem pdih_any (he : PD X xi W e f) : PDIH X xi W zH tg e (iAny f) := by
  refine PIH.imp (pi_listH he) ?_
  rintro σ H R ⟨F0, H0, F, δ, st, p⟩
  refine tD_use st (fun x v F1 H1 e1 g1 r1 => ?_) (fun x F1 H1 e1 g1 => by simp only [iAny, e1, Rs.bind] at p; exact p F1 H1 g1) (fun e1 => by simp only [iAny, e1, Rs.bind] at p; exact p)
  simp only [iAny, e1, Rs.bind] at p
  cases e2 : lstOf x with
  | none => rw [e2] at p; exact p.elim
  | some ds =>
    rw [e2] at p
    obtain ⟨pp, xs, rfl, hS, ra⟩ := RdR.lst g1.sm r1.rd e2
    exact ⟨pp, rfl, ⟨xs, hS⟩, p _ F1 H1 g1 (itl_ok (fun F' H' q s => same_l q.2 hS) fun F' H' q => RpA.mono q.1 _ _ ra)⟩
/-! ### list.index of truth values -/
def mIdxB (ds : List D) (b : Sl) : Option Sl := match b with
  | .im (.bool i) => (match boolsOf ds with
    | some ns => if i ∈ ns then some (.im (.int (ns.idxOf i : Nat))) else none
    | none => none)
  | _ => none
def eIdxB (f g : En → Rs Sl) : En → Rs Sl := fun δ => (f δ).bind fun a => match lstOf a with
  | some ds => (g δ).bind fun b => ofO (mIdxB ds b)
  | none => .bad
theorem bools_flat (ns : List Bool) : (ns.map V.bl).all flatV = true := by
  rw [List.all_map, List.all_eq_true]; intro n hn; rfl
theorem idxB_spec {i : Bool} : ∀ {ns : List Bool}, i ∈ ns → (ns.map V.bl)[ns.idxOf i]? = some (.bl i) ∧ ∀ (m : Nat) (z : V), m < ns.idxOf i → (ns.map V.bl)[m]? = some z → eqV z (.bl i) = false
  | n :: ns, h => by
    by_cases e : n = i
    · subst e
      rw [List.idxOf_cons_self]
      exact ⟨rfl, fun m z hm => absurd hm (by omega)⟩
    · have hm : i ∈ ns := by
        rcases List.mem_cons.mp h with h | h
        · exact absurd h.symm e
        · exact h
      obtain ⟨h1, h2⟩ := idxB_spec hm
      have ei : (n :: ns).idxOf i = ns.idxOf i + 1 := by
        rw [List.idxOf_cons]
        have : (n == i) = false := by simpa using e
        rw [this]; rfl
      rw [ei]
      refine ⟨by simpa using h1, fun m z hlt hz => ?_⟩
      cases m with
      | zero =>
        simp at hz
        subst hz
        show (n == i) = false
        simpa using e
      | succ m => exact h2 m z (by omega) (by simpa using hz)
theorem pd_indexB (ho : PD X xi W e f) (he : PD X xi W e2 g)
    (hbase : attributeBase e "index" X.env (eval e X.env) = eval e X.env := by rfl)
    (hfew : ((backTo pos (starEach [e2] X.env)).all (fun x => !x.1) && (backToKw pos (keywordEach [] X.env)).all (fun x => x.1.isSome)
      && decide (([e2] : List Expr).length + ([] : List Keyword).length + (if ([] : List Keyword).isEmpty then 0 else 1) < 30)) = true := by rfl)
    (hline : (apos.endLine == pos.line) = true := by rfl) (hs : starEach [e2] X.env = (false, eval e2 X.env) :: starEach [] X.env := by rfl) (hplain : (backTo pos (starEach [] X.env)).any (·.1) = false := by rfl) :
    PD X xi W (.Call (.Attribute e "index" apos) [e2] [] pos) (eIdxB f g) := by
  refine PE.imp (pe_bm PySem.F.plainAttrs_list PySem.F.slot_list_index PySem.F.type_list_index mt_index ho (pa_cons he pa_nil hs) hbase hfew hline hs hplain) ?_
  rintro σ H Q ⟨F0, H0, F, δ, st, p⟩
  refine tD_use st (fun x v F1 H1 e1 g1 r1 => ?_) (fun x F1 H1 e1 g1 => by simp only [eIdxB, e1, Rs.bind] at p; exact p F1 H1 g1) (fun e1 => by simp only [eIdxB, e1, Rs.bind] at p; exact p)
  simp only [eIdxB, e1, Rs.bind] at p
  cases el : lstOf x with
  | none => rw [el] at p; exact p.elim
  | some ds =>
    rw [el] at p
    dsimp only at p
    obtain ⟨q0, xs0, rfl, hT0, rr0⟩ := RdR.lst g1.sm (RepR.rd r1) el
    refine ⟨.inl ⟨rfl, xs0, hT0⟩, ?_⟩
    refine tD_use (st.grow g1) (fun y w F2 H2 e2 g2 r2 => ?_) (fun x F2 H2 e2 g2 => by simp only [e2, Rs.bind] at p; exact p F2 H2 (g1.trans g2)) (fun e2 => by simp only [e2, Rs.bind] at p; exact p)
    simp only [e2, Rs.bind] at p
    cases em : mIdxB ds y with
    | none => rw [em] at p; exact p.elim
    | some s =>
      rw [em] at p
      unfold mIdxB at em
      split at em
      · rename_i i
        split at em
        · rename_i ns hns
          split at em
          · rename_i hi
            cases em
            have r2 : Rp X.K F2 w (.bool i) := r2
            cases r2
            have hds := boolsOf_eq hns
            subst hds
            have hxs := rr0.ofBools
            subst hxs
            obtain ⟨h1, h2⟩ := idxB_spec hi
            exact ⟨q0, _, _, ns.idxOf i, .bl i, rfl, rfl, same_l g2.hh hT0, rfl, bools_flat ns, h1, by show (i == i) = true; simp, h2, p _ F2 H2 (g1.trans g2) (.int _)⟩
          · cases em
        · cases em
      · cases em
end
end DL

namespace DL
open PySem PySem.Spec PyProof.Rows L2 HotX
/-! ### list.index of any data -/
def mIdxD (ds : List D) (b : Sl) : Option Sl := (datOf b).bind fun d => if (SeqAt.shaped d && SeqAt.shaped (.list ds)) = true then (if ds.findIdx (fun z => PyData.eqv z d) < ds.length then some (.im (.int (ds.findIdx (fun z => PyData.eqv z d) : Nat))) else none) else none
def eIdxD (f g : En → Rs Sl) : En → Rs Sl := fun δ => (f δ).bind fun a => match lstOf a with
  | some ds => (g δ).bind fun b => ofO (mIdxD ds b)
  | none => .bad
section
variable {X : Cx} {xi : Xi} {W : WX} {e e2 : Expr} {f g : En → Rs Sl} {pos apos : Pos}
theorem pd_indexD (hu : X.A.units + 65 < cLine) (ho : PD X xi W e f) (he : PD X xi W e2 g)
    (hbase : attributeBase e "index" X.env (eval e X.env) = eval e X.env := by rfl)
    (hfew : ((backTo pos (starEach [e2] X.env)).all (fun x => !x.1) && (backToKw pos (keywordEach [] X.env)).all (fun x => x.1.isSome)
      && decide (([e2] : List Expr).length + ([] : List Keyword).length + (if ([] : List Keyword).isEmpty then 0 else 1) < 30)) = true := by rfl)
    (hline : (apos.endLine == pos.line) = true := by rfl) (hs : starEach [e2] X.env = (false, eval e2 X.env) :: starEach [] X.env := by rfl) (hplain : (backTo pos (starEach [] X.env)).any (·.1) = false := by rfl) :
    PD X xi W (.Call (.Attribute e "index" apos) [e2] [] pos) (eIdxD f g) := by
  refine PE.imp (pe_bm PySem.F.plainAttrs_list PySem.F.slot_list_index PySem.F.type_list_index (mt_indexD hu) ho (pa_cons he pa_nil hs) hbase hfew hline hs hplain) ?_
  rintro σ H Q ⟨F0, H0, F, δ, st, p⟩
  refine tD_use st (fun x v F1 H1 e1 g1 r1 => ?_) (fun x F1 H1 e1 g1 => by simp only [eIdxD, e1, Rs.bind] at p; exact p F1 H1 g1) (fun e1 => by simp only [eIdxD, e1, Rs.bind] at p; exact p)
  simp only [eIdxD, e1, Rs.bind] at p
  cases el : lstOf x with
  | none => rw [el] at p; exact p.elim
  | some ds =>
    rw [el] at p
    dsimp only at p
    obtain ⟨q0, xs0, rfl, hT0, rr0⟩ := RdR.lst g1.sm (RepR.rd r1) el
    refine ⟨.inl ⟨rfl, xs0, hT0⟩, ?_⟩
    refine tD_use (st.grow g1) (fun y w F2 H2 e2 g2 r2 => ?_) (fun x F2 H2 e2 g2 => by simp only [e2, Rs.bind] at p; exact p F2 H2 (g1.trans g2)) (fun e2 => by simp only [e2, Rs.bind] at p; exact p)
    simp only [e2, Rs.bind] at p
    cases em : mIdxD ds y with
    | none => rw [em] at p; exact p.elim
    | some s =>
      rw [em] at p
      unfold mIdxD at em
      obtain ⟨d, hd, em⟩ := Option.bind_eq_some_iff.mp em
      split at em
      · rename_i hsh
        split at em
        · rename_i hlt
          cases em
          obtain ⟨s1, s2⟩ := (Bool.and_eq_true _ _).mp hsh
          have hz : ds[ds.findIdx (fun z => PyData.eqv z d)]? = some ds[ds.findIdx (fun z => PyData.eqv z d)] := List.getElem?_eq_getElem hlt
          have g12 := g1.trans g2
          have dl : Dp X.K H2 (V.ref q0) (.list ds) := .lst (same_l g2.hh hT0) (RpA.dp g2.sm _ _ (RpA.mono (g2.ff g1.sm) _ _ rr0))
          have dy : Dp X.K H2 w d := (RepR.rd r2).dp g2.sm hd
          exact ⟨q0, w, d, ds, _, _, rfl, rfl, dl, dy, s2, s1, hz, List.findIdx_getElem (w := hlt), fun m z' hm hz' => by
            have h := List.not_of_lt_findIdx hm
            have e := (List.getElem?_eq_some_iff.mp hz').2
            rw [e] at h
            simpa using h, p _ F2 H2 g12 (.int _)⟩
        · cases em
      · cases em
end
end DL

namespace DL
open PySem PySem.Spec PyProof.Rows L2 HotX
/-! ### comprehensions whose element may raise -/
abbrev blkX (X : Cx) (s : Shared) (H : Hp) (scope : Scope) (ce : Env) (fp : List Addr) (xe : Value → Shared → Prop) : Cx := (X.blk s H scope ce fp).tr [] xe
theorem Inv.withXe {X : Cx} {s : Shared} {H : Hp} {scope : Scope} {ce : Env} {fp : List Addr} {xe : Value → Shared → Prop} {pins : List (Addr × Obj)} {σ : L2.St} {H' : Hp} {s' : Shared} (I : Inv (X.blk s H scope ce fp) pins σ H' s') : Inv (blkX X s H scope ce fp xe) pins σ H' s' :=
  ⟨⟨I.ok.mod, I.ok.kind, I.ok.glob, I.ok.blt, I.ok.above, I.ok.inj, I.ok.has, I.ok.cab, I.ok.hd, I.ok.frames, I.ok.stk, I.ok.exf, I.ok.bs, I.ok.bsz, I.ok.noex, I.ok.exfs, I.ok.funs, I.ok.frf⟩, I.os, I.bare, I.base, I.loc, I.cell, I.free, I.freeC, I.pin, I.hok, I.len⟩
theorem Inv.dropXe {X : Cx} {s : Shared} {H : Hp} {scope : Scope} {ce : Env} {fp : List Addr} {xe : Value → Shared → Prop} {pins : List (Addr × Obj)} {σ : L2.St} {H' : Hp} {s' : Shared} (I : Inv (blkX X s H scope ce fp xe) pins σ H' s') : Inv (X.blk s H scope ce fp) pins σ H' s' :=
  ⟨⟨I.ok.mod, I.ok.kind, I.ok.glob, I.ok.blt, I.ok.above, I.ok.inj, I.ok.has, I.ok.cab, I.ok.hd, I.ok.frames, I.ok.stk, I.ok.exf, I.ok.bs, I.ok.bsz, I.ok.noex, I.ok.exfs, I.ok.funs, I.ok.frf⟩, I.os, I.bare, I.base, I.loc, I.cell, I.free, I.freeC, I.pin, I.hok, I.len⟩
theorem traced_same {B h1 h2 : Heap} {a C : Addr} {Z : Obj → Prop} {v : Value} {m : Str → Option Value} (hn : h1.Ns C m) (sb : Heap.SameBut C h1 h2) (t : HandSPX.TracedZ h1 B a Z v) : HandSPX.TracedZ h2 B a Z v := by
  obtain ⟨oe, vs, T, oT, ts, he, hz, hd, h1', hnT, hTe, hT, hdT, h3⟩ := t
  obtain ⟨oL, es, ep, hoL, hdL, r⟩ := hn
  have na : a ≠ C := fun z => by
    rw [z, hoL] at he; cases he
    rw [hdL] at hd; cases hd
  have nT : T ≠ C := fun z => by
    rw [z, hoL] at hT; cases hT
    rw [hdL] at hdT; cases hdT
  exact ⟨oe, vs, T, oT, ts, (sb.2 a na).trans he, hz, hd, h1', hnT, hTe, (sb.2 T nT).trans hT, hdT, h3⟩
theorem blk_passes {X : Cx} {W : WX} {pins : List (Addr × Obj)} {σ : L2.St} {s3 : Shared} {H3 : Hp} {scope : Scope} {ce : Env} {fp : List Addr} (hs : X.stack = X.env :: X.outer) (hf : X.env.frame = some X.env.locals) (tk : L2N.Takes X W)
    (I3 : Inv X pins σ H3 s3) (f3 : ∀ b ∈ fp, FpOk X pins H3 b) (cL : ce.locals = s3.heap.objs.size) (cF : ce.frame = X.env.frame) (σ' : L2.St) :
    PassesAt (L2N.CX X.prog X.w) (blkX X s3 H3 scope ce fp (notedBy (model X.prog X.w) X.A ce (CompFails (model X.prog X.w) X.A X.xe ce))) σ' (WE (fun cls d _ H => W cls d σ H) σ') := by
  rintro pins' H s e s' I c
  obtain ⟨a, B, H', cls, d, rfl, fl, hok, ub, na, os, ag, hE⟩ := c
  have fl : HandSPX.FlyingZ B X.stack a (L2N.Zn cls d) s'.heap := fl
  have ub : UB (frs X.stack) H H' s.heap B s'.heap := ub
  have hE : W cls d σ H' := hE
  obtain ⟨G, g1, g2⟩ := restrict s'.heap fun b => (B.get? b).isSome || decide (b ∈ frs X.stack)
  have st : B.StaysIn s'.heap := fl.1
  have gB : ∀ b o, B.get? b = some o → G.get? b = some o := fun b o e => by
    rw [g1 b (by simp [e])]
    exact st b o e
  have gF : ∀ b, b ∈ frs X.stack → G.get? b = s'.heap.get? b := fun b hb => g1 b (by simp [hb])
  have og : ∀ b o, G.get? b = some o → s'.heap.get? b = some o ∧ ((B.get? b).isSome = true ∨ b ∈ frs X.stack) := fun b o e => by
    cases q : ((B.get? b).isSome || decide (b ∈ frs X.stack)) with
    | false => rw [g2 b q] at e; cases e
    | true =>
      rw [g1 b q] at e
      exact ⟨e, by simpa [Bool.or_eq_true] using q⟩
  have I' : Inv (blkX X s3 H3 scope ce fp (notedBy (model X.prog X.w) X.A ce (CompFails (model X.prog X.w) X.A X.xe ce))) pins' σ' H' { s with heap := G, gens := s'.gens, drawn := s'.drawn, toks := s'.toks } := by
    refine I.call (ch := []) ⟨fun b o e n hb _ => gB b o (ub.keep b o e n hb), fun b o e n hb _ => ?_, fun b o e n _ => ub.free b o e n, fun b o e _ => ?_, ub.tups, ub.frzs, ub.tbls⟩ (hok.kept gB) ag (fun _ z => nomatch z)
    · obtain ⟨sl, q⟩ := ub.slot b o e hb
      exact ⟨sl, by rw [gF b hb]; exact q⟩
    · by_cases hb : b ∈ frs X.stack
      · obtain ⟨sl, q⟩ := ub.slot b o e hb
        exact ⟨_, by rw [gF b hb]; exact q⟩
      · obtain ⟨o', q⟩ := ub.there b o e hb
        exact ⟨o', gB b o' q⟩
  have I7 : Inv X pins σ H' { s with heap := G, gens := s'.gens, drawn := s'.drawn, toks := s'.toks } := I3.call' (ch := fp) I'.os I'.base I'.hok I'.bare fun b hb => ⟨(f3 b hb).2.2.2.1, (f3 b hb).2.1, (f3 b hb).2.2.2.2.1, (f3 b hb).2.2.2.2.2⟩
  have nC : H' ce.locals = none := I'.free
  obtain ⟨m, hn, _⟩ := I'.loc
  have hn : G.Ns ce.locals m := hn
  have fC : FpOk X pins H' ce.locals := by
    rw [cL] at nC ⊢
    exact I3.fpOk (Nat.le_refl _) nC
  obtain ⟨G2, k1, k2⟩ := restrict G fun b => decide (b ≠ ce.locals)
  obtain ⟨B2, b1, b2⟩ := restrict B fun b => decide (b ≠ ce.locals)
  have G2s : ∀ b o, G2.get? b = some o → b ≠ ce.locals ∧ G.get? b = some o := fun b o e => by
    by_cases hb : b = ce.locals
    · rw [k2 b (by simp [hb])] at e; cases e
    · rw [k1 b (by simp [hb])] at e; exact ⟨hb, e⟩
  have B2s : ∀ b o, B2.get? b = some o → b ≠ ce.locals ∧ B.get? b = some o := fun b o e => by
    by_cases hb : b = ce.locals
    · rw [b2 b (by simp [hb])] at e; cases e
    · rw [b1 b (by simp [hb])] at e; exact ⟨hb, e⟩
  have B2n : ∀ b, B.get? b = none → B2.get? b = none := fun b e => by
    cases q : B2.get? b with
    | none => rfl
    | some o => rw [(B2s b o q).2] at e; cases e
  have I8 : Inv X pins σ H' { s with heap := G2, gens := s'.gens, drawn := s'.drawn, toks := s'.toks } := by
    obtain ⟨f0, f1, f3, f4, f5⟩ := fC
    obtain ⟨f5, f6⟩ := f5
    exact I7.turned (t' := s'.toks) (fun b o hb e => (k1 b (by simp [hb])).trans e) f0 f1 f4 f5 f6
  have ff2 : s'.heap.FunFrames B2 X.stack := funFrames_none fl.2.2.1 fun L hL => B2n L (fl.2.2.1.mem hL).1
  have fl2 : HandSPX.FlyingZ B2 X.stack a (L2N.Zn cls d) s'.heap := by
    obtain ⟨x1, x2, x3, oe, vs, T, oT, ts, he, hz, hd, h1', hnT, r⟩ := fl
    exact ⟨fun b o e => x1 b o (B2s b o e).2, B2n _ x2, ff2, oe, vs, T, oT, ts, he, hz, hd, h1', B2n _ hnT, r⟩
  have hfr : X.A.frames = some (X.env :: X.outer) := by rw [I3.ok.frames, hs]
  rw [hs] at fl2
  have hfc : ce.frame = some X.env.locals := cF.trans hf
  show wpAny _ X.A (noteFrame (.ref a) ce) _ _ s'
  rw [noteFrame_env _ cF]
  refine PXN.looks_onZ L2N.Zn.steady hfr hf fl2 fun h1 hh1 up1 => ?_
  have up0 : G.UpToSlots s'.heap := Heap.UpToSlots.of_keeps fun b o e => (og b o e).1
  have hn1 : h1.Ns ce.locals m := hn.upToSlots (up0.trans up1)
  refine ⟨m, hn1, fun h2 m2 hn2 sb => ?_⟩
  obtain ⟨x1, x2, x3, x4⟩ := hh1
  have t2 := traced_same hn1 sb x4
  have hh2 : HandSPX.HeldZ B2 (X.env :: X.outer) a (L2N.Zn cls d) X.env.locals h2 :=
    ⟨fun b o hb => (sb.2 b (B2s b o hb).1).trans (x1 b o hb), x2, Heap.FunFrames.sameBut sb hn2 x3, t2⟩
  obtain ⟨oe, vs, T, oT, ts, he, hz, hd, h1', r⟩ := t2
  unfold PySem.passOn
  refine wpAny_bind (wpAny_field he hd h1' ?_)
  rw [if_neg (show ¬ ((Value.ref T == Value.none) = true) from by simp)]
  rw [hfc]
  refine wpAny_bind (HandSPX.setFlight_onZ hh2 fun h3 hh3 up3 => ?_)
  refine wpAny_throw ?_
  refine tk _ _ ⟨a, B2, { s with heap := G2, gens := s'.gens, drawn := s'.drawn, toks := s'.toks }, pins, σ, H', cls, d, rfl, I8, fun b o e hb => ?_, fun b o e hnf => ?_, ?_, na, os, ag, hE⟩
  · obtain ⟨bn, e1⟩ := G2s b o e
    obtain ⟨e2, h⟩ := og b o e1
    rcases h with h | h
    · obtain ⟨o', q⟩ := Option.isSome_iff_exists.mp h
      have z := st b o' q
      rw [e2] at z; cases z
      rw [b1 b (by simp [bn])]
      exact q
    · exact absurd h hb
  · obtain ⟨bn, e1⟩ := G2s b o e
    obtain ⟨sl, e2⟩ := (up0.trans up1) b o e1 hnf
    have e3 := (sb.2 b bn).trans e2
    obtain ⟨sl2, e4⟩ := up3 b _ e3 hnf
    exact ⟨sl2, e4⟩
  · rw [hs]
    exact .inr (.inr hh3)
section
variable {X : Cx}
theorem pe_lcX {W : WX} {elt tg iter : Expr} {ifs : List Expr} {scope : Scope} {own : List (Str × Nat)} {pos : Pos} {wi : TI} {g : TG} {tt : TT} {te : L2.St → TE}
    (hst : X.stack = X.env :: X.outer) (hfr : X.env.frame = some X.env.locals) (tk : L2N.Takes X W) (hm : X.calm = true) (hN : X.N.Nodup) (hi0 : PI X tg iter wi) (ok : BlkOk X.N X.env.scope scope own)
    (hg : ∀ (s : Shared) (H : Hp) (C : Addr) (cl : List (Str × Addr)) (fp : List Addr), PG (X.blk s H scope (compEnvC scope cl C X.env) fp) tg g) (ht : ∀ (s : Shared) (H : Hp) (C : Addr) (cl : List (Str × Addr)) (fp : List Addr), PTs (X.blk s H scope (compEnvC scope cl C X.env) fp) ifs tt)
    (he : ∀ (σ : L2.St) (s : Shared) (H : Hp) (C : Addr) (cl : List (Str × Addr)) (fp : List Addr) (xe : Value → Shared → Prop), (∀ σ', PassesAt (L2N.CX X.prog X.w) (blkX X s H scope (compEnvC scope cl C X.env) fp xe) σ' (WE (fun cls d _ H => W cls d σ H) σ')) → PE (blkX X s H scope (compEnvC scope cl C X.env) fp xe) elt (te σ))
    (hs : ∀ x, foldedSetIterable iter X.env x = pure x := by intro _; rfl) :
    PE X (.ListComp elt [⟨tg, iter, ifs, 0⟩] scope pos) (fun σ H Q => tLc wi g tt (te σ) (own.map (·.2)) σ H Q) := by
  have hi : PIM (fun X => X.calm = true) X tg iter wi := PIM.calm hi0
  refine ⟨fun pins s σ H Q I h => ?_⟩
  rw [eval_ListComp]
  have free : ∀ y ∈ scope.names, y.2 = .free → ∃ c, X.env.cells.lookup y.1 = some c := fun y hy e => (ok.free y hy e).elim (fun k => I.ok.has _ (.inl k)) fun k => I.ok.has _ (.inr k)
  refine comprehension_at (use := none) rfl hs (closure_ok free) ok.kind (fun y hy e => by rw [ok.uniq y hy, e])
    (thn (hi.run pins s σ H _ I h) fun xv s1 hx => thn hx fun itv s2 h2 => ?_)
  obtain ⟨it, fp, tn, J, H2, rfl, I2, T, st2, f2, q⟩ := h2
  refine wpAny_newObj_type (newEnv_comp ?_) (by show 0 ≤ sizeLine; decide)
  generalize hD : s2.heap.objs.size = D
  have hDn : H2 D = none := I2.hok.fresh (Nat.le_of_eq hD)
  obtain ⟨Wi, ⟨m0, w0⟩, turn⟩ := q D hDn
  generalize hs3 : ({ s2 with heap := s2.heap.push { cls := .type "list", data := .seq ([] : List Value).toArray } } : Shared) = s3
  have I3 : Inv X pins σ (upd H2 D (.lst [])) s3 := by
    rw [← hs3]
    refine I2.laid (t' := s2.toks) (fun b o e => Heap.get?_push_of_some _ e) (Nat.le_of_eq hD) ⟨Nat.zero_le _, [], 0, .nil, ?_⟩
    rw [← hD]
    exact Heap.get?_push_size _ rfl
  have h3 : s3.heap = s2.heap.push { cls := .type "list", data := .seq ([] : List Value).toArray } := by rw [← hs3]
  have sz : ∀ b ∈ fp, b < s2.heap.objs.size := fun b hb => by
    obtain ⟨o, e, _⟩ := T.obj _ _ st2 b hb
    exact Heap.lt_size e
  have f3 : ∀ b ∈ fp, FpOk X pins (upd H2 D (.lst [])) b ∧ b < s3.heap.objs.size := fun b hb => by
    have hlt := sz b hb
    refine ⟨⟨?_, (f2 b hb).2⟩, by rw [h3, Heap.size_push]; exact Nat.lt_succ_of_lt hlt⟩
    rw [upd_ne (by rw [← hD]; exact Nat.ne_of_lt hlt)]
    exact (f2 b hb).1
  have st3 : tn 0 s3.heap := T.keep _ _ _ st2 fun b _ o e => by rw [h3]; exact Heap.get?_push_of_some _ e
  have I4 := block_start I3 ok hN f3
  have pg := hg s3 (upd H2 D (.lst [])) s3.heap.objs.size (cellsFrom (s3.heap.objs.size + 1) scope.names (cloFrom X.env.cells scope.names [])) fp
  have pt := ht s3 (upd H2 D (.lst [])) s3.heap.objs.size (cellsFrom (s3.heap.objs.size + 1) scope.names (cloFrom X.env.cells scope.names [])) fp
  have pe := he σ s3 (upd H2 D (.lst [])) s3.heap.objs.size (cellsFrom (s3.heap.objs.size + 1) scope.names (cloFrom X.env.cells scope.names [])) fp
  show codeAny _ _ (.compStart (.ListComp elt [⟨tg, iter, ifs, 0⟩] scope pos) 0 (.ref it) (.ref D) (compEnvC scope (cellsFrom (s3.heap.objs.size + 1) scope.names (cloFrom X.env.cells scope.names [])) s3.heap.objs.size X.env)) (compEnds (model X.prog X.w) X.A X.xe none _ (.ref D) (compEnvC scope (cellsFrom (s3.heap.objs.size + 1) scope.names (cloFrom X.env.cells scope.names [])) s3.heap.objs.size X.env)) { s3 with heap := pushCells (s3.heap.push { cls := .type "dict", data := .dict #[] }) scope.names }
  have nfp : ∀ b ∈ fp, (upd H2 D (.lst [])) b = none := fun b hb => (f3 b hb).1.1
  generalize hce : compEnvC scope (cellsFrom (s3.heap.objs.size + 1) scope.names (cloFrom X.env.cells scope.names [])) s3.heap.objs.size X.env = ce at I4 pg pt pe ⊢
  have cL : ce.locals = s3.heap.objs.size := by subst hce; rfl
  have cF : ce.frame = X.env.frame := by subst hce; rfl
  generalize hH3 : upd H2 D (.lst []) = H3 at I3 I4 pg pt pe w0 nfp f3
  generalize hs4 : ({ s3 with heap := pushCells (s3.heap.push { cls := .type "dict", data := .dict #[] }) scope.names } : Shared) = s4 at I4 ⊢
  have up4 : ∀ b o, s3.heap.get? b = some o → s4.heap.get? b = some o := fun b o e => by rw [← hs4]; exact pushCells_keeps _ _ _ _ (Heap.get?_push_of_some _ e)
  have st4 : tn 0 s4.heap := T.keep _ _ _ st3 fun b _ o e => up4 b o e
  have stat : ∀ {σ' : L2.St} {H' : Hp} {s' : Shared}, Inv (X.blk s3 H3 scope ce fp) [] σ' H' s' → (∀ b ∈ fp, H' b = none) → ∀ b ∈ fp, FpOk (X.blk s3 H3 scope ce fp) [] H' b := fun {σ' H' s'} I' hn b hb =>
    ⟨hn b hb, (I'.ok.exf b hb).1, I'.ok.exfs b hb, .inl hb, fun x c e => (I'.ok.exf b hb).2 x c e, fun p hp => nomatch hp⟩
  have loop : codeAny (model X.prog X.w) X.A (.compLoop (.ListComp elt [⟨tg, iter, ifs, 0⟩] scope pos) 0 (.ref it) (.ref D) ce) (compEnds (model X.prog X.w) X.A X.xe none (fun v s' => ∃ x H', Inv X pins σ H' s' ∧ RelV x v ∧ Q x H') (.ref D) ce) s4 := by
    refine compLoop_any (fun n s' => ∃ i H', Inv (X.blk s3 H3 scope ce fp) [] (wipe σ (own.map (·.2))) H' s' ∧ tn i s'.heap ∧ (∀ b ∈ fp, H' b = none) ∧ Wi i n H') ?_ m0 ⟨0, H3, I4, st4, nfp, w0⟩
    rintro n s5 ⟨i, H5, I5, st5, n5, w5⟩
    rcases turn i n H5 w5 with ⟨stop, qq⟩ | ⟨go, Nx, hNx, step⟩
    · refine thnF (T.done (X.blk s3 H3 scope ce fp) rfl rfl rfl hm i [] s5 _ H5 (fun _ _ => False) I5 (stat I5 n5) st5 stop) fun r s6 ⟨hr, I6⟩ => ?_
      subst hr
      have I7 : Inv X pins σ H5 s6 := I3.call' (ch := fp) I6.os I6.base I6.hok I6.bare fun b hb => ⟨(f3 b hb).1.2.2.2.1, (f3 b hb).1.2.1, (f3 b hb).1.2.2.2.2.1, (f3 b hb).1.2.2.2.2.2⟩
      have nC : H5 s3.heap.objs.size = none := by
        have z : H5 ce.locals = none := I6.free
        rw [cL] at z
        exact z
      obtain ⟨m, hn, _⟩ := I6.loc
      have hn : s6.heap.Ns ce.locals m := hn
      have f := I3.fpOk (Nat.le_refl _) nC
      rw [← cL] at f
      refine ⟨m, hn, fun h'' sb => ?_⟩
      obtain ⟨f0, f1, f2, f3, f4, f5⟩ := f
      exact ⟨.ref D, H5, I7.turned (t' := s6.toks) (fun b o hb e => (sb.2 b hb).trans e) f0 f1 f3 f4 f5, rfl, qq⟩
    · refine thnF (T.item (X.blk s3 H3 scope ce fp) rfl rfl rfl hm i [] s5 _ H5 (fun _ _ => False) I5 (stat I5 n5) st5 go) fun r s6 ⟨u, hr, h6⟩ => ?_
      subst hr
      refine thnF h6 fun _ s7 ⟨x, H7, I7, r7, y7, st7, n7⟩ => ?_
      have I7' := I7.pinned (stat I7 n7) (T.obj _ _ st7)
      refine thnF (pg.run _ s7 _ H7 x u _ I7' r7 (step x H7 y7)) fun _ s8 ⟨σ8, H8, I8, hw8, q8⟩ => ?_
      refine thnF (pt.run _ s8 σ8 H8 _ I8 q8) fun b s9 ⟨H9, I9, q9⟩ => ?_
      have fin : ∀ {s' : Shared} {H' : Hp}, Inv (X.blk s3 H3 scope ce fp) ([] ++ pinsAt fp s7.heap) σ8 H' s' → Nx H' → ∃ m, m < n ∧ ∃ i H', Inv (X.blk s3 H3 scope ce fp) [] (wipe σ (own.map (·.2))) H' s' ∧ tn i s'.heap ∧ (∀ b ∈ fp, H' b = none) ∧ Wi i m H' := fun {s' H'} I' nx => by
        obtain ⟨m', hm', w'⟩ := hNx H' nx
        have pin' : ∀ b ∈ fp, ∀ o, s7.heap.get? b = some o → s'.heap.get? b = some o ∧ H' b = none := fun b hb o e =>
          let z := I'.pin (b, o) (List.mem_append_right _ (List.mem_append_right _ (mem_pinsAt hb e)))
          ⟨z.1, z.2.1⟩
        have hl : (wipe σ (own.map (·.2))).length = σ8.length := by rw [← hw8, wipe_length]
        refine ⟨m', hm', i + 1, H', (I'.unpinned (pins := [])).weak hl (fun j v e => ?_), T.keep _ _ _ st7 fun b hb o e => (pin' b hb o e).1, fun b hb => ?_, w'⟩
        · rw [← hw8] at e
          exact (wipe_some e).1
        · obtain ⟨o, e, _⟩ := T.obj _ _ st7 b hb
          exact (pin' b hb o e).2
      cases b with
      | false =>
        simp only [Bool.false_eq_true, if_false] at q9 ⊢
        exact fin I9 q9
      | true =>
        simp only [if_true] at q9 ⊢
        refine thn ((pe _ (blk_passes hst hfr tk I3 (fun b hb => (f3 b hb).1) cL cF)).run _ s9 σ8 H9 _ (Inv.withXe I9) q9) fun z s10 ⟨yv, H10, I10, r10, acc, hD10, hz10, nx⟩ => ?_
        exact app_ok (X := X.blk s3 H3 scope ce fp) (Inv.dropXe I10) hD10 hz10 r10 fun s11 I11 => fin I11 nx
  exact codeAny_compStart_list loop (T.self X.A 0 _ _ _ st4 loop)
end
/-- as compL, but an error of the element goes on -/
def compLX (t : Tg) (c : En → Rs Bool) (f : En → Rs Sl) (δ : En) : List D → Rs (List D)
  | [] => .ok []
  | d :: r => match t (.im d) δ with
    | none => .bad
    | some δ1 => match c δ1 with
      | .ok true => (match f δ1 with
        | .ok (.im y) => (compLX t c f δ r).bind fun ys => .ok (y :: ys)
        | .er x => .er x
        | _ => .bad)
      | .ok false => compLX t c f δ r
      | _ => .bad
def eCompX (it : En → Rs (List D)) (vs : List Nat) (t : Tg) (c : En → Rs Bool) (f : En → Rs Sl) : En → Rs Sl := fun δ => (it δ).bind fun ds => if ds.length ≤ 16777216 then (match compLX t c f (wipeE δ vs) ds with
  | .ok ys => .ok (.ml ys)
  | .er x => .er x
  | .bad => .bad) else .bad
section
variable {X : Cx} {W : WX} {elt tg iter : Expr} {ifs : List Expr} {scope : Scope} {own : List (Str × Nat)} {pos : Pos} {it : En → Rs (List D)} {g : TG} {t : Tg} {c : En → Rs Bool} {f : En → Rs Sl}
theorem compLX_drop {δ : En} {ds : List D} {i : Nat} {d : D} (h : ds[i]? = some d) : compLX t c f δ (ds.drop i) = match t (.im d) δ with
    | none => .bad
    | some δ1 => match c δ1 with
      | .ok true => (match f δ1 with
        | .ok (.im y) => (compLX t c f δ (ds.drop (i + 1))).bind fun ys => .ok (y :: ys)
        | .er x => .er x
        | _ => .bad)
      | .ok false => compLX t c f δ (ds.drop (i + 1))
      | _ => .bad := by
  obtain ⟨hi, e⟩ := List.getElem?_eq_some_iff.mp h
  rw [List.drop_eq_getElem_cons hi, e]
  rfl
theorem comp_ofX {K : PySem.W.Frag} {vs : List Nat} (ho : OwnTg K vs g t) : ∀ σ H Q, tD K [] W (eCompX it vs t c f) σ H Q → tLc (tI K [] W zH it) g (tT K [] WF c) (tD K [] (fun cls d _ H => W cls d σ H) f) vs σ H Q := by
  rintro σ H Q ⟨F0, H0, F, δ, st, p⟩
  refine ⟨F0, H0, F, δ, st, ?_⟩
  unfold eCompX at p
  cases e1 : it δ with
  | bad => rw [e1] at p; exact p.elim
  | er x => rw [e1] at p; exact fun F1 H1 g1 => p F1 H1 g1
  | ok ds =>
    rw [e1] at p
    simp only [Rs.bind] at p
    intro J F1 H1 g1 j D hD
    split at p
    · rename_i hlen
      cases e2 : compLX t c f (wipeE δ vs) ds with
      | bad => rw [e2] at p; exact p.elim
      | ok total =>
        rw [e2] at p
        have hDH : H D = none := Same.free g1.hh hD
        refine ⟨fun i m H => m = ds.length - i ∧ i ≤ ds.length ∧ ∃ F' acc ys zs, Grow F1 H1 F' H ∧ H D = some (.lst acc) ∧ F' D = none ∧ RpA K F' acc ys ∧ compLX t c f (wipeE δ vs) (ds.drop i) = .ok zs ∧ ys ++ zs = total ∧ ys.length ≤ i,
          ⟨_, rfl, Nat.zero_le _, F1, [], [], total, Grow.newO g1.sm hD, upd_same, Same.none g1.sm hD, .nil, e2, rfl, Nat.le_refl _⟩, ?_⟩
        rintro i m H2 ⟨rfl, hi, F', acc, ys, zs, g2, hd2, hf2, ra, ec, et, hl⟩
        have pz : zH F1 H1 F' H2 := ⟨g2.ff g1.sm, g2.hh⟩
        by_cases hlt : i < ds.length
        · have hd : ds[i]? = some ds[i] := List.getElem?_eq_getElem hlt
          rw [compLX_drop hd] at ec
          refine .inr ⟨j.go i F' H2 pz g2.sm hlt, fun H => ∃ F' acc ys zs, Grow F1 H1 F' H ∧ H D = some (.lst acc) ∧ F' D = none ∧ RpA K F' acc ys ∧ compLX t c f (wipeE δ vs) (ds.drop (i + 1)) = .ok zs ∧ ys ++ zs = total ∧ ys.length ≤ i + 1,
            fun H' h => ⟨ds.length - (i + 1), by omega, rfl, hlt, h⟩, fun x H3 y => ?_⟩
          obtain ⟨F3, g3, rx⟩ := j.yld i _ F' H2 x H3 pz g2.sm hd y
          have g13 := g2.trans g3
          have st3 : Stt K [] F0 H0 F3 H3 (L2.wipe σ vs) (wipeE δ vs) := ((st.grow g1).grow g13).wipe vs
          have hd3 : H3 D = some (.lst acc) := g3.hh _ _ hd2
          have hf3 : F3 D = none := (g3.ag _ _ hd2).trans hf2
          cases et1 : t (.im ds[i]) (wipeE δ vs) with
          | none => rw [et1] at ec; cases ec
          | some δ1 =>
            rw [et1] at ec
            refine ho F0 H0 F3 H3 _ _ δ1 x _ _ st3 rx et1 fun σ4 st4 w4 => ⟨w4.trans ?_, ?_⟩
            · exact wipe_wipe σ vs
            · refine tT_use st4 (fun k F5 H5 e5 g5 => ?_) (fun k F5 H5 e5 g5 => by simp only [e5] at ec; cases ec) (fun e5 => by simp only [e5] at ec; cases ec)
              simp only [e5] at ec
              have hd5 : H5 D = some (.lst acc) := g5.hh _ _ hd3
              have hf5 : F5 D = none := (g5.ag _ _ hd3).trans hf3
              cases k with
              | false =>
                simp only [Bool.false_eq_true, if_false]
                exact ⟨F5, acc, ys, zs, g13.trans g5, hd5, hf5, RpA.mono ((g3.trans g5).ff g2.sm) _ _ ra, ec, et, Nat.le_succ_of_le hl⟩
              | true =>
                simp only [if_true]
                refine tD_use (st4.grow g5) (fun s v F6 H6 e6 g6 r6 => ?_) (fun k F5 H5 e6 g5 => by simp only [e6] at ec; cases ec) (fun e6 => by simp only [e6] at ec; cases ec)
                simp only [e6] at ec
                cases s with
                | im yv =>
                  simp only at ec
                  cases e7 : compLX t c f (wipeE δ vs) (ds.drop (i + 1)) with
                  | ok rest =>
                    rw [e7] at ec
                    simp only [Rs.bind] at ec
                    cases ec
                    have hd6 : H6 D = some (.lst acc) := g6.hh _ _ hd5
                    have hf6 : F6 D = none := (g6.ag _ _ hd5).trans hf5
                    have gA := (g13.trans g5).trans g6
                    have ff := ((g3.trans g5).trans g6).ff g2.sm
                    refine ⟨acc, hd6, by rw [ra.length, sizeLine_eq]; omega, F6, _, ys ++ [yv], rest, ⟨fun b o q => ?_, fun b o q => ?_, gA.ag⟩, upd_same, hf6, (RpA.mono ff _ _ ra).append (.cons r6 .nil), rfl, by rw [← et]; simp, by rw [List.length_append, List.length_singleton]; omega⟩
                    · rw [upd_ne (ne_of_none q hf6)]; exact gA.sm b o q
                    · rw [upd_ne (ne_of_none q hD)]; exact gA.hh b o q
                  | er x => rw [e7] at ec; cases ec
                  | bad => rw [e7] at ec; cases ec
                | _ => cases ec
        · have e : i = ds.length := by omega
          subst e
          rw [List.drop_length] at ec
          cases ec
          refine .inl ⟨j.stop F' H2 pz g2.sm, p (.ref D) F' H2 (g1.trans g2) ⟨D, acc, rfl, hDH, hf2, hd2, ?_⟩⟩
          rw [← et, List.append_nil]
          exact ra
      | er xx =>
        rw [e2] at p
        have hDH : H D = none := Same.free g1.hh hD
        refine ⟨fun i m H => m = ds.length - i ∧ i ≤ ds.length ∧ ∃ F' acc ys, Grow F1 H1 F' H ∧ H D = some (.lst acc) ∧ F' D = none ∧ RpA K F' acc ys ∧ compLX t c f (wipeE δ vs) (ds.drop i) = .er xx ∧ ys.length ≤ i,
          ⟨_, rfl, Nat.zero_le _, F1, [], [], Grow.newO g1.sm hD, upd_same, Same.none g1.sm hD, .nil, e2, Nat.le_refl _⟩, ?_⟩
        rintro i m H2 ⟨rfl, hi, F', acc, ys, g2, hd2, hf2, ra, ec, hl⟩
        have pz : zH F1 H1 F' H2 := ⟨g2.ff g1.sm, g2.hh⟩
        by_cases hlt : i < ds.length
        · have hd : ds[i]? = some ds[i] := List.getElem?_eq_getElem hlt
          rw [compLX_drop hd] at ec
          refine .inr ⟨j.go i F' H2 pz g2.sm hlt, fun H => ∃ F' acc ys, Grow F1 H1 F' H ∧ H D = some (.lst acc) ∧ F' D = none ∧ RpA K F' acc ys ∧ compLX t c f (wipeE δ vs) (ds.drop (i + 1)) = .er xx ∧ ys.length ≤ i + 1,
            fun H' h => ⟨ds.length - (i + 1), by omega, rfl, hlt, h⟩, fun x H3 y => ?_⟩
          obtain ⟨F3, g3, rx⟩ := j.yld i _ F' H2 x H3 pz g2.sm hd y
          have g13 := g2.trans g3
          have st3 : Stt K [] F0 H0 F3 H3 (L2.wipe σ vs) (wipeE δ vs) := ((st.grow g1).grow g13).wipe vs
          have hd3 : H3 D = some (.lst acc) := g3.hh _ _ hd2
          have hf3 : F3 D = none := (g3.ag _ _ hd2).trans hf2
          cases et1 : t (.im ds[i]) (wipeE δ vs) with
          | none => rw [et1] at ec; cases ec
          | some δ1 =>
            rw [et1] at ec
            refine ho F0 H0 F3 H3 _ _ δ1 x _ _ st3 rx et1 fun σ4 st4 w4 => ⟨w4.trans ?_, ?_⟩
            · exact wipe_wipe σ vs
            · refine tT_use st4 (fun k F5 H5 e5 g5 => ?_) (fun k F5 H5 e5 g5 => by simp only [e5] at ec; cases ec) (fun e5 => by simp only [e5] at ec; cases ec)
              simp only [e5] at ec
              have hd5 : H5 D = some (.lst acc) := g5.hh _ _ hd3
              have hf5 : F5 D = none := (g5.ag _ _ hd3).trans hf3
              cases k with
              | false =>
                simp only [Bool.false_eq_true, if_false]
                exact ⟨F5, acc, ys, g13.trans g5, hd5, hf5, RpA.mono ((g3.trans g5).ff g2.sm) _ _ ra, ec, Nat.le_succ_of_le hl⟩
              | true =>
                simp only [if_true]
                refine tD_use (st4.grow g5) (fun s v F6 H6 e6 g6 r6 => ?_) (fun k F7 H7 e6 g7 => by
                  simp only [e6] at ec
                  cases ec
                  exact p F7 H7 ((g1.trans g13).trans (g5.trans g7))) (fun e6 => by simp only [e6] at ec; cases ec)
                simp only [e6] at ec
                cases s with
                | im yv =>
                  simp only at ec
                  cases e7 : compLX t c f (wipeE δ vs) (ds.drop (i + 1)) with
                  | er x7 =>
                    rw [e7] at ec
                    simp only [Rs.bind] at ec
                    cases ec
                    have hd6 : H6 D = some (.lst acc) := g6.hh _ _ hd5
                    have hf6 : F6 D = none := (g6.ag _ _ hd5).trans hf5
                    have gA := (g13.trans g5).trans g6
                    have ff := ((g3.trans g5).trans g6).ff g2.sm
                    refine ⟨acc, hd6, by rw [ra.length, sizeLine_eq]; omega, F6, _, ys ++ [yv], ⟨fun b o q => ?_, fun b o q => ?_, gA.ag⟩, upd_same, hf6, (RpA.mono ff _ _ ra).append (.cons r6 .nil), rfl, by rw [List.length_append, List.length_singleton]; omega⟩
                    · rw [upd_ne (ne_of_none q hf6)]; exact gA.sm b o q
                    · rw [upd_ne (ne_of_none q hD)]; exact gA.hh b o q
                  | ok x => rw [e7] at ec; cases ec
                  | bad => rw [e7] at ec; cases ec
                | _ => cases ec
        · have e : i = ds.length := by omega
          subst e
          rw [List.drop_length] at ec
          cases ec
    · exact p.elim
theorem pd_lcX {vs : List Nat} (hst : X.stack = X.env :: X.outer) (hfr : X.env.frame = some X.env.locals) (tk : L2N.Takes X W) (hc : X.calm = true) (hN : X.N.Nodup) (hi : PDI X [] W zH tg iter it) (ok : BlkOk X.N X.env.scope scope own) (ho : OwnTg X.K (own.map (·.2)) g t)
    (hg : ∀ (s : Shared) (H : Hp) (C : Addr) (cl : List (Str × Addr)) (fp : List Addr), PG (X.blk s H scope (compEnvC scope cl C X.env) fp) tg g)
    (ht : ∀ (s : Shared) (H : Hp) (C : Addr) (cl : List (Str × Addr)) (fp : List Addr), PDTs (X.blk s H scope (compEnvC scope cl C X.env) fp) [] WF ifs c)
    (he : ∀ (s : Shared) (H : Hp) (C : Addr) (cl : List (Str × Addr)) (fp : List Addr) (xe : Value → Shared → Prop) (W1 : WX), (∀ σ', PassesAt (L2N.CX X.prog X.w) (blkX X s H scope (compEnvC scope cl C X.env) fp xe) σ' (WE W1 σ')) → PD (blkX X s H scope (compEnvC scope cl C X.env) fp xe) [] W1 elt f)
    (hs : ∀ x, foldedSetIterable iter X.env x = pure x := by intro _; rfl) (hvs : own.map (·.2) = vs := by rfl) : PD X [] W (.ListComp elt [⟨tg, iter, ifs, 0⟩] scope pos) (eCompX it vs t c f) := by
  subst hvs
  exact PE.imp (pe_lcX (te := fun σ => tD X.K [] (fun cls d _ H => W cls d σ H) f) hst hfr tk hc hN hi ok hg ht (fun σ s H C cl fp xe hp => he s H C cl fp xe _ hp) hs) (comp_ofX ho)
end
section
variable {X : Cx} {xi : Xi} {W : WX} {e : Expr} {es : List Expr} {fs : En → Rs (List Sl)} {pos p : Pos} {j k n : Nat} {ps : List Str} {m : List Sl → Rs Sl} {x : Str}
/-- a call whose exceptions pass -/
theorem pd_callP (C : Cal X.prog X.w X.K X.mg X.base x ps j n m) (hr : Room k X.A) (hj : j ≤ k) (hp : ∀ σ, PassesAt (L2N.CX X.prog X.w) X σ (WE W σ)) (ha : PDA X xi W (e :: es) fs) (hl : eLen n fs) (hg : Gl X x := by rfl) (hdb : (x == ("__debug__" : Str)) = false := by decide)
    (he : starEach (e :: es) X.env = (false, eval e X.env) :: starEach es X.env := by rfl) (hpl : (backTo pos (starEach es X.env)).any (·.1) = false := by rfl) : PD X xi W (.Call (.Name x p) (e :: es) [] pos) (eCall m fs) := by
  obtain ⟨fd, F, b⟩ := C.ex
  refine PE.imp (pe_callS F (hr.mono hj) hg C.gl C.kp b hp ha hdb he hpl) ?_
  rintro σ H Q ⟨F0, H0, F, δ, st, p⟩
  refine tA_use st (fun x v F1 H1 e1 g1 r1 => ?_) (fun c F1 H1 e1 g1 => by simp only [eCall, e1, Rs.bind] at p; exact p F1 H1 g1) (fun e1 => by simp only [eCall, e1, Rs.bind] at p; exact p)
  simp only [eCall, e1, Rs.bind] at p
  by_cases hf : x.all froz = true
  · rw [if_pos hf] at p
    refine ⟨by rw [r1.length]; exact hl δ x e1, F1, x, g1.sm, r1, hf, ?_⟩
    cases em : m x with
    | ok s =>
      rw [em] at p
      exact fun v F' H' gg r => p v F' H' (g1.trans gg) (r.pre g1.hh)
    | er c =>
      rw [em] at p
      exact fun F' H' gg => p F' H' (g1.trans gg)
    | bad => rw [em] at p; exact p
  · rw [if_neg hf] at p; exact p.elim
end
/-- a def with a second name -/
theorem cal_mkN {P : Program} {w : World} {K : PySem.W.Frag} {mg : Str → Option Value} {base : Heap} {fd : FuncData} {x y : Str} {st : Stmt} {N ps : List Str} {k n : Nat} {g : En → Out} (F : FnD K y st (He.ga K x) fd) (S : FnScope N ps (defScope st)) (gl : mg x = some (.ref (He.ga K x))) (hb : Binds K fd ps []) (hn : ps.length = n)
    (body : ∀ (cdv : Value) (A : Around) (outer : List Env) (sh : Shared) (H : Hp) (E : XK), Room k (cxD P w K mg base N st y (He.ga K x) cdv A outer sh H E).A → L2N.Takes (cxD P w K mg base N st y (He.ga K x) cdv A outer sh H E) (wDef E) →
      PassesOwn (model P w) (cxD P w K mg base N st y (He.ga K x) cdv A outer sh H E).A (cxD P w K mg base N st y (He.ga K x) cdv A outer sh H E).env (cxD P w K mg base N st y (He.ga K x) cdv A outer sh H E).xe →
      PDB (cxD P w K mg base N st y (He.ga K x) cdv A outer sh H E) [] (wDef E) (defBody st) g) : Cal P w K mg base x ps (k + 1) n (fnM N.length g) := by
  subst hn
  exact ⟨⟨fd, def_ok F S body, hb⟩, gl, F.kp⟩
end DL

namespace DL
open PySem PySem.Spec PyProof.Rows L2 HotX
/-! ### xs[a], xs[b] = t -/
def setAt (i : Nat) (g : En → Rs Sl) (d : D) (δ : En) : Option En := match g δ with
  | .ok (.im (.int kk)) => (match δ[i]? with
    | some (some (.ml ds)) => (ixN ds.length kk).map fun j => δ.set i (some (.ml (ds.set j d)))
    | _ => none)
  | _ => none
def sPar2 (i : Nat) (g1 g2 : En → Rs Sl) (f : En → Rs Sl) : En → Out := fun δ => match f δ with
  | .ok s => (match tupOf s with
    | some [d1, d2] => (match (setAt i g1 d1 δ).bind fun δ1 => setAt i g2 d2 δ1 with
      | some δ2 => .nx δ2
      | none => .bad)
    | _ => .bad)
  | .er x => .er x δ
  | .bad => .bad
section
variable {X : Cx} {xi : Xi} {W : WX} {e : Expr} {f : En → Rs Sl} {pos : Pos}
theorem setAt_ok {K : PySem.W.Frag} {i : Nat} {g : En → Rs Sl} {F0 H0 F H : Hp} {σ : L2.St} {δ δ' : En} {d : D} {v : V} {Q : L2.St → Hp → Prop} (st : Stt K xi F0 H0 F H σ δ) (r : Rp K F v d) (e : setAt i g d δ = some δ')
    (q : ∀ F' H', Stt K xi F0 H0 F' H' σ δ' → Same F F' → Q σ H') : gSub (tVar i) (tD K xi W g) rSetL v σ H Q := by
  unfold setAt at e
  cases e2 : g δ with
  | er c => rw [e2] at e; cases e
  | bad => rw [e2] at e; cases e
  | ok s2 =>
    rw [e2] at e
    cases s2 with
    | im d2 =>
      cases d2 with
      | int kk =>
        simp only at e
        split at e
        · rename_i ds e3
          obtain ⟨j, hj, rfl⟩ := Option.map_eq_some_iff.mp e
          obtain ⟨vo, ev, ⟨pp, xs, rfl, n0, nF, hp, rr⟩, _⟩ := st.sl i _ e3
          refine ⟨_, ev, ?_⟩
          refine tD_use st (fun s3 v3 F2 H2 e4 g2 r3 => ?_) (fun x F2 H2 e4 g2 => by rw [e2] at e4; cases e4) (fun e4 => by rw [e2] at e4; cases e4)
          rw [e2] at e4
          cases e4
          cases r3
          refine ⟨pp, xs, kk, j, rfl, rfl, g2.hh _ _ hp, by rw [rr.length]; exact hj, ?_⟩
          have st2 := st.grow g2
          have ff := g2.ff st.sm
          exact q F2 _ (st2.mut e3 ev n0 ((g2.ag _ _ hp).trans nF) ((RpA.mono ff _ _ rr).set j (Rp.mono ff _ _ r))) ff
        · cases e
      | _ => cases e
    | _ => cases e
theorem pds_par2 {i : Nat} {x : Str} {k1 k2 : Expr} {g1 g2 : En → Rs Sl} {p1 p2 p3 p4 tp : Pos} {kt : Nat} (hc : X.calm = true) (he : PD X xi W e f) (hk1 : PD X xi W k1 g1) (hk2 : PD X xi W k2 g2) (hN : X.N[i]? = some x := by rfl) (hv : Vis X.env.scope x := by first | exact Or.inl rfl | exact Or.inr (Or.inl rfl) | exact Or.inr (Or.inr rfl))
    (ha1 : ∀ v, assign (.Subscript (.Name x p1) k1 p3) X.env v = (do
      let ov ← holding [v] (eval (.Name x p1) X.env)
      let iv ← holding [v, ov] (eval k1 X.env)
      standAt p3
      holding [v, ov, iv] (setItem ov iv v)
      release [v, ov, iv] []) := by intro _; rfl)
    (ha2 : ∀ v, assign (.Subscript (.Name x p2) k2 p4) X.env v = (do
      let ov ← holding [v] (eval (.Name x p2) X.env)
      let iv ← holding [v, ov] (eval k2 X.env)
      standAt p4
      holding [v, ov, iv] (setItem ov iv v)
      release [v, ov, iv] []) := by intro _; rfl)
    (hd : (x == ("__debug__" : Str)) = false := by decide) (hcd : (x == ("__classdict__" : Str)) = false := by decide)
    (hn : (assignEach [.Subscript (.Name x p1) k1 p3, .Subscript (.Name x p2) k2 p4] X.env).length = 2 := by rfl) (hst : (assignEach [.Subscript (.Name x p1) k1 p3, .Subscript (.Name x p2) k2 p4] X.env).findIdx? (·.1) = none := by rfl)
    (hc1 : (assignEach [.Subscript (.Name x p1) k1 p3, .Subscript (.Name x p2) k2 p4] X.env).map (·.2) = assign (.Subscript (.Name x p1) k1 p3) X.env :: (assignEach [.Subscript (.Name x p2) k2 p4] X.env).map (·.2) := by rfl)
    (hc2 : (assignEach [.Subscript (.Name x p2) k2 p4] X.env).map (·.2) = assign (.Subscript (.Name x p2) k2 p4) X.env :: (assignEach [] X.env).map (·.2) := by rfl)
    (hs : swapsWithSole [.Tuple [.Subscript (.Name x p1) k1 p3, .Subscript (.Name x p2) k2 p4] kt tp] e pos.line X.env = pure false := by rfl) (hw : swappedStores [.Tuple [.Subscript (.Name x p1) k1 p3, .Subscript (.Name x p2) k2 p4] kt tp] e X.env = pure none := by rfl)
    (h1 : (assignEach [.Tuple [.Subscript (.Name x p1) k1 p3, .Subscript (.Name x p2) k2 p4] kt tp] X.env).map (·.2) = [assign (.Tuple [.Subscript (.Name x p1) k1 p3, .Subscript (.Name x p2) k2 p4] kt tp) X.env] := by rfl) :
    PDS X xi W (.Assign [.Tuple [.Subscript (.Name x p1) k1 p3, .Subscript (.Name x p2) k2 p4] kt tp] e pos) (sPar2 i g1 g2 f) := by
  refine PS.imp (ps_asg he (pg_tup hc (pgs_cons (pg_sub (pe_var hN hv hd hcd) hk1 set_list ha1) (pgs_cons (pg_sub (pe_var hN hv hd hcd) hk2 set_list ha2) pgs_nil hc2) hc1) hn hst) hs hw h1) ?_
  rintro E σ H ⟨F0, H0, F, δ, st, p⟩
  unfold sPar2 at p
  refine tD_use st (fun s v F1 H1 e1 g r => ?_) (fun x F1 H1 e1 g1 => by rw [e1] at p; exact p σ F1 H1 (st.grow g1) (g1.ff st.sm)) (fun e1 => by rw [e1] at p; exact p)
  rw [e1] at p
  simp only at p
  split at p
  · rename_i d1 d2 hd
    obtain ⟨pp, xs, rfl, ht, ra⟩ := RdR.tup g.sm r.rd hd
    cases ra with
    | cons r1 rt =>
      cases rt with
      | cons r2 rn =>
        cases rn
        cases e2 : setAt i g1 d1 δ with
        | none => rw [e2] at p; exact p.elim
        | some δ1 =>
          rw [e2] at p
          simp only [Option.bind_some] at p
          cases e3 : setAt i g2 d2 δ1 with
          | none => rw [e3] at p; exact p.elim
          | some δ2 =>
            rw [e3] at p
            refine ⟨pp, _, rfl, ht, rfl, _, _, rfl, setAt_ok (st.grow g) r1 e2 fun F' H' st' s' => ⟨_, _, rfl, setAt_ok st' (Rp.mono s' _ _ r2) e3 fun F'' H'' st'' s'' => ⟨rfl, p σ F'' H'' st'' (((g.ff st.sm).trans s').trans s'')⟩⟩⟩
  · exact p.elim
end
end DL

namespace DL
open PySem PySem.Spec PyProof.Rows L2
/-! ### sorted of a list of lists of numbers -/
abbrev rowD (r : List Int) : D := .list (r.map PyData.int)
def rowOf : D → Option (List Int)
  | .list ds => intsOf ds
  | _ => none
def rowsOf : List D → Option (List (List Int))
  | [] => some []
  | d :: r => (rowOf d).bind fun t => (rowsOf r).map (t :: ·)
def sortR (rs : List (List Int)) : List (List Int) := rs.mergeSort fun p q => decide (p ≤ q)
def mSortedR : List Sl → Option Sl
  | [a] => (lstOf a).bind fun ds => (rowsOf ds).map fun rs => .ml ((sortR rs).map rowD)
  | _ => none
theorem rowOf_eq {d : D} {r : List Int} (h : rowOf d = some r) : d = rowD r := by
  cases d with
  | list ds => rw [intsOf_eq h]
  | _ => cases h
theorem rowsOf_eq : ∀ {ds : List D} {rs : List (List Int)}, rowsOf ds = some rs → ds = rs.map rowD
  | [], rs, h => by cases h; rfl
  | d :: r, rs, h => by
    obtain ⟨t, h1, h2⟩ := Option.bind_eq_some_iff.mp h
    obtain ⟨ts', h3, rfl⟩ := Option.map_eq_some_iff.mp h2
    rw [rowOf_eq h1, rowsOf_eq h3]
    rfl
section
variable {X : Cx}
theorem each_rows {K : PySem.W.Frag} {F : Hp} : ∀ {ys : List V} {its : List Value} {rs : List (List Int)}, Vals ys its → RpA K F ys (rs.map rowD) → PySem.W.EachIs (fun v r => ∃ x, RelV x v ∧ Rp K F x (rowD r)) its rs
  | _, _, [], .nil, _ => .nil
  | _, _, _ :: _, .nil, r => by cases r
  | _, _, [], .cons _ _, r => by cases r
  | _, _, t :: rs, .cons a b, r => by
    cases r with
    | cons h1 h2 => exact .cons ⟨_, a, h1⟩ (each_rows b h2)
theorem rows_each {K : PySem.W.Frag} {F : Hp} : ∀ {its : List Value} {rs : List (List Int)}, PySem.W.EachIs (fun v r => ∃ x, RelV x v ∧ Rp K F x (rowD r)) its rs → ∃ ys, Vals ys its ∧ RpA K F ys (rs.map rowD)
  | _, _, .nil => ⟨[], .nil, .nil⟩
  | _, _, .cons ⟨x, a, b⟩ r => by
    obtain ⟨ys, h1, h2⟩ := rows_each r
    exact ⟨x :: ys, .cons a h1, .cons b h2⟩
theorem c_sortedR (hu : X.A.units + 64 < cLine) : CallR X (.builtin "sorted") (rC X.K mSortedR) := by
  intro pins s σ H vs us Q I r h
  obtain ⟨F, as, sl, sm, rr, e, q⟩ := h
  match as, rr, e with
  | [a], rr, e =>
    obtain ⟨ds, hl, e⟩ := Option.bind_eq_some_iff.mp e
    obtain ⟨rs, hr, rfl⟩ := Option.map_eq_some_iff.mp e
    have hds := rowsOf_eq hr
    subst hds
    obtain ⟨v, rfl, ra⟩ := rr.one
    obtain ⟨p, ys, rfl, hT, rx⟩ := RdR.lst sm ra hl
    obtain ⟨its, rv, hp, hz⟩ := I.list hT
    obtain ⟨bs, rds⟩ := Dp.readsAll I _ _ _ (RpA.dp sm _ _ rx) rv
    rw [Vals.ref1 r]
    have hlen : ys.length = rs.length := by rw [rx.length, List.length_map]
    have ez : ∀ r : List Int, (rowD r).depth = 1 := fun r => by
      show PyData.depth (.list (r.map .int)) = 1
      rw [PyData.depth, PySem.W.depth_ints r]
    have hle : PySem.W.dataLe false rowD = fun p q => decide (p ≤ q) := PySem.W.dataLe_rows (fun r : List Int => r)
    refine PySem.W.sorted_data (R := fun v r => ∃ x, RelV x v ∧ Rp X.K F x (rowD r)) (enc := rowD) (bs := rs) hp.isList (each_rows rv rx) (PySem.W.readsAll_each rowD rds) (PySem.W.AllAlike.of fun b b' => by
      show PySem.W.alike (.list (b.map .int)) (.list (b'.map .int)) = true
      rw [PySem.W.alike, PySem.W.alike_ints]) (PySem.W.Sortable.others fun b => ⟨by simp [rowD], by simp [rowD]⟩) (by omega) (fun b hb => by rw [ez]; omega) fun out ol oe => ?_
    rw [hle] at oe
    obtain ⟨zs, z1, z2⟩ := rows_each oe
    obtain ⟨ep, he'⟩ := PyProof.Rows.sortedAll_at s.heap its out.toArray
    have hzl : zs.length ≤ sizeLine := by rw [z1.length]; omega
    have hn := I.hok.fresh (Nat.le_succ s.heap.objs.size)
    exact ⟨.ref _, upd H (s.heap.objs.size + 1) (.lst zs), I.laid (t' := s.toks) (fun _ _ => PyProof.Rows.sortedAll_old) (Nat.le_succ _) ⟨hzl, out, ep, z1, he'⟩, rfl, q _ F _ (Grow.newO sm hn) ⟨_, _, rfl, hn, Same.none sm hn, upd_same, z2⟩⟩
end
end DL

namespace DL
open PySem PySem.Spec PyProof.Rows L2
/-! ### a dict of one's own -/
def keyD : D → Option Key
  | .int i => some (.inl i)
  | .str x => some (.inr x)
  | _ => none
theorem keyD_rp {K : PySem.W.Frag} {F : Hp} {v : V} {d : D} {k : Key} (h : keyD d = some k) (r : Rp K F v d) : v = kV k := by
  cases d with
  | int i => cases h; cases r; rfl
  | str x => cases h; cases r; rfl
  | _ => cases h
def hasD (kvs : List (Key × D)) (k : Key) : Bool := kvs.any fun kv => decide (kv.1 = k)
def putD (kvs : List (Key × D)) (k : Key) (d : D) : List (Key × D) := if hasD kvs k = true then kvs.map (fun kv => if kv.1 = k then (kv.1, d) else kv) else kvs ++ [(k, d)]
section
variable {K : PySem.W.Frag} {F : Hp}
theorem RpK.any {xs : List (Key × V)} {kvs : List (Key × D)} (h : RpK K F xs kvs) (k : Key) : (xs.any fun kv => decide (kv.1 = k)) = hasD kvs k := by
  have e1 : (xs.any fun kv => decide (kv.1 = k)) = (xs.map (·.1)).any fun a => decide (a = k) := by rw [List.any_map]; rfl
  have e2 : hasD kvs k = (kvs.map (·.1)).any fun a => decide (a = k) := by unfold hasD; rw [List.any_map]; rfl
  rw [e1, e2, h.1]
theorem RpK.length {xs : List (Key × V)} {kvs : List (Key × D)} (h : RpK K F xs kvs) : xs.length = kvs.length := by
  have := congrArg List.length h.1
  rwa [List.length_map, List.length_map] at this
theorem RpK.repl {v : V} {d : D} (k : Key) (rv : Rp K F v d) : ∀ {xs : List (Key × V)} {kvs : List (Key × D)}, RpK K F xs kvs → RpK K F (xs.map fun kv => if kv.1 = k then (kv.1, v) else kv) (kvs.map fun kv => if kv.1 = k then (kv.1, d) else kv)
  | [], [], h => h
  | [], _ :: _, h => by have := h.1; simp at this
  | _ :: _, [], h => by have := h.1; simp at this
  | (a, x) :: xs, (b, y) :: kvs, ⟨h1, h2⟩ => by
    rw [List.map_cons, List.map_cons] at h1 h2
    have h1' := List.cons.inj h1
    cases h2 with
    | cons h3 h4 =>
      obtain ⟨i1, i2⟩ := RpK.repl k rv ⟨h1'.2, h4⟩
      have hab : a = b := h1'.1
      subst hab
      rw [List.map_cons, List.map_cons]
      by_cases e : a = k
      · rw [if_pos e, if_pos e]
        exact ⟨by rw [List.map_cons, List.map_cons, i1], .cons rv i2⟩
      · rw [if_neg e, if_neg e]
        exact ⟨by rw [List.map_cons, List.map_cons, i1], .cons h3 i2⟩
theorem RpK.put {xs : List (Key × V)} {kvs : List (Key × D)} {v : V} {d : D} (h : RpK K F xs kvs) (k : Key) (rv : Rp K F v d) : RpK K F (putK xs k v) (putD kvs k d) := by
  unfold putK putD
  rw [h.any k]
  by_cases e : hasD kvs k = true
  · rw [if_pos e, if_pos e]; exact h.repl k rv
  · rw [if_neg e, if_neg e]
    exact ⟨by rw [List.map_append, List.map_append, h.1]; rfl, by rw [List.map_append, List.map_append]; exact h.2.append (.cons rv .nil)⟩
theorem RpK.mono {F' : Hp} (s : Same F F') {xs : List (Key × V)} {kvs : List (Key × D)} (h : RpK K F xs kvs) : RpK K F' xs kvs := ⟨h.1, RpA.mono s _ _ h.2⟩
end
/-- a dict is changed -/
theorem Stt.mutD {K : PySem.W.Frag} {xi : Xi} {F0 H0 F H : Hp} {σ : L2.St} {δ : En} {i : Nat} {ds es : List (Key × D)} {p : Addr} {ys : List (Key × V)} (st : Stt K xi F0 H0 F H σ δ) (e : δ[i]? = some (some (.dc ds))) (ev : σ[i]? = some (some (.ref p))) (n0 : H0 p = none) (nF : F p = none) (r : RpK K F ys es) :
    Stt K xi F0 H0 F (upd H p (.dK ys)) σ (δ.set i (some (.dc es))) :=
  st.chng e ev (fun b o q => by rw [upd_ne (ne_of_none q nF)]; exact st.sm b o q) (fun b o q => by rw [upd_ne (ne_of_none q n0)]; exact st.hh b o q) st.ag (Same.refl F) (fun a o na ha => ⟨by rw [upd_ne fun z => na (by rw [z]; rfl)]; exact ha, rfl⟩)
    (t := .dc es) ⟨p, ys, rfl, n0, nF, upd_same, r⟩ rfl (fun _ h => nomatch h) (fun a ha => .inl ha)
def eDNew : En → Rs Sl := fun _ => .ok (.dc [])
def dcIn (o : Option (Option Sl)) (d : D) : Rs Sl := match o, keyD d with
  | some (some (.dc kvs)), some k => .ok (.im (.bool (hasD kvs k)))
  | _, _ => .bad
def imK (s : Sl) (g : D → Rs Sl) : Rs Sl := match s with
  | .im d => g d
  | _ => .bad
/-- e in d -/
def eDIn (f : En → Rs Sl) (i : Nat) : En → Rs Sl := fun δ => (f δ).bind fun s => imK s (dcIn δ[i]?)
def dcPut (kvs : List (Key × D)) (i : Nat) (kd d : D) (δ : En) : Out := match keyD kd with
  | some k => if kvs.length < 16777216 then .nx (δ.set i (some (.dc (putD kvs k d)))) else .bad
  | none => .bad
def imO (r : Rs Sl) (δ : En) (g : D → Out) : Out := match r with
  | .ok (.im d) => g d
  | .ok _ => .bad
  | .er x => .er x δ
  | .bad => .bad
def dcO (o : Option (Option Sl)) (g : List (Key × D) → Out) : Out := match o with
  | some (some (.dc kvs)) => g kvs
  | _ => .bad
/-- d[k] = e: e first, then k -/
def sDPutM (i : Nat) (g f : En → Rs Sl) : En → Out := fun δ => dcO δ[i]? fun kvs => imO (f δ) δ fun d => imO (g δ) δ fun kd => dcPut kvs i kd d δ
section
variable {X : Cx} {xi : Xi} {W : WX} {e k : Expr} {f g : En → Rs Sl} {p1 p3 pos : Pos} {i : Nat} {x : Str}
theorem pd_dnew : PD X xi W (.Dict [] [] pos) eDNew := by
  refine PE.imp pe_dnewK ?_
  rintro σ H Q ⟨F0, H0, F, δ, st, p⟩
  intro a hn
  exact p (.ref a) F (upd H a (.dK [])) (Grow.newO st.sm hn) ⟨a, [], rfl, hn, Same.none st.sm hn, upd_same, rfl, .nil⟩
theorem pd_din (hu : X.A.units + 1 < cLine) (he : PD X xi W e f) (hN : X.N[i]? = some x := by rfl) (hv : Vis X.env.scope x := by first | exact Or.inl rfl | exact Or.inr (Or.inl rfl) | exact Or.inr (Or.inr rfl))
    (hd : (x == ("__debug__" : Str)) = false := by decide) (hcd : (x == ("__classdict__" : Str)) = false := by decide) (hb : behindInMarks .In (.Name x p1) = false := by rfl) : PD X xi W (.Compare e [.In] [.Name x p1] pos) (eDIn f i) := by
  refine PE.imp (pe_cmp (pc_din hu he (pe_var hN hv hd hcd)) hb) ?_
  rintro σ H Q ⟨F0, H0, F, δ, st, p⟩
  refine tD_use st (fun s v F1 H1 e1 g1 r1 => ?_) (fun c F1 H1 e1 g1 => by simp only [eDIn, e1, Rs.bind] at p; exact p F1 H1 g1) (fun e1 => by simp only [eDIn, e1, Rs.bind] at p; exact p)
  simp only [eDIn, e1, Rs.bind] at p
  match s, r1, p with
  | .im d, r1, p =>
    simp only [imK, dcIn] at p
    split at p
    · rename_i kvs kk e2 e3
      obtain ⟨vo, ev, ⟨pp, xs, rfl, n0, nF, hp, r⟩, _⟩ := (st.grow g1).sl i _ e2
      have ey := keyD_rp e3 r1
      subst ey
      refine ⟨_, ev, pp, _, rfl, DGet.k hp, ?_⟩
      rw [← valV_any, r.any kk]
      exact p _ F1 H1 g1 (.bl _)
    · exact p.elim
  | .ml _, _, p => exact p.elim
  | .br _, _, p => exact p.elim
  | .ro _, _, p => exact p.elim
  | .xc _, _, p => exact p.elim
  | .dc _, _, p => exact p.elim
  | .ob _ _ _, _, p => exact p.elim
theorem pds_dput {xi : Xi} (hu : X.A.units + 1 < cLine) (he : PD X xi W e f) (hk : PD X xi W k g) (hN : X.N[i]? = some x := by rfl) (hv : Vis X.env.scope x := by first | exact Or.inl rfl | exact Or.inr (Or.inl rfl) | exact Or.inr (Or.inr rfl))
    (hd : (x == ("__debug__" : Str)) = false := by decide) (hcd : (x == ("__classdict__" : Str)) = false := by decide)
    (hs : swapsWith e (some (.Subscript (.Name x p1) k p3)) pos.line X.env = pure false := by rfl) : PDS X xi W (.Assign [.Subscript (.Name x p1) k p3] e pos) (sDPutM i g f) := by
  refine PS.imp (ps_dput hu (pe_var hN hv hd hcd) hk he hs) ?_
  rintro E σ H ⟨F0, H0, F, δ, st, p⟩
  unfold sDPutM dcO at p
  split at p
  · rename_i kvs e2
    refine tD_use st (fun s v F1 H1 e1 g1 r1 => ?_) (fun c F1 H1 e1 g1 => by rw [e1] at p; exact p σ F1 H1 (st.grow g1) (g1.ff st.sm)) (fun e1 => by rw [e1] at p; exact p)
    rw [e1] at p
    match s, r1, p with
    | .im d, r1, p =>
      have st1 := st.grow g1
      obtain ⟨vo, ev, ⟨pp, xs, rfl, n0, nF, hp, r⟩, _⟩ := st1.sl i _ e2
      refine ⟨_, ev, ?_⟩
      have p : PostS X.K xi W F0 H0 F H E (imO (g δ) δ fun kd => dcPut kvs i kd d δ) := p
      refine tD_use st1 (fun s3 v3 F2 H2 e4 g2 r3 => ?_) (fun c F2 H2 e4 g2 => by rw [e4] at p; exact p σ F2 H2 (st1.grow g2) ((g1.ff st.sm).trans (g2.ff st1.sm))) (fun e4 => by rw [e4] at p; exact p)
      rw [e4] at p
      match s3, r3, p with
      | .im kd, r3, p =>
        have p : PostS X.K xi W F0 H0 F H E (dcPut kvs i kd d δ) := p
        unfold dcPut at p
        split at p
        · rename_i kk e5
          have ey := keyD_rp e5 r3
          subst ey
          split at p
          · rename_i hl
            have st2 := st1.grow g2
            have ff := g2.ff st1.sm
            refine ⟨pp, _, rfl, DPut.k (g2.hh _ _ hp) (by rw [r.length, sizeLine_eq]; exact hl), ?_⟩
            exact p σ F2 _ (st2.mutD e2 ev n0 ((g2.ag _ _ hp).trans nF) ((r.mono ff).put kk (Rp.mono ff _ _ r1))) ((g1.ff st.sm).trans ff)
          · exact p.elim
        · exact p.elim
      | .ml _, _, p => exact p.elim
      | .br _, _, p => exact p.elim
      | .ro _, _, p => exact p.elim
      | .xc _, _, p => exact p.elim
      | .dc _, _, p => exact p.elim
      | .ob _ _ _, _, p => exact p.elim
    | .ml _, _, p => exact p.elim
    | .br _, _, p => exact p.elim
    | .ro _, _, p => exact p.elim
    | .xc _, _, p => exact p.elim
    | .dc _, _, p => exact p.elim
    | .ob _ _ _, _, p => exact p.elim
  · exact p.elim
end
end DL

namespace DL
open PySem PySem.Spec PyProof.Rows L2 HotX
/-! ### while an exception is handled: texts, zip, enumerate, all, raise -/
section
variable {prog : Program} {w : World} {A : Around} {E : Value → Shared → Prop} {s : Shared}
/-- an iterator that is at its end raises a new exception, which is chained to the one that is handled -/
theorem stop_hot {α : Type} {x1 : Addr} {Q : α → Shared → Prop} (hot : HotAt A x1 s.heap)
    (hE : ∀ h' e, (∀ b o, s.heap.get? b = some o → h'.get? b = some o) → (∃ o, h'.get? e = some o ∧ o.cls = .type "StopIteration") → E (.ref e) { s with heap := h' }) :
    wpAny (model prog w) A (newExc (.type "StopIteration") [] >>= fun e => (raiseNew e : Sem α)) Q E s := by
  obtain ⟨hh, o1, vs1, g1, d1, c1⟩ := hot
  refine wpAny_bind ?_
  simp only [newExc, newTuple]
  refine wpAny_bind (wpAny_newObj_type ?_ (by size_fits))
  refine wpAny_bind (m := firstArgMember _ _) (wpAny_of_eq (a := Value.none) (by first | rfl | (simp only [firstArgMember]; rfl)) ?_)
  refine wpAny_newObj_type ?_ (by size_fits)
  refine raiseNew_hot ⟨hh, o1, vs1, Heap.get?_push_of_some _ (Heap.get?_push_of_some _ g1), d1, c1⟩ (Nat.ne_of_lt (Heap.lt_size (Heap.get?_push_of_some _ g1))) (Heap.get?_push_size _ rfl) rfl (by first | (simp; done) | (simp; omega) | (simp only [Array.size_append]; simp; omega)) ?_
  refine hE _ _ (fun b o e => ?_) ⟨_, Heap.get?_update_self _ (Heap.get?_push_size _ rfl) rfl, rfl⟩
  rw [Heap.get?_update_other _ _ (Nat.ne_of_gt (Heap.lt_size (Heap.get?_push_of_some _ e)))]
  exact Heap.get?_push_of_some _ (Heap.get?_push_of_some _ e)
theorem HotAt.upd {x1 it : Addr} {h : Heap} {f : Obj → Obj} (hot : HotAt A x1 h) (nx : x1 ≠ it) : HotAt A x1 (h.update it f) := by
  obtain ⟨hh, o1, vs1, g1, d1, c1⟩ := hot
  exact ⟨hh, o1, vs1, (Heap.get?_update_other _ _ (Ne.symm nx)).trans g1, d1, c1⟩
theorem ext_upd {it : Addr} {h h' : Heap} {f : Obj → Obj} (k : ∀ b o, (h.update it f).get? b = some o → h'.get? b = some o) : Heap.ExtBut it h h' := fun b o hb e => k b o ((Heap.get?_update_other _ _ (Ne.symm hb)).trans e)
theorem ascii_end_hot {it x1 : Addr} {x : Str} {t : Tok} {i : Nat} {Q : Option Value → Shared → Prop} (hot : HotAt A x1 s.heap) (nx : x1 ≠ it) (hit : s.heap.IsStrIter it "str_ascii_iterator" x t i) (hx : x.cps[i]? = none)
    (hQ : ∀ h', Heap.ExtBut it s.heap h' → Q none { s with heap := h' }) : wpAny (model prog w) A (pyNext (.ref it)) Q E s := by
  obtain ⟨o, ho, hc, hd⟩ := id hit
  unfold pyNext
  refine wpAny_bind (wpAny_attempt (wpAny_callSpecial?_slot (name := Str.ofString "__next__") hit.typeIs F.slot_str_ascii_iterator_next
    (wpAny_call_entry F.slot_str_ascii_iterator_next hit.typeIs F.entry_str_ascii_iterator_next ?_ (F.args_str_ascii_iterator_next_1 _))))
  show wpAny _ _ (field (.ref it) 0 >>= _) _ _ s
  refine wpAny_bind (wpAny_field ho hd (x := .str x t) rfl ?_)
  show wpAny _ _ (field (.ref it) 1 >>= _) _ _ s
  refine wpAny_bind (wpAny_field ho hd (x := .int i 0) rfl ?_)
  simp only [Int.toNat_natCast, hx]
  refine wpAny_bind (wpAny_rule (wpAny_bind (wpAny_setField ho hd (by simp) (wpAny_bind (wpAny_letGo ?_)))))
  refine stop_hot (x1 := x1) (HotAt.upd (A := A.in1) hot nx) fun h' e k ⟨oe, e1, e2⟩ => ?_
  refine wpAny_bind (wpAny_isInstance (T := "StopIteration") (b := true) ⟨oe, e1, e2⟩ isSubtype_stop ?_)
  exact wpAny_pure (hQ _ (ext_upd k))
theorem wide_end_hot {it x1 : Addr} {x : Str} {t : Tok} {i : Nat} {Q : Option Value → Shared → Prop} (hot : HotAt A x1 s.heap) (nx : x1 ≠ it) (hit : s.heap.IsStrIter it "str_iterator" x t i) (hx : x.cps[i]? = none)
    (hQ : ∀ h', Heap.ExtBut it s.heap h' → Q none { s with heap := h' }) : wpAny (model prog w) A (pyNext (.ref it)) Q E s := by
  obtain ⟨o, ho, hc, hd⟩ := id hit
  unfold pyNext
  refine wpAny_bind (wpAny_attempt (wpAny_callSpecial?_slot (name := Str.ofString "__next__") hit.typeIs F.slot_str_iterator_next
    (wpAny_call_entry F.slot_str_iterator_next hit.typeIs F.entry_str_iterator_next ?_ (F.args_str_iterator_next_1 _))))
  show wpAny _ _ (field (.ref it) 0 >>= _) _ _ s
  refine wpAny_bind (wpAny_field ho hd (x := .str x t) rfl ?_)
  show wpAny _ _ (field (.ref it) 1 >>= _) _ _ s
  refine wpAny_bind (wpAny_field ho hd (x := .int i 0) rfl ?_)
  simp only [Int.toNat_natCast, hx]
  refine wpAny_bind (wpAny_rule (wpAny_bind (wpAny_setField ho hd (by simp) (wpAny_bind (wpAny_letGo ?_)))))
  refine stop_hot (x1 := x1) (HotAt.upd (A := A.in1) hot nx) fun h' e k ⟨oe, e1, e2⟩ => ?_
  refine wpAny_bind (wpAny_isInstance (T := "StopIteration") (b := true) ⟨oe, e1, e2⟩ isSubtype_stop ?_)
  exact wpAny_pure (hQ _ (ext_upd k))
theorem drawn_tup_end {it x1 l : Addr} {i : Nat} {items : Array Value} {Q : Value → Shared → Prop} (hot : HotAt A x1 s.heap) (nx : x1 ≠ it) (hit : s.heap.IsTupleIter it l i) (hl : s.heap.IsTuple l items) (hx : items[i]? = none)
    (hE : ∀ h' e, Heap.ExtBut it s.heap h' → (∃ o, h'.get? e = some o ∧ o.cls = .type "StopIteration") → E (.ref e) { s with heap := h' }) : wpAny (model prog w) A (Builtin.SmallTypes.nextOf (.ref it)) Q E s := by
  obtain ⟨o, ho, hc, hd⟩ := id hit
  obtain ⟨ol, hol, _, nl, hdl⟩ := hl
  unfold Builtin.SmallTypes.nextOf
  refine wpAny_bind (wpAny_callSpecial?_slot (name := Str.ofString "__next__") hit.typeIs F.slot_tuple_iterator_next
    (wpAny_call_entry F.slot_tuple_iterator_next hit.typeIs F.entry_tuple_iterator_next ?_ (F.args_tuple_iterator_next_1 _)))
  show wpAny _ _ (field (.ref it) 0 >>= _) _ _ s
  refine wpAny_bind (wpAny_field ho hd (x := .ref l) rfl ?_)
  show wpAny _ _ (if (Value.ref l == Value.none) = true then _ else _) _ _ s
  rw [if_neg (show ¬ ((Value.ref l == Value.none) = true) from Bool.false_ne_true)]
  show wpAny _ _ (field (.ref it) 1 >>= _) _ _ s
  refine wpAny_bind (wpAny_field ho hd (x := .int i 0) rfl ?_)
  show wpAny _ _ (seqItems? (.ref l) >>= _) _ _ s
  refine wpAny_bind (wpAny_seqItems hol hdl ?_)
  simp only [Int.toNat_natCast, hx]
  refine wpAny_bind (wpAny_rule (wpAny_bind (wpAny_setField ho hd (by simp) ?_)))
  exact stop_hot (x1 := x1) (HotAt.upd (A := A.in1) hot nx) fun h' e k c => hE h' e (ext_upd k) c
theorem drawn_list_end {it x1 l : Addr} {i : Nat} {items : Array Value} {Q : Value → Shared → Prop} (hot : HotAt A x1 s.heap) (nx : x1 ≠ it) (hit : s.heap.IsListIter it l i) (hl : s.heap.IsList l items) (hx : items[i]? = none)
    (hE : ∀ h' e, Heap.ExtBut it s.heap h' → (∃ o, h'.get? e = some o ∧ o.cls = .type "StopIteration") → E (.ref e) { s with heap := h' }) : wpAny (model prog w) A (Builtin.SmallTypes.nextOf (.ref it)) Q E s := by
  obtain ⟨o, ho, hc, hd⟩ := id hit
  obtain ⟨ol, hol, _, nl, hdl⟩ := hl
  unfold Builtin.SmallTypes.nextOf
  refine wpAny_bind (wpAny_callSpecial?_slot (name := Str.ofString "__next__") hit.typeIs slot_listiter_next
    (wpAny_call_entry slot_listiter_next hit.typeIs entry_listiter_next ?_ (args_listiter_next _)))
  show wpAny _ _ (field (.ref it) 0 >>= _) _ _ s
  refine wpAny_bind (wpAny_field ho hd (x := .ref l) rfl ?_)
  show wpAny _ _ (if (Value.ref l == Value.none) = true then _ else _) _ _ s
  rw [if_neg (show ¬ ((Value.ref l == Value.none) = true) from Bool.false_ne_true)]
  show wpAny _ _ (field (.ref it) 1 >>= _) _ _ s
  refine wpAny_bind (wpAny_field ho hd (x := .int i 0) rfl ?_)
  show wpAny _ _ (seqItems? (.ref l) >>= _) _ _ s
  refine wpAny_bind (wpAny_seqItems hol hdl ?_)
  simp only [Int.toNat_natCast, hx]
  refine wpAny_bind (wpAny_rule (wpAny_bind (wpAny_setField ho hd (by simp) ?_)))
  exact stop_hot (x1 := x1) (HotAt.upd (A := A.in1) hot nx) fun h' e k c => hE h' e (ext_upd k) c
/-- what a tuple's, a list's iterator draws while x1 is handled -/
theorem drawsH_tup {x1 : Addr} {o1 : Obj} {vs1 : Array Value} (hh : A.handled = some (.ref x1)) (d1 : o1.data = .fields vs1) (c1 : vs1[2]? = some .none) {it l : Addr} (hne : l ≠ it) (nx : x1 ≠ it) (items : Array Value) :
    Draws prog w A it [it, l, x1] items.size (fun i v => items[i]? = some v) (fun i h => h.IsTupleIter it l i ∧ h.IsTuple l items ∧ h.get? x1 = some o1) where
  live := fun _ _ st => let ⟨o, ho, _⟩ := st.1; ⟨o, ho⟩
  frame := fun _ _ _ st hk => ⟨st.1.at fun o e => hk it (by simp) o e, st.2.1.at fun o e => hk l (by simp) o e, hk x1 (by simp) _ st.2.2⟩
  item := fun i s Q E hi st hQ => wpAny_nextOf_tuple_item st.1 st.2.1 (x := items[i]) (by simp [hi]) fun h' hit' hs' =>
    hQ _ h' s.toks (by simp [hi]) ⟨hit', st.2.1.extBut hs'.extBut hne, hs'.extBut x1 o1 nx st.2.2⟩ hs'
  done := fun s Q E st hE => drawn_tup_end ⟨hh, o1, vs1, st.2.2, d1, c1⟩ nx st.1 st.2.1 (by simp) hE
theorem drawsH_list {x1 : Addr} {o1 : Obj} {vs1 : Array Value} (hh : A.handled = some (.ref x1)) (d1 : o1.data = .fields vs1) (c1 : vs1[2]? = some .none) {it l : Addr} (hne : l ≠ it) (nx : x1 ≠ it) (items : Array Value) :
    Draws prog w A it [it, l, x1] items.size (fun i v => items[i]? = some v) (fun i h => h.IsListIter it l i ∧ h.IsList l items ∧ h.get? x1 = some o1) where
  live := fun _ _ st => let ⟨o, ho, _⟩ := st.1; ⟨o, ho⟩
  frame := fun _ _ _ st hk => ⟨st.1.at fun o e => hk it (by simp) o e, st.2.1.at fun o e => hk l (by simp) o e, hk x1 (by simp) _ st.2.2⟩
  item := fun i s Q E hi st hQ => wpAny_nextOf_list_item st.1 st.2.1 (x := items[i]) (by simp [hi]) fun h' hit' hs' =>
    hQ _ h' s.toks (by simp [hi]) ⟨hit', st.2.1.extBut hs'.extBut hne, hs'.extBut x1 o1 nx st.2.2⟩ hs'
  done := fun s Q E st hE => drawn_list_end ⟨hh, o1, vs1, st.2.2, d1, c1⟩ nx st.1 st.2.1 (by simp) hE
end
/-! ### a tuple (true) or a list -/
def SqS (K : PySem.W.Frag) : Bool → Hp → Addr → List V → Prop
  | true, H, a, xs => SqT K H a xs
  | false, H, a, xs => SqL K H a xs
def SrcH : Bool → Heap → Addr → Array Value → Prop
  | true, h, a, its => h.IsTuple a its
  | false, h, a, its => h.IsList a its
def IteH : Bool → Heap → Addr → Addr → Nat → Prop
  | true, h, i, a, k => h.IsTupleIter i a k
  | false, h, i, a, k => h.IsListIter i a k
def iterO : Bool → Addr → Obj
  | true, a => { cls := .type "tuple_iterator", data := .fields #[.ref a, .int 0 0] }
  | false, a => { cls := .type "list_iterator", data := .fields #[.ref a, .int 0 0] }
section
variable {prog : Program} {w : World} {A : Around} {K : PySem.W.Frag}
theorem drawsH {x1 : Addr} {o1 : Obj} {vs1 : Array Value} (hh : A.handled = some (.ref x1)) (d1 : o1.data = .fields vs1) (c1 : vs1[2]? = some .none) (b : Bool) {it l : Addr} (hne : l ≠ it) (nx : x1 ≠ it) (items : Array Value) :
    Draws prog w A it [it, l, x1] items.size (fun i v => items[i]? = some v) (fun i h => IteH b h it l i ∧ SrcH b h l items ∧ h.get? x1 = some o1) := by
  cases b
  · exact drawsH_list hh d1 c1 hne nx items
  · exact drawsH_tup hh d1 c1 hne nx items
theorem beginsH (b : Bool) (l : Addr) (items : Array Value) : Begins (.ref l) (iterO b l) fun h => SrcH b h l items := by
  cases b
  · exact begins_list l items
  · exact begins_tuple l items
theorem IteH.obj {b : Bool} {h : Heap} {i a : Addr} {k : Nat} (st : IteH b h i a k) : ∃ o, h.get? i = some o ∧ ∀ v, o.data ≠ .cell v := by
  cases b
  · obtain ⟨o, e, c, d⟩ := st
    exact ⟨o, e, fun v z => by rw [d] at z; cases z⟩
  · obtain ⟨o, e, c, d⟩ := st
    exact ⟨o, e, fun v z => by rw [d] at z; cases z⟩
theorem IteH.keep {b : Bool} {h h' : Heap} {i a : Addr} {k : Nat} (st : IteH b h i a k) (kk : ∀ o, h.get? i = some o → h'.get? i = some o) : IteH b h' i a k := by
  cases b
  · exact Heap.IsListIter.at st kk
  · exact Heap.IsTupleIter.at st kk
theorem IteH.new (b : Bool) {h : Heap} {i a : Addr} (e : h.get? i = some (iterO b a)) : IteH b h i a 0 := by
  cases b
  · exact ⟨_, e, rfl, rfl⟩
  · exact ⟨_, e, rfl, rfl⟩
variable {X : Cx} {pins : List (Addr × Obj)} {σ : L2.St} {H : Hp} {s : Shared}
theorem inv_sq (I : Inv X pins σ H s) {b : Bool} {a : Addr} {xs : List V} (h : SqS X.K b H a xs) : ∃ its : List Value, Vals xs its ∧ SrcH b s.heap a its.toArray := by
  cases b
  · obtain ⟨its, rv, p, _⟩ := I.list h
    exact ⟨its, rv, p.isList⟩
  · obtain ⟨its, rv, p, _⟩ := I.tuple h
    exact ⟨its, rv, p⟩
theorem inv_sq_inj (I : Inv X pins σ H s) {b : Bool} {a : Addr} {xs ys : List V} (h : SqS X.K b H a xs) (h' : SqS X.K b H a ys) : xs = ys := by
  cases b
  · exact I.list_inj h h'
  · exact I.tuple_inj h h'
theorem SrcH.lt {b : Bool} {h : Heap} {a : Addr} {its : Array Value} (st : SrcH b h a its) : a < h.objs.size := by
  cases b
  · obtain ⟨o, e, _⟩ := st; exact Heap.lt_size e
  · obtain ⟨o, e, _⟩ := st; exact Heap.lt_size e
/-- the exception that is handled, away from all of a footprint -/
theorem HotC.all (c : L2H.HotC X) (I : Inv X pins σ H s) {fp : List Addr} (hf : ∀ b ∈ fp, FpOk X pins H b) : ∃ (x1 : Addr) (o1 : Obj) (vs1 : Array Value), X.A.handled = some (.ref x1) ∧ s.heap.get? x1 = some o1 ∧ o1.data = .fields vs1 ∧ vs1[2]? = some .none ∧ ∀ b ∈ fp, x1 ≠ b := by
  obtain ⟨p, ⟨hh, v1, e1, c1⟩, hp⟩ := c
  refine ⟨p.1, p.2, v1, hh, (I.pin p (List.mem_append_left _ hp)).1, e1, c1, fun b hb => ?_⟩
  obtain ⟨f0, f1, f2, f3, f4, f5⟩ := hf b hb
  exact f5 p (List.mem_append_left _ hp)
end
theorem sep_add {z TI TO i1 i2 a b x1 : Addr} (D : ZipSep2 z TI TO i1 i2 [i1, a] [i2, b]) (h : ∀ c ∈ [z, TI, TO, i1, i2], x1 ≠ c) : ZipSep2 z TI TO i1 i2 [i1, a, x1] [i2, b, x1] := by
  have g : ∀ {c d e : Addr}, c ∉ [d, e] → x1 ≠ c → c ∉ [d, e, x1] := fun {c d e} n1 n2 hm => by
    simp only [List.mem_cons, List.not_mem_nil, or_false] at n1 hm
    rcases hm with h | h | h
    · exact n1 (.inl h)
    · exact n1 (.inr h)
    · exact n2 h.symm
  exact { TIz := D.TIz, TOz := D.TOz, TITO := D.TITO, TIi1 := D.TIi1, mem1 := by simp, zf1 := g D.zf1 (h z (by simp)), Tf1 := g D.Tf1 (h TO (by simp)), TIi2 := D.TIi2, mem2 := by simp, zf2 := g D.zf2 (h z (by simp)), Tf2 := g D.Tf2 (h TO (by simp)), sep1_2 := g D.sep1_2 (h i1 (by simp)), sep2_1 := g D.sep2_1 (h i2 (by simp)) }
/-! ### zip -/
def ItzG (K : PySem.W.Frag) (b1 b2 : Bool) (a b : Addr) : It :=
  ⟨fun i H => ∃ (xs ys : List V) (x y : V), SqS K b1 H a xs ∧ SqS K b2 H b ys ∧ xs[i]? = some x ∧ ys[i]? = some y,
    fun i H v H' => ∃ T x y, v = .ref T ∧ H T = none ∧ H' = upd H T (.tup [x, y]) ∧ (∀ xs, SqS K b1 H a xs → xs[i]? = some x) ∧ ∀ ys, SqS K b2 H b ys → ys[i]? = some y,
    fun i H => ∃ xs ys : List V, SqS K b1 H a xs ∧ SqS K b2 H b ys ∧ i = min xs.length ys.length⟩
theorem turn_zipG {P : Program} {w : World} {K : PySem.W.Frag} {elts : List Expr} {kk : Nat} {tpos : Pos} {b1 b2 : Bool} {a b z TI TO i1 i2 : Addr} (D : ZipSep2 z TI TO i1 i2 [i1, a] [i2, b]) (n1 : a ≠ i1) (n2 : b ≠ i2) :
    L2H.TurnH P w K (.Tuple elts kk tpos) (ItzG K b1 b2 a b) [z, TI, TO, i1, i2] z (fun i h => IsZip h z TI TO .none ∧ IsTupOf2 h TI (.ref i1) (.ref i2) ∧ (∃ x y, IsTupOf2 h TO x y) ∧ IteH b1 h i1 a i ∧ IteH b2 h i2 b i) where
  mem := by simp
  obj := fun i h st c hc => by
    obtain ⟨hz, hTI, ⟨x, y, hTO⟩, h1, h2⟩ := st
    simp only [List.mem_cons, List.not_mem_nil, or_false] at hc
    rcases hc with rfl | rfl | rfl | rfl | rfl
    · exact ⟨_, hz, fun v q => nomatch q⟩
    · exact ⟨_, hTI, fun v q => nomatch q⟩
    · exact ⟨_, hTO, fun v q => nomatch q⟩
    · exact h1.obj
    · exact h2.obj
  keep := fun i h h' ⟨hz, hTI, ⟨x, y, hTO⟩, h1, h2⟩ k =>
    ⟨k z (by simp) _ hz, k TI (by simp) _ hTI, ⟨x, y, k TO (by simp) _ hTO⟩, h1.keep fun o q => k i1 (by simp) o q, h2.keep fun o q => k i2 (by simp) o q⟩
  item := by
    rintro X rfl rfl rfl hc i pins s σ H E I hf ⟨hz, hTI, hTO, h1, h2⟩ ⟨xs, ys, x, y, hqx, hqy, hx, hy⟩
    obtain ⟨us, rv, p⟩ := inv_sq I hqx
    obtain ⟨vs, rv2, p2⟩ := inv_sq I hqy
    obtain ⟨u, hu, ru⟩ := rv.get hx
    obtain ⟨v, hv, rv'⟩ := rv2.get hy
    obtain ⟨x1, o1, vs1, hh, g1, d1, c1, hx1⟩ := HotC.all hc I hf
    have G := GoesN.zip2 (prog := X.prog) (w := X.w) (A := X.A) (elts := elts) (x1 := kk) (pos := tpos) (sep_add D hx1) (drawsH (A := X.A.in1) hh d1 c1 b1 n1 (hx1 i1 (by simp)) us.toArray) (drawsH (A := X.A.in1) hh d1 c1 b2 n2 (hx1 i2 (by simp)) vs.toArray)
    have l1 : i < us.toArray.size := by
      have := (List.getElem?_eq_some_iff.mp hu).1
      simpa using this
    have l2 : i < vs.toArray.size := by
      have := (List.getElem?_eq_some_iff.mp hv).1
      simpa using this
    refine G.goes i s _ E (by omega) ⟨hz, hTI, hTO, ⟨h1, p, g1⟩, h2, p2, g1⟩ fun r h' tk hY st' hk htk => ?_
    obtain ⟨T, u', v', rfl, hnew, hu', hv', hT⟩ := hY
    rw [List.getElem?_toArray, hu] at hu'
    rw [List.getElem?_toArray, hv] at hv'
    cases hu'
    cases hv'
    have new : ObjOk X.prog X.w (upd H T (.tup [x, y])) h' T (.tup [x, y]) :=
      ⟨by show 2 ≤ sizeLine; decide, [u, v], .cons ru (.cons rv' .nil), hT⟩
    have wr : ∀ c o, c ∉ [z, TI, TO, i1, i2] → s.heap.get? c = some o → h'.get? c = some o := fun c o hn e => hk c o (fun hm => hn (by
      simp only [List.mem_cons, List.not_mem_nil, or_false] at hm
      rcases hm with h | h | h | h <;> simp [h])) e
    refine ⟨.ref T, _, I.turnedNew (t' := tk) wr hf hnew new, rfl, ⟨T, x, y, rfl, I.hok.fresh hnew, rfl, fun l hl => by rw [inv_sq_inj I hl hqx]; exact hx, fun l hl => by rw [inv_sq_inj I hl hqy]; exact hy⟩, ⟨st'.1, st'.2.1, st'.2.2.1, st'.2.2.2.1.1, st'.2.2.2.2.1⟩, fun c hcm => ?_⟩
    have hlt : c < s.heap.objs.size := by
      obtain ⟨o1, e1, _⟩ := h1.obj
      obtain ⟨o2, e2, _⟩ := h2.obj
      obtain ⟨_, _, hTO⟩ := hTO
      simp only [List.mem_cons, List.not_mem_nil, or_false] at hcm
      rcases hcm with rfl | rfl | rfl | rfl | rfl
      · exact Heap.lt_size hz
      · exact Heap.lt_size hTI
      · exact Heap.lt_size hTO
      · exact Heap.lt_size e1
      · exact Heap.lt_size e2
    rw [upd_ne (Nat.ne_of_lt (Nat.lt_of_lt_of_le hlt hnew))]
    exact (hf c hcm).1
  done := by
    rintro X rfl rfl rfl hc i pins s σ H E I hf ⟨hz, hTI, hTO, h1, h2⟩ ⟨xs, ys, hqx, hqy, hend⟩
    obtain ⟨us, rv, p⟩ := inv_sq I hqx
    obtain ⟨vs, rv2, p2⟩ := inv_sq I hqy
    obtain ⟨x1, o1, vs1, hh, g1, d1, c1, hx1⟩ := HotC.all hc I hf
    have G := GoesN.zip2 (prog := X.prog) (w := X.w) (A := X.A) (elts := elts) (x1 := kk) (pos := tpos) (sep_add D hx1) (drawsH (A := X.A.in1) hh d1 c1 b1 n1 (hx1 i1 (by simp)) us.toArray) (drawsH (A := X.A.in1) hh d1 c1 b2 n2 (hx1 i2 (by simp)) vs.toArray)
    have e1 := rv.length
    have e2 := rv2.length
    have ei : i = min us.toArray.size vs.toArray.size := by
      simp only [List.size_toArray]
      omega
    refine G.stops s _ E (by rw [← ei]; exact ⟨hz, hTI, hTO, ⟨h1, p, g1⟩, h2, p2, g1⟩) fun h' tk hk htk => ?_
    exact I.turnedL (t' := tk) (ch := [z, TI, TO, i1, i2]) (fun c o hn e => hk c o (fun hm => hn (by
      simp only [List.mem_cons, List.not_mem_nil, or_false] at hm
      rcases hm with h | h | h | h <;> simp [h])) e) hf
  self := fun A i s Q E st h => wpAny_pyIter_zip st.1 h
def iZipG (K : PySem.W.Frag) (ta : TA) : TI := fun σ H R => ta σ H fun vs H1 => ∃ b1 b2 a b xs ys, vs = [.ref a, .ref b] ∧ SqS K b1 H1 a xs ∧ SqS K b2 H1 b ys ∧ R (ItzG K b1 b2 a b) H1
theorem pi_zipH {X : Cx} {e e2 : Expr} {ta : TA} {p pos tpos : Pos} {elts : List Expr} {kk : Nat} (hg : Gl X "zip") (hm : X.mg "zip" = none) (ha : PA X [e, e2] ta)
    (hs : starEach [e, e2] X.env = (false, eval e X.env) :: starEach [e2] X.env := by rfl) (hpl : (backTo pos (starEach [e2] X.env)).any (·.1) = false := by rfl) :
    L2H.PIH X (.Tuple elts kk tpos) (.Call (.Name "zip" p) [e, e2] [] pos) (iZipG X.K ta) := by
  refine ⟨fun pins s σ H R I h => ?_⟩
  refine Call_ (ld_blt I hg hm PyProof.Rows.boot_zip (PyProof.Rows.callWith_type1 (thn (ha.run pos pins s σ H _ I h) fun us s1 ⟨vs, H1, I1, r1, q1⟩ => ?_) hs hpl))
  obtain ⟨b1, b2, a, b, xs, ys, rfl, hqx, hqy, q⟩ := q1
  cases r1 with
  | cons r rr =>
    cases rr with
    | cons r' rr =>
      cases rr
      cases r
      cases r'
      obtain ⟨its, rv, p1⟩ := inv_sq I1 hqx
      obtain ⟨its2, rv2, p2⟩ := inv_sq I1 hqy
      have la := p1.lt
      have lb := p2.lt
      refine zip_begins2 (beginsH b1 a its.toArray) (beginsH b2 b its2.toArray) p1 p2 fun h' hz hTI hTO g1 g2 hsz hk => wpAny_pyIter_zip hz ?_
      have I2 : Inv X pins σ H1 { s1 with heap := h' } := I1.kept (t' := s1.toks) hk
      refine ⟨s1.heap.objs.size + 4, [s1.heap.objs.size + 4, s1.heap.objs.size + 2, s1.heap.objs.size + 3, s1.heap.objs.size, s1.heap.objs.size + 1], _, _, H1, rfl, I2,
        turn_zipG (b1 := b1) (b2 := b2) (zip_sep2 (N := s1.heap.objs.size) (fp1 := [a]) (fp2 := [b]) (by simpa using la) (by simpa using lb)) (Nat.ne_of_lt la) (Nat.ne_of_lt (Nat.lt_succ_of_lt lb)), ⟨hz, hTI, ⟨_, _, hTO⟩, IteH.new b1 g1, IteH.new b2 g2⟩, fun c hc => ?_, q⟩
      have hle : s1.heap.objs.size ≤ c := by
        simp only [List.mem_cons, List.not_mem_nil, or_false] at hc
        rcases hc with h | h | h | h | h <;> (rw [h]; first | exact Nat.le_refl _ | exact Nat.le_add_right _ _)
      exact I1.fpOk hle (I1.hok.fresh hle)
theorem same_s {K : PySem.W.Frag} {H H' : Hp} {b : Bool} {a : Addr} {xs : List V} (e : Same H H') (h : SqS K b H a xs) : SqS K b H' a xs := by
  cases b
  · exact same_l e h
  · exact same_t e h
theorem itzG_ok {K : PySem.W.Frag} {P : Hp → Hp → Prop} {b1 b2 : Bool} {p q : Addr} {xs ys : List V} {as bs : List D} (hS : ∀ F' H', P F' H' → Same F' H' → SqS K b1 H' p xs) (r : ∀ F' H', P F' H' → RpA K F' xs as) (hS2 : ∀ F' H', P F' H' → Same F' H' → SqS K b2 H' q ys) (r2 : ∀ F' H', P F' H' → RpA K F' ys bs) : ItOk K P (ItzG K b1 b2 p q) (zipD as bs) where
  go := fun i F' H' z s hi => by
    obtain ⟨a, b, ha, hb, _⟩ := zipD_get (List.getElem?_eq_getElem hi)
    obtain ⟨v, hv, _⟩ := (r F' H' z).get ha
    obtain ⟨w, hw, _⟩ := (r2 F' H' z).get hb
    exact ⟨xs, ys, v, w, hS F' H' z s, hS2 F' H' z s, hv, hw⟩
  stop := fun F' H' z s => ⟨xs, ys, hS F' H' z s, hS2 F' H' z s, by
    rw [(r F' H' z).length, (r2 F' H' z).length]
    unfold zipD
    rw [List.length_zipWith]⟩
  yld := fun i d F' H' x H'' z s hd ⟨T, a, b, ex, hT, eH, h1, h2⟩ => by
    subst ex eH
    obtain ⟨a', b', ha, hb, rfl⟩ := zipD_get hd
    obtain ⟨d1, e1, r1⟩ := (r F' _ z).getV (h1 xs (hS F' _ z s))
    obtain ⟨d2, e2, r2⟩ := (r2 F' _ z).getV (h2 ys (hS2 F' _ z s))
    rw [ha] at e1; cases e1
    rw [hb] at e2; cases e2
    have n := Same.new (o := .tup [a, b]) (Same.none s hT)
    exact ⟨_, Grow.new s hT, .tup (SqT.of upd_same) (.cons (Rp.mono n _ _ r1) (.cons (Rp.mono n _ _ r2) .nil))⟩
section
variable {X : Cx} {xi : Xi} {W : WX} {tg e e2 : Expr} {f : En → Rs Sl} {fs : En → Rs (List Sl)} {it : En → Rs (List D)} {p p2 tpos : Pos} {elts : List Expr} {kk : Nat}
theorem pdih_H (h : PDIH X xi W zF tg e it) : PDIH X xi W zH tg e it := PIH.imp h fun σ H R ⟨F0, H0, F, δ, st, p⟩ => ⟨F0, H0, F, δ, st, by
    cases e1 : it δ with
    | bad => rw [e1] at p; exact p
    | er c => rw [e1] at p; exact p
    | ok ds => rw [e1] at p; exact fun J F' H' g j => p J F' H' g j.zH⟩
theorem pdih_zip (hG : Gl X "zip") (hm : X.mg "zip" = none) (ha : PDA X xi W [e, e2] fs)
    (hs : starEach [e, e2] X.env = (false, eval e X.env) :: starEach [e2] X.env := by rfl) (hpl : (backTo p2 (starEach [e2] X.env)).any (·.1) = false := by rfl) : PDIH X xi W zF (.Tuple elts kk tpos) (.Call (.Name "zip" p) [e, e2] [] p2) (iCall zpF fs) := by
  refine PIH.imp (pi_zipH hG hm ha hs hpl) ?_
  rintro σ H R ⟨F0, H0, F, δ, st, p⟩
  refine tA_use st (fun x v F1 H1 e1 g1 r1 => ?_) (fun x F1 H1 e1 g1 => by simp only [iCall, e1, Rs.bind] at p; exact p F1 H1 g1) (fun e1 => by simp only [iCall, e1, Rs.bind] at p; exact p)
  simp only [iCall, e1, Rs.bind] at p
  cases e2 : zpF x with
  | none => rw [e2] at p; exact p.elim
  | some q =>
    rw [e2] at p
    unfold zpF at e2
    split at e2
    · obtain ⟨v1, v2, rfl, ra, rb⟩ := r1.two
      split at e2
      · rename_i ha hb
        cases e2
        obtain ⟨p1, xs, rfl, hS, ra⟩ := ra.itl ha
        obtain ⟨p2, ys, rfl, hS2, rb⟩ := rb.itl hb
        exact ⟨false, false, p1, p2, xs, ys, rfl, same_l g1.sm hS, same_l g1.sm hS2, p _ F1 H1 g1 (itzG_ok (b1 := false) (b2 := false) (fun F' H' q s => same_l s (same_l q hS)) (fun F' H' q => RpA.mono q _ _ ra) (fun F' H' q s => same_l s (same_l q hS2)) fun F' H' q => RpA.mono q _ _ rb)⟩
      · split at e2
        · rename_i ha hb
          cases e2
          obtain ⟨p1, xs, rfl, hS, ra⟩ := ra.tupF ha
          obtain ⟨p2, ys, rfl, hS2, rb⟩ := rb.tupF hb
          exact ⟨true, true, p1, p2, xs, ys, rfl, same_t g1.sm hS, same_t g1.sm hS2, p _ F1 H1 g1 (itzG_ok (b1 := true) (b2 := true) (fun F' H' q s => same_t s (same_t q hS)) (fun F' H' q => RpA.mono q _ _ ra) (fun F' H' q s => same_t s (same_t q hS2)) fun F' H' q => RpA.mono q _ _ rb)⟩
        · cases e2
    · cases e2
end
/-! ### enumerate -/
def IteG (K : PySem.W.Frag) (b : Bool) (a : Addr) : It :=
  ⟨fun i H => ∃ (xs : List V) (x : V), SqS K b H a xs ∧ xs[i]? = some x, fun i H v H' => ∃ T x, v = .ref T ∧ H T = none ∧ H' = upd H T (.tup [.int (i : Nat), x]) ∧ ∀ xs, SqS K b H a xs → xs[i]? = some x, fun i H => ∃ xs : List V, SqS K b H a xs ∧ i = xs.length⟩
theorem turn_enumG {P : Program} {w : World} {K : PySem.W.Frag} {elts : List Expr} {kk : Nat} {tpos : Pos} {b : Bool} {a e it : Addr} (n1 : e ≠ it) (n2 : a ≠ it) (n3 : a ≠ e) :
    L2H.TurnH P w K (.Tuple elts kk tpos) (IteG K b a) [e, it] e (fun i h => (∃ old, IsEnum h e it (0 + (i : Int)) old) ∧ IteH b h it a i) where
  mem := by simp
  obj := fun i h ⟨⟨old, he⟩, h1⟩ c hc => by
    simp only [List.mem_cons, List.not_mem_nil, or_false] at hc
    rcases hc with rfl | rfl
    · exact ⟨_, he, fun v q => nomatch q⟩
    · exact h1.obj
  keep := fun i h h' ⟨⟨old, he⟩, h1⟩ k => ⟨⟨old, k e (by simp) _ he⟩, h1.keep fun o q => k it (by simp) o q⟩
  item := by
    rintro X rfl rfl rfl hc i pins s σ H E I hf ⟨he, h1⟩ ⟨xs, x, hq, hx⟩
    obtain ⟨us, rv, p⟩ := inv_sq I hq
    obtain ⟨u, hu, ru⟩ := rv.get hx
    obtain ⟨x1, o1, vs1, hh, g1, d1, c1, hx1⟩ := HotC.all hc I hf
    have ne : x1 ≠ e := hx1 e (by simp)
    have G := GoesN.enumFrom (prog := X.prog) (w := X.w) (A := X.A) (elts := elts) (x1 := kk) (pos := tpos) 0 (drawsH (A := X.A.in1) hh d1 c1 b n2 (hx1 it (by simp)) us.toArray) e n1 (fun hm => by
      simp only [List.mem_cons, List.not_mem_nil, or_false] at hm
      rcases hm with h | h | h
      · exact n1 h
      · exact n3 h.symm
      · exact ne h.symm) (by simp)
    have l1 : i < us.toArray.size := by
      have := (List.getElem?_eq_some_iff.mp hu).1
      simpa using this
    refine G.goes i s _ E l1 ⟨he, h1, p, g1⟩ fun r h' tk hY st' hk htk => ?_
    obtain ⟨T, t, u', rfl, hnew, hu', hT⟩ := hY
    rw [List.getElem?_toArray, hu] at hu'
    cases hu'
    have new : ObjOk X.prog X.w (upd H T (.tup [.int (i : Nat), x])) h' T (.tup [.int (i : Nat), x]) :=
      ⟨by show 2 ≤ sizeLine; decide, [.int (0 + (i : Int)) t, u], .cons ⟨t, by rw [Int.zero_add]⟩ (.cons ru .nil), hT⟩
    refine ⟨.ref T, _, I.turnedNew (t' := tk) (fun c o hn e => hk c o hn e) hf hnew new, rfl, ⟨T, x, rfl, I.hok.fresh hnew, rfl, fun l hl => by rw [inv_sq_inj I hl hq]; exact hx⟩, ⟨st'.1, st'.2.1⟩, fun c hcm => ?_⟩
    have hlt : c < s.heap.objs.size := by
      obtain ⟨o1, e1, _⟩ := h1.obj
      obtain ⟨old, he⟩ := he
      simp only [List.mem_cons, List.not_mem_nil, or_false] at hcm
      rcases hcm with rfl | rfl
      · exact Heap.lt_size he
      · exact Heap.lt_size e1
    rw [upd_ne (Nat.ne_of_lt (Nat.lt_of_lt_of_le hlt hnew))]
    exact (hf c hcm).1
  done := by
    rintro X rfl rfl rfl hc i pins s σ H E I hf ⟨he, h1⟩ ⟨xs, hq, hend⟩
    obtain ⟨us, rv, p⟩ := inv_sq I hq
    obtain ⟨x1, o1, vs1, hh, g1, d1, c1, hx1⟩ := HotC.all hc I hf
    have ne : x1 ≠ e := hx1 e (by simp)
    have G := GoesN.enumFrom (prog := X.prog) (w := X.w) (A := X.A) (elts := elts) (x1 := kk) (pos := tpos) 0 (drawsH (A := X.A.in1) hh d1 c1 b n2 (hx1 it (by simp)) us.toArray) e n1 (fun hm => by
      simp only [List.mem_cons, List.not_mem_nil, or_false] at hm
      rcases hm with h | h | h
      · exact n1 h
      · exact n3 h.symm
      · exact ne h.symm) (by simp)
    have e1 := rv.length
    have ei : i = us.toArray.size := by
      simp only [List.size_toArray]
      omega
    refine G.stops s _ E (by rw [← ei]; exact ⟨he, h1, p, g1⟩) fun h' tk hk htk => ?_
    exact I.turnedL (t' := tk) (ch := [e, it]) (fun c o hn e => hk c o hn e) hf
  self := fun A i s Q E ⟨⟨old, he⟩, _⟩ h => wpAny_pyIter_enum he h
def iEnumG (K : PySem.W.Frag) (ta : TA) : TI := fun σ H R => ta σ H fun vs H1 => ∃ b a xs, vs = [.ref a] ∧ SqS K b H1 a xs ∧ R (IteG K b a) H1
theorem pi_enumH {X : Cx} {e : Expr} {ta : TA} {p pos tpos : Pos} {elts : List Expr} {kk : Nat} (hg : Gl X "enumerate") (hm : X.mg "enumerate" = none) (ha : PA X [e] ta) (hs : starEach [e] X.env = [(false, eval e X.env)] := by rfl) :
    L2H.PIH X (.Tuple elts kk tpos) (.Call (.Name "enumerate" p) [e] [] pos) (iEnumG X.K ta) := by
  refine ⟨fun pins s σ H R I h => ?_⟩
  refine Call_ (ld_blt I hg hm boot_enumerate (PyProof.Rows.callWith_type1 (thn (ha.run pos pins s σ H _ I h) fun us s1 ⟨vs, H1, I1, r1, b, a, xs, ex, hq, q⟩ => ?_) hs rfl))
  subst ex
  cases r1 with
  | cons r rr =>
    cases rr
    cases r
    have pin : ∀ b ∈ [s1.heap.objs.size + 1, s1.heap.objs.size], s1.heap.objs.size ≤ b := fun b hb => by simp at hb; omega
    obtain ⟨its, rv, p'⟩ := inv_sq I1 hq
    have la := p'.lt
    have fin : ∀ k, IsEnum k (s1.heap.objs.size + 1) s1.heap.objs.size 0 .none → IteH b k s1.heap.objs.size a 0 → (∀ b o, s1.heap.get? b = some o → k.get? b = some o) →
        wpAny (model X.prog X.w) X.A (pyIter (.ref (s1.heap.objs.size + 1))) (L2H.PIEH X pins σ (.Tuple elts kk tpos) R) X.xe { s1 with heap := k } := fun k e1 j1 up => by
      refine wpAny_pyIter_enum e1 ?_
      have I2 : Inv X pins σ H1 { s1 with heap := k } := I1.kept (t' := s1.toks) up
      exact ⟨s1.heap.objs.size + 1, [s1.heap.objs.size + 1, s1.heap.objs.size], _, _, H1, rfl, I2, turn_enumG (b := b) (Nat.succ_ne_self _) (Nat.ne_of_lt la) (Nat.ne_of_lt (Nat.lt_succ_of_lt la)), ⟨⟨.none, e1⟩, j1⟩, fun b hb => I1.fpOk (pin b hb) (I1.hok.fresh (pin b hb)), q⟩
    cases b
    · exact call_enumerate_list p' fun k e1 j1 _ up => fin k e1 j1 up
    · exact EnT.make p' fun k e1 j1 _ up => fin k e1 j1 up
theorem iteG_ok {K : PySem.W.Frag} {P : Hp → Hp → Prop} {b : Bool} {p : Addr} {xs : List V} {ds : List D} (hS : ∀ F' H', P F' H' → Same F' H' → SqS K b H' p xs) (r : ∀ F' H', P F' H' → RpA K F' xs ds) : ItOk K P (IteG K b p) (enumD 0 ds) where
  go := fun i F' H' z s hi => by
    rw [enumD_len] at hi
    obtain ⟨v, hv, _⟩ := (r F' H' z).get (List.getElem?_eq_getElem hi)
    exact ⟨xs, v, hS F' H' z s, hv⟩
  stop := fun F' H' z s => ⟨xs, hS F' H' z s, by rw [(r F' H' z).length, enumD_len]⟩
  yld := fun i d F' H' x H'' z s hd ⟨T, a, ex, hT, eH, h1⟩ => by
    subst ex eH
    rw [enumD_get] at hd
    obtain ⟨e, he, rfl⟩ := Option.map_eq_some_iff.mp hd
    obtain ⟨d1, e1, r1⟩ := (r F' _ z).getV (h1 xs (hS F' _ z s))
    rw [he] at e1; cases e1
    rw [Nat.zero_add]
    have n := Same.new (o := .tup [.int (i : Nat), a]) (Same.none s hT)
    exact ⟨_, Grow.new s hT, .tup (SqT.of upd_same) (.cons (.int _) (.cons (Rp.mono n _ _ r1) .nil))⟩
/-! ### a text -/
theorem turn_strH {P : Program} {w : World} {K : PySem.W.Frag} {tg : Expr} (it : Addr) (x : Str) (t : Tok) (ty : String) (hty : ty = "str_ascii_iterator" ∨ ty = "str_iterator") : L2H.TurnH P w K tg (Its x) [it] it (fun i h => h.IsStrIter it ty x t i) where
  mem := by simp
  obj := fun i h ⟨o, e, c, d⟩ b hb => by
    rw [List.mem_singleton] at hb
    exact ⟨o, hb ▸ e, fun v z => by rw [d] at z; cases z⟩
  keep := fun i h h' ⟨o, ho, r⟩ k => ⟨o, k it (by simp) o ho, r⟩
  item := by
    rintro X rfl rfl rfl hc i pins s σ H E I hf st hg
    obtain ⟨f0, f1, f2, f3, f4, f5⟩ := hf it (by simp)
    have hg : i < x.cps.size := hg
    have nx : ∀ (Q : Option Value → Shared → Prop), (∀ h', h'.IsStrIter it ty x t (i + 1) → Heap.SameBut it s.heap h' → Q (some (.str ⟨#[x.cps[i]]⟩ s.toks)) { s with heap := h', toks := s.toks + 1 }) → wpAny (model X.prog X.w) X.A (pyNext (.ref it)) Q E s := fun Q q => by
      rcases hty with e | e
      · subst e; exact wpAny_pyNext_ascii_item st (c := x.cps[i]) (by simp [hg]) q
      · subst e; exact wpAny_pyNext_wide_item st (c := x.cps[i]) (by simp [hg]) q
    refine nx _ fun h' st' sb => ?_
    have I1 : Inv X pins σ H { s with heap := h', toks := s.toks + 1 } := I.turned (t' := s.toks + 1) (fun b o hb e => (sb.2 b hb).trans e) f0 f1 f3 f4 f5
    obtain ⟨oi, e, cc, dd⟩ := id st'
    have hno : ["enumerate", "zip", "dict_itemiterator", "dict_reverseitemiterator", "odict_iterator", "itertools.zip_longest", "itertools.pairwise"].contains ty = false := by rcases hty with e | e <;> (rw [e]; decide)
    exact ⟨_, rfl, go_of (s := { s with heap := h', toks := s.toks + 1 }) e cc dd hno ⟨.str ⟨#[x.cps[i]]⟩, H, I1, ⟨_, rfl⟩, ⟨rfl, x.cps[i], by simp [hg], rfl⟩, st', fun b hb => (hf b hb).1⟩⟩
  done := by
    rintro X rfl rfl rfl hc i pins s σ H E I hf st hg
    have hx : x.cps[i]? = none := Array.getElem?_eq_none hg
    obtain ⟨x1, hot, nx⟩ := HotC.away hc I (hf it (by simp))
    obtain ⟨f0, f1, f2, f3, f4, f5⟩ := hf it (by simp)
    rcases hty with e | e
    · subst e
      exact ascii_end_hot hot nx st hx fun h' eb => ⟨rfl, I.turned (t' := s.toks) (fun b o hb e => eb b o hb e) f0 f1 f3 f4 f5⟩
    · subst e
      exact wide_end_hot hot nx st hx fun h' eb => ⟨rfl, I.turned (t' := s.toks) (fun b o hb e => eb b o hb e) f0 f1 f3 f4 f5⟩
  self := fun A i s Q E st h => by
    rcases hty with e | e
    · subst e; exact wpAny_pyIter_striter_ascii st h
    · subst e; exact wpAny_pyIter_striter_wide st h
theorem pi_strH {X : Cx} {tg e : Expr} {te : TE} (he : PE X e te) : L2H.PIH X tg e (iStr te) := by
  refine ⟨fun pins s σ H R I h => ?_⟩
  refine thn (he.run pins s σ H _ I h) fun v s1 ⟨y, H1, I1, r1, x, ex, q⟩ => ?_
  subst ex
  obtain ⟨t, rfl⟩ := r1
  have fin : ∀ ty : String, (ty = "str_ascii_iterator" ∨ ty = "str_iterator") → L2H.PIEH X pins σ tg R (.ref s1.heap.objs.size) { s1 with heap := s1.heap.push { cls := .type ty, data := .fields #[.str x t, .int 0 0] } } := fun ty hty =>
    ⟨s1.heap.objs.size, [s1.heap.objs.size], _, _, H1, rfl, I1.kept (t' := s1.toks) fun b o e => Heap.get?_push_of_some _ e, turn_strH _ x t ty hty, ⟨_, Heap.get?_push_size _ rfl, rfl, rfl⟩, fun b hb => by
      rw [List.mem_singleton] at hb
      subst hb
      exact I1.fpOk (Nat.le_refl _) (I1.hok.fresh (Nat.le_refl _)), q⟩
  cases ha : x.cps.all (· < 128)
  · exact wpAny_pyIter_wide ha (fin _ (.inr rfl))
  · exact wpAny_pyIter_ascii ha (fin _ (.inl rfl))
section
variable {X : Cx} {xi : Xi} {W : WX} {tg e : Expr} {f : En → Rs Sl} {fs : En → Rs (List Sl)} {p p2 tpos : Pos} {elts : List Expr} {kk : Nat}
theorem pdih_enum (hG : Gl X "enumerate") (hm : X.mg "enumerate" = none) (ha : PDA X xi W [e] fs)
    (hs : starEach [e] X.env = [(false, eval e X.env)] := by rfl) : PDIH X xi W zF (.Tuple elts kk tpos) (.Call (.Name "enumerate" p) [e] [] p2) (iCall enS fs) := by
  refine PIH.imp (pi_enumH hG hm ha hs) ?_
  rintro σ H R ⟨F0, H0, F, δ, st, p⟩
  refine tA_use st (fun x v F1 H1 e1 g1 r1 => ?_) (fun x F1 H1 e1 g1 => by simp only [iCall, e1, Rs.bind] at p; exact p F1 H1 g1) (fun e1 => by simp only [iCall, e1, Rs.bind] at p; exact p)
  simp only [iCall, e1, Rs.bind] at p
  cases e2 : enS x with
  | none => rw [e2] at p; exact p.elim
  | some q =>
    rw [e2] at p
    unfold enS at e2
    split at e2
    · obtain ⟨v1, rfl, ra⟩ := r1.one
      obtain ⟨ds, h1, rfl⟩ := Option.map_eq_some_iff.mp e2
      unfold sqF at h1
      split at h1
      · rename_i ds' ht
        cases h1
        obtain ⟨p1, xs, rfl, hS, ra⟩ := ra.tupF ht
        exact ⟨true, p1, xs, rfl, same_t g1.sm hS, p _ F1 H1 g1 (iteG_ok (b := true) (fun F' H' q s => same_t s (same_t q hS)) fun F' H' q => RpA.mono q _ _ ra)⟩
      · obtain ⟨p1, xs, rfl, hS, ra⟩ := ra.itl h1
        exact ⟨false, p1, xs, rfl, same_l g1.sm hS, p _ F1 H1 g1 (iteG_ok (b := false) (fun F' H' q s => same_l s (same_l q hS)) fun F' H' q => RpA.mono q _ _ ra)⟩
    · cases e2
theorem pdih_str (he : PD X xi W e f) : PDIH X xi W zF tg e (iStrD f) := by
  refine PIH.imp (pi_strH he) ?_
  rintro σ H R ⟨F0, H0, F, δ, st, p⟩
  refine tD_use st (fun x v F1 H1 e1 g1 r1 => ?_) (fun x F1 H1 e1 g1 => by simp only [iStrD, e1, Rs.bind] at p; exact p F1 H1 g1) (fun e1 => by simp only [iStrD, e1, Rs.bind] at p; exact p)
  simp only [iStrD, e1, Rs.bind] at p
  unfold strOf at p
  split at p
  · rename_i z
    have r : Rp _ _ v (.str z) := r1
    cases r
    exact ⟨z, rfl, p _ F1 H1 g1 its_ok⟩
  · exact p.elim
end
/-! ### all, in any mood -/
theorem all_wlk {prog : Program} {w : World} {A : Around} {E : Value → Shared → Prop} {s : Shared} {l : Addr} {its : List Value} {bs : List Bool} {Q : Value → Shared → Prop} (hw : Wlk prog w A.in1 s l its.toArray) (hi : its = bs.map Value.bool) (h : ∀ s', Only s s' → Q (.bool (bs.all id)) s') : wpAny (model prog w) A (call (.builtin "all") [.ref l]) Q E s := by
  refine call_all_walk (wpAny_mono (hw E) (fun it s₂ hs => ?_) fun _ _ x => x)
  obtain ⟨I, fp, wr, St, rfl, W, st, hfp, g1, g2, g3, k⟩ := hs
  refine ⟨I, fp, wr, _, _, St, fun i => bs.getD i true, rfl, W, st, fun i v s Q E hv q => ?_, fun h' tk hk => ?_⟩
  · have hv : its.toArray[i]? = some v := hv
    have q : Q (bs.getD i true) s := q
    rw [List.getElem?_toArray, hi, List.getElem?_map] at hv
    obtain ⟨b, hb, rfl⟩ := Option.map_eq_some_iff.mp hv
    have : bs.getD i true = b := by rw [List.getD_eq_getElem?_getD, hb]; rfl
    rw [this] at q
    exact wpAny_pure q
  · have e : ((List.range its.toArray.size).all fun i => bs.getD i true) = bs.all id := by
      rw [List.size_toArray, hi, List.length_map]
      clear hi hw W h hk
      rw [Bool.eq_iff_iff, List.all_eq_true, List.all_eq_true]
      constructor
      · intro q b hb
        obtain ⟨i, hi, rfl⟩ := List.getElem_of_mem hb
        have := q i (List.mem_range.mpr hi)
        rwa [List.getD_eq_getElem?_getD, List.getElem?_eq_getElem hi] at this
      · intro q i hi
        have hi := List.mem_range.mp hi
        rw [List.getD_eq_getElem?_getD, List.getElem?_eq_getElem hi]
        exact q _ (List.getElem_mem hi)
    rw [e]
    exact h { s₂ with heap := h', toks := tk } ⟨g1, g2, g3, fun b o e => hk b o (k b o e).2 (k b o e).1⟩
theorem vals_bl : ∀ {bs : List Bool} {its : List Value}, Vals (bs.map V.bl) its → its = bs.map Value.bool
  | [], _, .nil => rfl
  | b :: bs, _, .cons r t => by
    have : _ = Value.bool b := r
    rw [this, vals_bl t]; rfl
theorem c_allB {X : Cx} (hm : Mood X) : CallR X (.builtin "all") (rC X.K mAll) := by
  intro pins s σ H vs us Q I r h
  obtain ⟨F, as, sl, sm, rr, e, q⟩ := h
  match as, rr, e with
  | [a], rr, e =>
    obtain ⟨v, rfl, ra⟩ := rr.one
    obtain ⟨ns, h1, rfl⟩ := Option.map_eq_some_iff.mp e
    obtain ⟨ds, h2, h3⟩ := Option.bind_eq_some_iff.mp h1
    obtain rfl := boolsOf_eq h3
    obtain ⟨p, xs, rfl, hT, rr⟩ := RdR.lst sm ra h2
    obtain rfl := rr.ofBools
    obtain ⟨its, rv, hl, _⟩ := I.list hT
    rw [Vals.ref1 r]
    have hw : Wlk X.prog X.w X.A.in1 s p its.toArray := by
      rcases hm with hm | hm
      · exact wlk_list (A := X.A.in1) (I.ok.hd hm) hl.isList
      · obtain ⟨x1, h1⟩ := hm.at I
        exact wlk_listH (A := X.A.in1) (show HotAt X.A.in1 x1 s.heap from h1) hl.isList
    exact all_wlk hw (vals_bl rv) fun s' o => ⟨.bl _, H, o.inv I, rfl, q _ F H (Grow.refl sm) (.bl _)⟩
/-! ### defs that raise nothing as they are called -/
/-- the same answers, no exceptions -/
def quiet (m : List Sl → Rs Sl) : List Sl → Rs Sl := fun as => match m as with
  | .er _ => .bad
  | r => r
theorem cal_mkQ {P : Program} {w : World} {K : PySem.W.Frag} {mg : Str → Option Value} {base : Heap} {fd : FuncData} {x : Str} {st : Stmt} {N ps : List Str} {k n : Nat} {g : En → Out} (F : FnD K x st (He.ga K x) fd) (S : FnScope N ps (defScope st)) (gl : mg x = some (.ref (He.ga K x))) (hb : Binds K fd ps []) (hn : ps.length = n)
    (body : ∀ (cdv : Value) (A : Around) (outer : List Env) (sh : Shared) (H : Hp) (E : XK) (p : Addr × Obj), L2H.RoomH k (cxDH P w K mg base N st x (He.ga K x) cdv A outer sh H E p).A →
      PassesOwn (model P w) (cxDH P w K mg base N st x (He.ga K x) cdv A outer sh H E p).A (cxDH P w K mg base N st x (He.ga K x) cdv A outer sh H E p).env (cxDH P w K mg base N st x (He.ga K x) cdv A outer sh H E p).xe →
      L2H.HotC (cxDH P w K mg base N st x (He.ga K x) cdv A outer sh H E p) → PDB (cxDH P w K mg base N st x (He.ga K x) cdv A outer sh H E p) [] WF (defBody st) g) : CalH P w K mg base x ps (k + 1) n (quiet (fnM N.length g)) := by
  subst hn
  refine ⟨⟨fd, ?_, hb⟩, gl, F.kp⟩
  obtain ⟨oc, od, dV, kV, doc, pm, an, cdv, ct, osl, rfl, lk, hcd, _, _⟩ := F.ex
  refine L2H.fn_ofH lk hcd S (fun vs H Q E h => h.1) fun A outer sh H vs Q E p hot hr h => ?_
  refine ⟨_, body cdv A outer sh H E p hr (passes_of rfl) ⟨p, hot, .head _⟩, ?_⟩
  obtain ⟨hl, F, as, sm, r, hf, q⟩ := h
  refine ⟨F, H, F, initE N.length as, Stt.init sm r hf, ?_⟩
  unfold quiet fnM at q
  generalize g (initE N.length as) = o at q
  match o, q with
  | .nx δ, q => exact fun σ' F' H' st' s' => q .non F' H' st'.gr .non
  | .rt s, q => exact fun v F' H' g' r' => q v F' H' g' r'
  | .rm d δ, q => exact fun v σ' F' H' st' _ r' => q v F' H' st'.gr r'
  | .er c δ, q => exact q.elim
  | .bk δ, q => exact q.elim
  | .ct δ, q => exact q.elim
  | .bad, q => exact q.elim
theorem pd_callQ {X : Cx} {xi : Xi} {e : Expr} {es : List Expr} {fs : En → Rs (List Sl)} {p pos : Pos} {j k n : Nat} {x : Str} {ps : List Str} {m : List Sl → Rs Sl} (C : CalH X.prog X.w X.K X.mg X.base x ps j n (quiet m)) (hr : L2H.RoomH k X.A) (hj : j ≤ k) (hc : L2H.HotC X) (ha : PDA X xi WF (e :: es) fs) (hl : eLen n fs) (hg : Gl X x := by rfl) (hdb : (x == ("__debug__" : Str)) = false := by decide)
    (he : starEach (e :: es) X.env = (false, eval e X.env) :: starEach es X.env := by rfl) (hpl : (backTo pos (starEach es X.env)).any (·.1) = false := by rfl) : PD X xi WF (.Call (.Name x p) (e :: es) [] pos) (eCall m fs) := by
  refine PE.imp (pd_callH C hr hj hc takesN ha hl hg hdb he hpl) ?_
  rintro σ H Q ⟨F0, H0, F, δ, st, q⟩
  refine ⟨F0, H0, F, δ, st, ?_⟩
  unfold eCall at q ⊢
  cases e1 : fs δ with
  | er c => rw [e1] at q; exact q
  | bad => rw [e1] at q; exact q
  | ok as =>
    rw [e1] at q
    simp only [Rs.bind] at q ⊢
    by_cases hf : as.all froz = true
    · rw [if_pos hf] at q ⊢
      unfold quiet
      cases e2 : m as with
      | ok s => rw [e2] at q; exact q
      | er c => rw [e2] at q; exact q F H (Grow.refl st.sm)
      | bad => rw [e2] at q; exact q
    · rw [if_neg hf] at q; exact q.elim
/-- a raise that is not reached -/
theorem pds_raiseQ {X : Cx} {xi : Xi} {e : Expr} {c : Str} {pos : Pos} : PDS X xi WF (.Raise (some e) none pos) (sRaise c) := by
  refine ⟨fun pins s σ H D I h => ?_⟩
  obtain ⟨F0, H0, F, δ, st, p⟩ := h
  exact (p σ F H st (Same.refl F)).elim
end DL

namespace DL
open PySem PySem.Spec PyProof.Rows
open L2 hiding nth
/-! ### texts cut at a sign; upper; int of a text -/
theorem RpA.strs {K : PySem.W.Frag} {F : Hp} : ∀ xs : List Str, RpA K F (xs.map V.str) (xs.map PyData.str)
  | [] => .nil
  | x :: xs => .cons (.str x) (RpA.strs xs)
def mSplit (x : Str) (b : Sl) : Option Sl := match b with
  | .im (.str z) => if (z.length == 0) = false ∧ x.length + 2 ≤ 16777216 then some (.ml ((Txt.split x z).map PyData.str)) else none
  | _ => none
def eSplit (f g : En → Rs Sl) : En → Rs Sl := fun δ => (f δ).bind fun a => match a with
  | .im (.str x) => (g δ).bind fun b => ofO (mSplit x b)
  | _ => .bad
def mSplitM (x : Str) (bs : List Sl) : Option Sl := match bs with
  | [.im (.str z), .im (.int k)] => if (z.length == 0) = false ∧ (0 ≤ k ∧ k < 1000000) ∧ x.length + 2 ≤ 16777216 then some (.ml ((Txt.splitMax x z k).map PyData.str)) else none
  | _ => none
def eSplitM (f : En → Rs Sl) (g : En → Rs (List Sl)) : En → Rs Sl := fun δ => (f δ).bind fun a => match a with
  | .im (.str x) => (g δ).bind fun b => ofO (mSplitM x b)
  | _ => .bad
def mUpper : Sl → Option Sl
  | .im (.str x) => if x.length ≤ 1000000 then some (.im (.str (Txt.upper x))) else none
  | _ => none
def mIntT : List Sl → Option Sl
  | [.im (.str x)] => if x.length ≤ 600 then (PySem.intText? x).map fun n => .im (.int n) else none
  | _ => none
/-- str of a text or a number -/
def mStrT (as : List Sl) : Option Sl := match as with
  | [.im (.str x)] => some (.im (.str x))
  | as => mStr as
section
variable {X : Cx} {xi : Xi} {W : WX} {e e2 e3 : Expr} {f g : En → Rs Sl} {fs : En → Rs (List Sl)} {pos apos : Pos}
theorem new_strs {K : PySem.W.Frag} {F H : Hp} {Q : VK} (sm : Same F H) (ys : List Str) (p : ∀ v F' H', Grow F H F' H' → RepR K H F' H' v (.ml (ys.map PyData.str)) → Q v H') : rNewStrs ys H Q := fun a hn =>
  p (.ref a) F (upd H a (.lst (ys.map V.str))) (Grow.newO sm hn) ⟨a, _, rfl, hn, Same.none sm hn, upd_same, RpA.strs ys⟩
theorem pd_split (ho : PD X xi W e f) (he : PD X xi W e2 g) (hs : starEach [e2] X.env = [(false, eval e2 X.env)] := by rfl) (hbase : attributeBase e "split" X.env (eval e X.env) = eval e X.env := by rfl) (hline : (apos.endLine == pos.line) = true := by rfl) :
    PD X xi W (.Call (.Attribute e "split" apos) [e2] [] pos) (eSplit f g) := by
  refine PE.imp (pe_split ho he hs hbase hline) ?_
  rintro σ H Q ⟨F0, H0, F, δ, st, p⟩
  refine tD_use st (fun x v F1 H1 e1 g1 r1 => ?_) (fun x F1 H1 e1 g1 => by simp only [eSplit, e1, Rs.bind] at p; exact p F1 H1 g1) (fun e1 => by simp only [eSplit, e1, Rs.bind] at p; exact p)
  simp only [eSplit, e1, Rs.bind] at p
  split at p
  · rename_i x
    have r1 : Rp _ _ v (.str x) := r1
    cases r1
    refine ⟨⟨x, rfl⟩, ?_⟩
    refine tD_use (st.grow g1) (fun y w F2 H2 e2 g2 r2 => ?_) (fun x F2 H2 e2 g2 => by simp only [e2] at p; exact p F2 H2 (g1.trans g2)) (fun e2 => by simp only [e2] at p; exact p)
    simp only [e2] at p
    cases em : mSplit x y with
    | none => rw [em] at p; exact p.elim
    | some s =>
      rw [em] at p
      unfold mSplit at em
      split at em
      · rename_i z
        split at em
        · rename_i hz
          cases em
          have r2 : Rp _ _ w (.str z) := r2
          cases r2
          exact ⟨x, z, rfl, rfl, hz.1, by rw [sizeLine_eq]; exact hz.2, new_strs g2.sm _ fun v F' H' gg r => p v F' H' (g1.trans (g2.trans gg)) (r.pre (g1.hh.trans g2.hh))⟩
        · cases em
      · cases em
  · exact p.elim
theorem pd_splitM (ho : PD X xi W e f) (ha : PDA X xi W [e2, e3] fs) (hbase : attributeBase e "split" X.env (eval e X.env) = eval e X.env := by rfl)
    (hfew : ((backTo pos (starEach [e2, e3] X.env)).all (fun x => !x.1) && (backToKw pos (keywordEach [] X.env)).all (fun x => x.1.isSome)
      && decide (([e2, e3] : List Expr).length + ([] : List Keyword).length + (if ([] : List Keyword).isEmpty then 0 else 1) < 30)) = true := by rfl)
    (hline : (apos.endLine == pos.line) = true := by rfl) (hs : starEach [e2, e3] X.env = (false, eval e2 X.env) :: starEach [e3] X.env := by rfl) (hplain : (backTo pos (starEach [e3] X.env)).any (·.1) = false := by rfl) :
    PD X xi W (.Call (.Attribute e "split" apos) [e2, e3] [] pos) (eSplitM f fs) := by
  refine PE.imp (pe_bm PySem.F.plainAttrs_str PySem.F.slot_str_split PySem.F.type_str_split mt_splitMax ho ha hbase hfew hline hs hplain) ?_
  rintro σ H Q ⟨F0, H0, F, δ, st, p⟩
  refine tD_use st (fun x v F1 H1 e1 g1 r1 => ?_) (fun x F1 H1 e1 g1 => by simp only [eSplitM, e1, Rs.bind] at p; exact p F1 H1 g1) (fun e1 => by simp only [eSplitM, e1, Rs.bind] at p; exact p)
  simp only [eSplitM, e1, Rs.bind] at p
  split at p
  · rename_i x
    have r1 : Rp _ _ v (.str x) := r1
    cases r1
    refine ⟨rfl, ?_⟩
    refine tA_use (st.grow g1) (fun ys ws F2 H2 e2 g2 r2 => ?_) (fun x F2 H2 e2 g2 => by simp only [e2] at p; exact p F2 H2 (g1.trans g2)) (fun e2 => by simp only [e2] at p; exact p)
    simp only [e2] at p
    cases em : mSplitM x ys with
    | none => rw [em] at p; exact p.elim
    | some s =>
      rw [em] at p
      unfold mSplitM at em
      split at em
      · rename_i z k
        split at em
        · rename_i hz
          cases em
          cases r2 with
          | cons q1 r2 => cases r2 with
            | cons q2 r2 =>
              cases r2
              have q1 : Rp _ _ _ (.str z) := q1
              have q2 : Rp _ _ _ (.int k) := q2
              cases q1; cases q2
              exact ⟨x, z, k, rfl, rfl, hz.1, by have := hz.2.1.1; omega, by have := hz.2.1.2; omega, by rw [sizeLine_eq]; exact hz.2.2, new_strs g2.sm _ fun v F' H' gg r => p v F' H' (g1.trans (g2.trans gg)) (r.pre (g1.hh.trans g2.hh))⟩
        · cases em
      · cases em
  · exact p.elim
theorem pd_upper (ho : PD X xi W e f) (hbase : attributeBase e "upper" X.env (eval e X.env) = eval e X.env := by rfl) (hline : (apos.endLine == pos.line) = true := by rfl) :
    PD X xi W (.Call (.Attribute e "upper" apos) [] [] pos) (eUn mUpper f) := by
  refine PE.imp (pe_m0 PySem.F.slot_str_upper PySem.F.type_str_upper mt_upper ho hbase hline) ?_
  rintro σ H Q ⟨F0, H0, F, δ, st, p⟩
  refine tD_use st (fun x v F1 H1 e1 g1 r1 => ?_) (fun x F1 H1 e1 g1 => by simp only [eUn, e1, Rs.bind] at p; exact p F1 H1 g1) (fun e1 => by simp only [eUn, e1, Rs.bind] at p; exact p)
  simp only [eUn, e1, Rs.bind] at p
  cases em : mUpper x with
  | none => rw [em] at p; exact p.elim
  | some s =>
    rw [em] at p
    unfold mUpper at em
    split at em
    · rename_i x
      split at em
      · rename_i hl
        cases em
        have r1 : Rp _ _ v (.str x) := r1
        cases r1
        exact ⟨⟨x, rfl⟩, x, rfl, rfl, by omega, p _ F1 H1 g1 (.str _)⟩
      · cases em
    · cases em
theorem c_intT : CallR X (.type "int") (rC X.K mIntT) := by
  intro pins s σ H xs us Q I r h
  refine call_int_str pins s σ H xs us Q I r ?_
  obtain ⟨F, as, t, sm, ra, e, q⟩ := h
  unfold mIntT at e
  split at e
  · rename_i x
    split at e
    · rename_i hl
      obtain ⟨n, hn, rfl⟩ := Option.map_eq_some_iff.mp e
      cases ra with
      | cons q1 r2 =>
        cases r2
        have q1 : Rp _ _ _ (.str x) := q1
        cases q1
        exact ⟨x, n, rfl, hn, by omega, q _ F H (Grow.refl sm) (.int n)⟩
    · cases e
  · cases e
theorem c_strT : CallR X (.type "str") (rC X.K mStrT) := by
  intro pins s σ H xs us Q I r h
  obtain ⟨F, as, t, sm, ra, e, q⟩ := h
  unfold mStrT at e
  split at e
  · rename_i x
    cases e
    cases ra with
    | cons q1 r2 =>
      cases r2
      have q1 : Rp _ _ _ (.str x) := q1
      cases q1
      exact SkE.call_str_str pins s σ H _ us Q I r ⟨x, rfl, q _ F H (Grow.refl sm) (.str x)⟩
  · exact c_str pins s σ H xs us Q I r ⟨F, _, t, sm, ra, e, q⟩
end

/-! ### a dict of the module, texts by texts -/
structure TabD (K : PySem.W.Frag) (w : World) (a : Addr) (kvs : List (Str × Str)) : Prop where
  kd : ∃ es n, KDict K w a es n
  get : ∀ x y, kvs.lookup x = some y → ∃ t, PySem.W.nsIn K a x = some (some (.str y t))
  miss : ∀ x, kvs.lookup x = none → PySem.W.nsIn K a x = some none
def imS (s : Sl) (g : Str → Rs Sl) : Rs Sl := match s with
  | .im (.str x) => g x
  | _ => .bad
/-- TABLE[f] -/
def eTabIx (kvs : List (Str × Str)) (f : En → Rs Sl) : En → Rs Sl := fun δ => (f δ).bind fun s => imS s fun x => match kvs.lookup x with
  | some y => .ok (.im (.str y))
  | none => .bad
/-- f in TABLE (not in) -/
def eTabIn (neg : Bool) (kvs : List (Str × Str)) (f : En → Rs Sl) : En → Rs Sl := fun δ => (f δ).bind fun s => imS s fun x => .ok (.im (.bool (xor neg (kvs.lookup x).isSome)))
section
variable {X : Cx} {xi : Xi} {W : WX} {e : Expr} {f : En → Rs Sl} {pos p1 : Pos} {x : Str} {a : Addr} {kvs : List (Str × Str)}
theorem pd_tabIx (hg : Gl X x) (hm : X.mg x = some (.ref a)) (T : TabD X.K X.w a kvs) (he : PD X xi W e f) (hs : PlainIx e := by exact fun _ _ => rfl) (hd : (x == ("__debug__" : Str)) = false := by decide) : PD X xi W (.Subscript (.Name x p1) e pos) (eTabIx kvs f) := by
  obtain ⟨es, n, D⟩ := T.kd
  refine PE.imp (pe_ix ix_kdict (pe_glob (v := .ref a) hg hm rfl hd) he hs) ?_
  rintro σ H Q ⟨F0, H0, F, δ, st, p⟩
  refine tD_use st (fun s v F1 H1 e1 g1 r1 => ?_) (fun c F1 H1 e1 g1 => by simp only [eTabIx, e1, Rs.bind] at p; exact p F1 H1 g1) (fun e1 => by simp only [eTabIx, e1, Rs.bind] at p; exact p)
  simp only [eTabIx, e1, Rs.bind] at p
  unfold imS at p
  split at p
  · rename_i z
    have r1 : Rp _ _ v (.str z) := r1
    cases r1
    cases el : kvs.lookup z with
    | none => simp only [el] at p; exact p.elim
    | some y =>
      simp only [el] at p
      obtain ⟨t, ht⟩ := T.get z y el
      exact ⟨a, z, .str y, rfl, rfl, ⟨es, n, _, D.at_, D.lit, ht, ⟨t, rfl⟩⟩, p _ F1 H1 g1 (.str y)⟩
  · exact p.elim
theorem nomarkN {op : CmpOp} {x : Str} {p1 : Pos} : behindInMarks op (.Name x p1) = false := by cases op <;> rfl
def tIn (K : PySem.W.Frag) (a : Addr) (neg : Bool) : R2 := fun x y H Q => ∃ (z : Str) (r : Option Value), x = .str z ∧ y = .ref a ∧ PySem.W.nsIn K a z = some r ∧ Q (.bl (xor neg r.isSome)) H
theorem tabIn_imp {neg : Bool} (T : TabD X.K X.w a kvs) : ∀ σ H Q, tD X.K xi W (eTabIn neg kvs f) σ H Q → tOp (tIn X.K a neg) (tD X.K xi W f) (tC (.ref a)) σ H Q := by
  have look : ∀ z : Str, ∃ r, PySem.W.nsIn X.K a z = some r ∧ r.isSome = (kvs.lookup z).isSome := fun z => by
    cases el : kvs.lookup z with
    | none => exact ⟨none, T.miss z el, rfl⟩
    | some y => obtain ⟨t, ht⟩ := T.get z y el; exact ⟨_, ht, rfl⟩
  rintro σ H Q ⟨F0, H0, F, δ, st, p⟩
  refine tD_use st (fun s v F1 H1 e1 g1 r1 => ?_) (fun c F1 H1 e1 g1 => by simp only [eTabIn, e1, Rs.bind] at p; exact p F1 H1 g1) (fun e1 => by simp only [eTabIn, e1, Rs.bind] at p; exact p)
  simp only [eTabIn, e1, Rs.bind] at p
  unfold imS at p
  split at p
  · rename_i z
    have r1 : Rp _ _ v (.str z) := r1
    cases r1
    obtain ⟨r, h1, h2⟩ := look z
    exact ⟨z, r, rfl, rfl, h1, by rw [h2]; exact p _ F1 H1 g1 (.bl _)⟩
  · exact p.elim
theorem tIn_op {o : CmpOp} {neg : Bool} {es : Array DictEntry} {n : Nat} (ho : (o = .In ∧ neg = false) ∨ (o = .NotIn ∧ neg = true)) (D : KDict X.K X.w a es n) : OpR X (compareOp o) (tIn X.K a neg) := by
  rcases ho with ⟨rfl, rfl⟩ | ⟨rfl, rfl⟩
  · exact OpR.imp (op_in_kd D) fun x y H Q ⟨z, r, h1, h2, h3, q⟩ => ⟨z, r, h1, h2, h3, by rw [Bool.false_xor] at q; exact q⟩
  · exact OpR.imp (op_notIn_kd D) fun x y H Q ⟨z, r, h1, h2, h3, q⟩ => ⟨z, r, h1, h2, h3, by rw [Bool.true_xor] at q; exact q⟩
theorem pd_tabIn {o : CmpOp} {neg : Bool} (ho : (o = .In ∧ neg = false) ∨ (o = .NotIn ∧ neg = true)) (hg : Gl X x) (hm : X.mg x = some (.ref a)) (T : TabD X.K X.w a kvs) (he : PD X xi W e f) (hd : (x == ("__debug__" : Str)) = false := by decide) : PD X xi W (.Compare e [o] [.Name x p1] pos) (eTabIn neg kvs f) := by
  obtain ⟨es, n, D⟩ := T.kd
  exact PE.imp (pe_cmpR (tIn_op ho D) he (pe_glob (v := .ref a) hg hm rfl hd) nomarkN) (tabIn_imp T)
theorem pt_tabIn {o : CmpOp} {neg : Bool} (ho : (o = .In ∧ neg = false) ∨ (o = .NotIn ∧ neg = true)) (hg : Gl X x) (hm : X.mg x = some (.ref a)) (T : TabD X.K X.w a kvs) (he : PD X xi W e f) (hd : (x == ("__debug__" : Str)) = false := by decide) : PDT X xi W (.Compare e [o] [.Name x p1] pos) (cTest (eTabIn neg kvs f)) := by
  obtain ⟨es, n, D⟩ := T.kd
  exact PT.imp (pt_cmpR (tIn_op ho D) he (pe_glob (v := .ref a) hg hm rfl hd) nomarkN) fun σ H Q q => tabIn_imp T _ _ _ (tTest_of σ H Q q)
end
end DL

namespace DL
open PySem PySem.Spec PyProof.Rows
open L2 hiding nth
/-! ### the head, with tables -/
theorem ns_miss {K : PySem.W.Frag} {P : Params} {a : Addr} {es : Array DictEntry} {n : Nat} {x : Str} {ks : List Str} (hl : K.lookup a = some ⟨.type "dict", none, .dict es n, #[]⟩) (hk : es.toList.map He.keyOf = He.keysIn P ks) (hx : x ∉ ks) : PySem.W.nsIn K a x = some none := by
  have all : ∀ e ∈ es.toList, e.key.isStr x = false ∧ e.refKey = false := by
    intro e he
    have h1 : He.keyOf e ∈ He.keysIn P ks := by rw [← hk]; exact List.mem_map.mpr ⟨e, he, rfl⟩
    obtain ⟨k, hks, ek⟩ := List.mem_map.mp h1
    unfold He.keyOf at ek
    split at ek
    · rename_i y t q
      have e2 := Option.some.inj ek
      obtain ⟨e3, e4⟩ := Prod.mk.inj e2
      refine ⟨?_, ?_⟩
      · rw [q]
        show (y == x) = false
        apply Bool.eq_false_iff.mpr
        intro h
        exact hx (by rw [← show y = x from by simpa using h, ← e3]; exact hks)
      · unfold DictEntry.refKey; rw [q]
    · cases ek
  unfold PySem.W.nsIn
  rw [hl]
  have f1 : es.toList.find? (fun e => e.key.isStr x) = none := List.find?_eq_none.mpr fun e he => by rw [(all e he).1]; simp
  have f2 : es.toList.any (fun e => e.refKey) = false := List.any_eq_false.mpr fun e he => by rw [(all e he).2]; simp
  show (match es.toList.find? (fun e => e.key.isStr x) with
      | some e => some (some e.val)
      | none => if es.toList.any (fun e => e.refKey) then none else some none) = some none
  rw [f1, f2]
  rfl
theorem dicW_full {K : PySem.W.Frag} {w : World} {a : Addr} {ks : List Str} (h : He.dicW K a = some (He.keysIn w.params ks)) : ∃ es n, KDict K w a es n ∧ es.toList.map He.keyOf = He.keysIn w.params ks := by
  obtain ⟨es, n, D⟩ := He.dicW_ok h
  refine ⟨es, n, D, ?_⟩
  unfold He.dicW at h
  rw [D.at_] at h
  have h1 : (match decide (("dict" : String) = "dict") && ((#[] : Array (Option Value)).isEmpty && !(a == sysModules)) with
    | true => some (es.toList.map He.keyOf)
    | false => none) = some (He.keysIn w.params ks) := h
  rw [D.low] at h1
  exact Option.some.inj h1
/-- the run at a world hangs on one of its switches: both ways -/
theorem ft_split {P : World → Prop} (x : String) (h : ∀ (b : Bool) (w : World), P { w with params := { w.params with followText := fun s => if s == x then b else w.params.followText s } }) (w : World) : P w := by
  have h1 := h (w.params.followText x) w
  have e : (fun s => if s == x then w.params.followText x else w.params.followText s) = w.params.followText := by
    funext s
    by_cases hs : s = x
    · subst hs; simp
    · simp [hs]
  rw [e] at h1
  exact h1
abbrev AlXT : Type := He.AlT × Bool
def obsXT (fa : List He.Fa) (fn : List He.DefD) (ts : List He.Tab) (xb : PySem.W.Frag → Bool) (K : PySem.W.Frag) : AlXT := (He.obsT fa fn ts K, xb K)
def valXT (fn : List He.DefD) (ts : List He.Tab) (w : World) : AlXT := (He.valT fn ts w, true)
def SaysXT (fa : List He.Fa) (fn : List He.DefD) (ts : List He.Tab) (xb : PySem.W.Frag → Bool) (w : World) (K : PySem.W.Frag) : Prop := obsXT fa fn ts xb K = valXT fn ts w
def obsXTG (n : Nat) (fa : List He.Fa) (fn : List He.DefD) (ts : List He.Tab) (xb : PySem.W.Frag → Bool) (g : Addr → Option Obj) : AlXT := obsXT fa fn ts xb (He.frG g (He.asD g n))
def hookXT (n : Nat) (fa : List He.Fa) (fn : List He.DefD) (ts : List He.Tab) (xb : PySem.W.Frag → Bool) : PySem.W.Hook where
  α := AlXT
  obs := fun s => obsXTG n fa fn ts xb s.heap.get?
  val := fun w => valXT fn ts w
  says := fun w h => ∃ K : PySem.W.Frag, K.In h ∧ SaysXT fa fn ts xb w K
  of := fun _ _ e => ⟨_, He.frG_in, e⟩
  keeps := fun _ _ _ ⟨K, hK, c⟩ k => ⟨K, PySem.W.Frag.In.keeps hK k, c⟩
theorem obsXTG_eq {n : Nat} {fa : List He.Fa} {fn : List He.DefD} {ts : List He.Tab} {xb : PySem.W.Frag → Bool} {g : Addr → Option Obj} {s : Shared} (h : ∀ a, g a = s.heap.get? a) : obsXTG n fa fn ts xb g = (hookXT n fa fn ts xb).obs s := by
  obtain rfl : g = s.heap.get? := funext h
  rfl
section
variable {fa : List He.Fa} {fn : List He.DefD} {ts : List He.Tab} {xb : PySem.W.Frag → Bool} {w : World} {K : PySem.W.Frag}
theorem SaysXT.d (h : SaysXT fa fn ts xb w K) : He.SaysD fa fn K := congrArg (fun z : AlXT => z.1.1) h
theorem SaysXT.x (h : SaysXT fa fn ts xb w K) : xb K = true := congrArg (fun z : AlXT => z.2) h
theorem SaysXT.dic (h : SaysXT fa fn ts xb w K) (i : Nat) {t : He.Tab} (e : ts[i]? = some t) : He.dicW K (t.1 K) = some (He.keysIn w.params t.2) := by
  have e1 : ts.map (fun t => He.dicW K (t.1 K)) = ts.map fun t => some (He.keysIn w.params t.2) := congrArg (fun z : AlXT => z.1.2) h
  have e2 : (ts.map fun t => He.dicW K (t.1 K))[i]? = (ts.map fun t => some (He.keysIn w.params t.2))[i]? := by rw [e1]
  rw [List.getElem?_map, List.getElem?_map, e] at e2
  exact Option.some.inj e2
end
/-- a table of texts: x its name -/
def tabB (K : PySem.W.Frag) (x : Str) (kvs : List (Str × Str)) : Bool := He.valsB K (He.ga K x) (kvs.map fun q => (q.1, He.Dv.str q.2))
def tabT (x : Str) (kvs : List (Str × Str)) : He.Tab := (fun K => He.ga K x, kvs.map (·.1))
theorem lookup_mem {x y : Str} : ∀ {kvs : List (Str × Str)}, kvs.lookup x = some y → (x, y) ∈ kvs
  | [], h => by cases h
  | (a, b) :: r, h => by
    rw [List.lookup_cons] at h
    by_cases e : x = a
    · subst e
      rw [beq_self_eq_true] at h
      cases h
      exact .head _
    · rw [show (x == a) = false from by simpa using e] at h
      exact .tail _ (lookup_mem h)
theorem lookup_none {x : Str} : ∀ {kvs : List (Str × Str)}, kvs.lookup x = none → x ∉ kvs.map (·.1)
  | [], _ => by simp
  | (a, b) :: r, h => by
    rw [List.lookup_cons] at h
    by_cases e : x = a
    · subst e
      rw [beq_self_eq_true] at h
      cases h
    · rw [show (x == a) = false from by simpa using e] at h
      have := lookup_none h
      intro hm
      rcases List.mem_cons.mp hm with z | z
      · exact e z
      · exact this z
theorem tabD_of {K : PySem.W.Frag} {w : World} {x : Str} {kvs : List (Str × Str)} (h1 : He.dicW K (He.ga K x) = some (He.keysIn w.params (kvs.map (·.1)))) (h2 : tabB K x kvs = true) : TabD K w (He.ga K x) kvs := by
  obtain ⟨es, n, D, hk⟩ := dicW_full h1
  refine ⟨⟨es, n, D⟩, fun z y hy => ?_, fun z hz => ns_miss D.at_ hk (lookup_none hz)⟩
  obtain ⟨u, hu, ru⟩ := He.valsB_ok h2 (q := (z, He.Dv.str y)) (List.mem_map.mpr ⟨(z, y), lookup_mem hy, rfl⟩)
  obtain ⟨t, rfl⟩ := ru
  exact ⟨t, hu⟩
end DL

namespace DL
open PySem PySem.Spec PyProof.Rows
open Builtin Builtin.Str
open L2 hiding nth
/-! ### one sign replaced, in a list whose first item gives out a token -/
abbrev occ1 (x y : Str) : List Nat := occurrences x y 0 x.length 1
def rep1 (x y z : Str) : Str := if ((occ1 x y).isEmpty || (y.length == 0 && z.length == 0)) = true then x else glued z (partsBetween x (occ1 x y) y.length)
theorem gives_rep1 (x y z : Str) (t u v m : Tok) (h0 : (u == 0 || v == 0) = false) (huv : (u == v) = false) (hyz : (y == z) = false) (hl : tooLong (x.length + (occ1 x y).length * z.length) = false) :
    Gives («str.replace» ⟨[.str x t, .str y u, .str z v, .int 1 m], []⟩) (if ((occ1 x y).isEmpty || (y.length == 0 && z.length == 0)) = true then .val (.str x t) else .str (glued z (partsBetween x (occ1 x y) y.length))) := by
  show Gives (if ((occ1 x y).isEmpty || (y.length == 0 && z.length == 0)) = true then (do rule "str.replace.nothing"; ret (.str x t)) else
          (do let same ← isSame (.str y u) (.str z v)
              if same = true then (do rule "str.replace.old-is-new"; ret (.str x t)) else
              if tooLong (x.length + (occ1 x y).length * z.length) = true then unsupported "str.replace:memory" else
              retStr (glued z (partsBetween x (occ1 x y) y.length)))) _
  cases hc : ((occ1 x y).isEmpty || (y.length == 0 && z.length == 0))
  · rw [isSame_str_other y z u v h0 huv hyz, hl]
    exact .of_eq rfl
  · exact .rule (.of_eq rfl)
theorem rep1_len (x y z : Str) : (rep1 x y z).length ≤ x.length + z.length := by
  unfold rep1
  split
  · omega
  · have h1 := StrLaws.occ_length_le x y 0 x.length 1
    have hy : (glued y (partsBetween x (occ1 x y) y.length)).length = x.length := by rw [StrLaws.glued_between_self]
    rw [size_glued, length_partsBetween, Nat.add_sub_cancel] at hy
    rw [size_glued, length_partsBetween, Nat.add_sub_cancel]
    have h2 : (occ1 x y).length * z.length ≤ 1 * z.length := Nat.mul_le_mul_right _ h1
    omega
section
variable {prog : Program} {w : World} {A : Around} {E : Value → Shared → Prop} {s : Shared} {x y z : Str} {t u v m : Tok} {Q : Value → Shared → Prop}
theorem call_rep1 (hu : u ≠ 0) (hv : v ≠ 0) (huv : u ≠ v) (hyz : (y == z) = false) (hb : x.length + z.length ≤ 16777216)
    (hq : ∀ t' k, Q (.str (rep1 x y z) t') { s with toks := k }) : wpAny (model prog w) A (call (.builtin "str.replace") [.str x t, .str y u, .str z v, .int 1 m]) Q E s := by
  have e : (2 : Nat) ^ 24 = 16777216 := by decide
  have hl : tooLong (x.length + (occ1 x y).length * z.length) = false := by
    have h1 := StrLaws.occ_length_le x y 0 x.length 1
    have h2 : (occ1 x y).length * z.length ≤ 1 * z.length := Nat.mul_le_mul_right _ h1
    unfold tooLong sizeLine
    exact decide_eq_false (by omega)
  have hlen := rep1_len x y z
  refine call_gives F.slot_str_replace (typeIs_str _ _ _) F.entry_str_replace (F.args_str_replace_4 _ _ _ _)
    (gives_rep1 x y z t u v m (by simp [hu, hv]) (by simp [huv]) hyz hl) ?_
  have hq' := hq
  unfold rep1 at hq' hlen
  cases hc : ((occ1 x y).isEmpty || (y.length == 0 && z.length == 0))
  · rw [hc] at hq' hlen
    simp only [Bool.false_eq_true, if_false] at hq' hlen ⊢
    exact ⟨by rw [sizeLine_eq]; omega, hq' _ _⟩
  · rw [hc] at hq'
    simp only [if_true] at hq' ⊢
    exact hq' t s.toks
end
def eRep1 (f : En → Rs Sl) (y z : Str) : En → Rs Sl := fun δ => (f δ).bind fun s => imS s fun x => if x.length + z.length ≤ 16777216 then .ok (.im (.str (rep1 x y z))) else .bad
abbrev PDT1 (X : Cx) (xi : Xi) (W : WX) (e : Expr) (f : En → Rs Sl) : Prop := PET X e (tD X.K xi W f)
abbrev PDAT (X : Cx) (xi : Xi) (W : WX) (es : List Expr) (fs : En → Rs (List Sl)) : Prop := PAT X es (tA X.K xi W fs)
section
variable {X : Cx} {xi : Xi} {W : WX} {e a o : Expr} {es : List Expr} {f : En → Rs Sl} {fs : En → Rs (List Sl)} {pos apos cp c0 c1 c2 : Pos} {j k l : Nat} {y z c : Str}
theorem tCons_of : ∀ σ H Q, tA X.K xi W (eCons f fs) σ H Q → tCons (tD X.K xi W f) (tA X.K xi W fs) σ H Q := by
  rintro σ H Q ⟨F0, H0, F, δ, st, p⟩
  refine tD_use st (fun x v F1 H1 e1 g1 r1 => ?_) (fun c F1 H1 e1 g1 => by simp only [eCons, e1, Rs.bind] at p; exact p F1 H1 g1) (fun e1 => by simp only [eCons, e1, Rs.bind] at p; exact p)
  refine tA_use (st.grow g1) (fun y u F2 H2 e2 g2 r2 => ?_) (fun c F2 H2 e2 g2 => by simp only [eCons, e1, e2, Rs.bind] at p; exact p F2 H2 (g1.trans g2)) (fun e2 => by simp only [eCons, e1, e2, Rs.bind] at p; exact p)
  simp only [eCons, e1, e2, Rs.bind] at p
  exact p (v :: u) F2 H2 (g1.trans g2) (.cons (r1.rd.grow g2 g1.sm) r2)
theorem pdt1_of (h : PD X xi W e f) : PDT1 X xi W e f := CwR.PET.of h
theorem pdat_nil : PDAT X xi W [] eNil := by
  intro pos pins s σ H Q h0 I h
  obtain ⟨F0, H0, F, δ, st, p⟩ := h
  exact pat_nil pos pins s σ H Q h0 I (p [] F H (Grow.refl st.sm) .nil)
theorem pdat_cons (ha : PDT1 X xi W e f) (hr : PDAT X xi W es fs) (hs : starEach (e :: es) X.env = (false, eval e X.env) :: starEach es X.env := by rfl) : PDAT X xi W (e :: es) (eCons f fs) := by
  intro pos pins s σ H Q h0 I h
  exact pat_cons ha hr hs pos pins s σ H Q h0 I (tCons_of σ H Q h)
theorem pdt_rep1 (ho : PD X xi W o f) (hyz : (y == z) = false := by decide)
    (hst : starEach [.Constant (.str y) j c0, .Constant (.str z) k c1, .Constant (.int 1) l c2] X.env = [(false, eval (.Constant (.str y) j c0) X.env), (false, eval (.Constant (.str z) k c1) X.env), (false, eval (.Constant (.int 1) l c2) X.env)] := by rfl)
    (hbase : attributeBase o "replace" X.env (eval o X.env) = eval o X.env := by rfl) (hline : (apos.endLine == pos.line) = true := by rfl) :
    PDT1 X xi W (.Call (.Attribute o "replace" apos) [.Constant (.str y) j c0, .Constant (.str z) k c1, .Constant (.int 1) l c2] [] pos) (eRep1 f y z) := by
  intro pins s σ H Q h0 I h
  obtain ⟨F0, H0, F, δ, st, p⟩ := h
  have hx : tD X.K xi W f σ H fun v H1 => ∃ x, v = .str x ∧ x.length + z.length ≤ 16777216 ∧ Q (.str (rep1 x y z)) H1 := by
    refine tD_use st (fun s v F1 H1 e1 g1 r1 => ?_) (fun c F1 H1 e1 g1 => by simp only [eRep1, e1, Rs.bind] at p; exact p F1 H1 g1) (fun e1 => by simp only [eRep1, e1, Rs.bind] at p; exact p)
    simp only [eRep1, e1, Rs.bind] at p
    unfold imS at p
    split at p
    · rename_i x
      have r1 : Rp _ _ v (.str x) := r1
      cases r1
      dsimp only at p
      split at p
      · rename_i hl
        exact ⟨x, rfl, hl, p _ F1 H1 g1 (.str _)⟩
      · exact p.elim
    · exact p.elim
  refine PySem.wpAny_Call_method_lateS hbase (by rw [hst]; rfl) hline (wpAny_mono (PySem.wpAny_toks (ho.run pins s σ H _ I hx)) (fun v s1 q => ?_) fun _ _ z => z.2)
  have eb : backTo pos [(false, eval (.Constant (.str y) j c0) X.env), (false, eval (.Constant (.str z) k c1) X.env), (false, eval (.Constant (.int 1) l c2) X.env)] = [(false, eval (.Constant (.str y) j c0) X.env), (false, eval (.Constant (.str z) k c1) X.env), (false, eval (.Constant (.int 1) l c2) X.env)] := rfl
  rw [hst, eb]
  obtain ⟨hk, v', H1, I1, r1, x, e1, hb, q⟩ := q
  subst e1
  obtain ⟨tx, e2⟩ := r1
  subst e2
  refine ⟨"str", _, PySem.F.plainAttrs_str, PySem.F.slot_str_replace, PySem.F.type_str_replace, typeIs_str _ _ _, (fun _ e => nomatch e), Calls.callWith_builtin rfl (Calls.evalArgs_plain (Calls.spliced_cons ?_))⟩
  refine Calls.Constant_str (Calls.spliced_cons (Calls.Constant_str (Calls.spliced_cons (wpAny_Constant_int (Calls.spliced_nil ?_)))))
  exact call_rep1 (by show s1.toks ≠ 0; omega) (by show s1.toks + 1 ≠ 0; omega) (by show s1.toks ≠ s1.toks + 1; omega) hyz hb fun t' k => ⟨.str (rep1 x y z), H1, I1.tok k, ⟨t', rfl⟩, q⟩
/-- the first item ends with a written text: behind it a token is out -/
theorem add_im {x s : Sl} (h : mAdd x (.im (.str c)) = some s) : ∃ d, s = .im d := by
  unfold mAdd at h
  split at h
  · cases h; exact ⟨_, rfl⟩
  · split at h
    · cases h; exact ⟨_, rfl⟩
    · cases h
  · split at h
    · cases h; exact ⟨_, rfl⟩
    · cases h
  · split at h
    · rename_i h1 h2
      cases h2
    · cases h
theorem pda_tok (ha : PD X xi W a f) (hr : PDAT X xi W es fs)
    (hs : starEach (.BinOp a .Add (.Constant (.str c) j cp) pos :: es) X.env = (false, eval (.BinOp a .Add (.Constant (.str c) j cp) pos) X.env) :: starEach es X.env := by rfl) :
    PDA X xi W (.BinOp a .Add (.Constant (.str c) j cp) pos :: es) (eCons (eIm (eOp mAdd f (eC (.str c)))) fs) := by
  refine ⟨fun pos' pins s σ H Q I h => ?_⟩
  have h' := tCons_of σ H Q h
  have hv : tD X.K xi W f σ H fun x H1 => rD X.K mAdd x (.str c) H1 fun x H1 => tA X.K xi W fs σ H1 fun xs H2 => Q (x :: xs) H2 := by
    obtain ⟨F0, H0, F, δ, st, p⟩ := h'
    refine tD_use st (fun x v F1 H1 e1 g1 r1 => ?_) (fun c F1 H1 e1 g1 => by simp only [eIm, eOp, e1, Rs.bind] at p; exact p F1 H1 g1) (fun e1 => by simp only [eIm, eOp, e1, Rs.bind] at p; exact p)
    simp only [eIm, eOp, eC, e1, Rs.bind] at p
    cases em : mAdd x (.im (.str c)) with
    | none => rw [em] at p; exact p.elim
    | some s =>
      obtain ⟨d, rfl⟩ := add_im em
      rw [em] at p
      exact ⟨F1, x, .im (.str c), .im d, g1.sm, r1.rd, .str c, em, fun v' F' H' gg r => p v' F' H' (g1.trans gg) r⟩
  rw [hs]
  show wpAny _ _ (spliced ((false, eval (.BinOp a .Add (.Constant (.str c) j cp) pos) X.env) :: backTo pos' (starEach es X.env))) _ _ s
  refine Calls.spliced_cons (wpAny_BinOp (thn (ha.run pins s σ H _ I hv) fun v s1 ⟨x, H1, I1, r1, q1⟩ => Calls.Constant_str ?_))
  refine wpAny_mono (PySem.wpAny_toks (o_add pins _ σ H1 x (.str c) v _ _ (I1.tok (s1.toks + 1)) r1 ⟨_, rfl⟩ q1)) (fun u s2 q => ?_) fun _ _ z => z.2
  obtain ⟨hk, y', H2, I2, r2, q2⟩ := q
  have hk : s1.toks + 1 ≤ s2.toks := hk
  exact thn (hr pos' pins s2 σ H2 _ (by omega) I2 q2) fun us s3 ⟨xs, H3, I3, r3, q3⟩ => ⟨y' :: xs, H3, I3, .cons r2 r3, q3⟩
def sidxO : List Nat → Rs Sl
  | i :: _ => .ok (.im (.int (i : Nat)))
  | [] => .bad
/-- text.index(y) where it is found -/
def eSIdx (f g : En → Rs Sl) : En → Rs Sl := fun δ => (f δ).bind fun a => imS a fun x => (g δ).bind fun b => imS b fun y => sidxO (occ1 x y)
theorem pd_sidx {e2 : Expr} {g : En → Rs Sl} (ho : PD X xi W e f) (he : PD X xi W e2 g) (hs : starEach [e2] X.env = [(false, eval e2 X.env)] := by rfl) (hbase : attributeBase e "index" X.env (eval e X.env) = eval e X.env := by rfl) (hline : (apos.endLine == pos.line) = true := by rfl) :
    PD X xi W (.Call (.Attribute e "index" apos) [e2] [] pos) (eSIdx f g) := by
  refine PE.imp (pe_m1 PySem.F.slot_str_index PySem.F.type_str_index mt_sindex ho he hs hbase hline) ?_
  rintro σ H Q ⟨F0, H0, F, δ, st, p⟩
  refine tD_use st (fun x v F1 H1 e1 g1 r1 => ?_) (fun x F1 H1 e1 g1 => by simp only [eSIdx, e1, Rs.bind] at p; exact p F1 H1 g1) (fun e1 => by simp only [eSIdx, e1, Rs.bind] at p; exact p)
  simp only [eSIdx, e1, Rs.bind] at p
  unfold imS at p
  split at p
  · rename_i x
    have r1 : Rp _ _ v (.str x) := r1
    cases r1
    refine ⟨⟨x, rfl⟩, ?_⟩
    refine tD_use (st.grow g1) (fun y w F2 H2 e2 g2 r2 => ?_) (fun x F2 H2 e2 g2 => by simp only [e2] at p; exact p F2 H2 (g1.trans g2)) (fun e2 => by simp only [e2] at p; exact p)
    simp only [e2] at p
    split at p
    · rename_i y
      have r2 : Rp _ _ w (.str y) := r2
      cases r2
      cases eo : occ1 x y with
      | nil => simp only [eo, sidxO] at p; exact p.elim
      | cons i r =>
        simp only [eo, sidxO] at p
        exact ⟨x, y, i, r, rfl, rfl, eo, p _ F2 H2 (g1.trans g2) (.int _)⟩
    · exact p.elim
  · exact p.elim
end
end DL

namespace DL
open PySem PySem.Spec PyProof.Rows L2
/-! ### numbers by their bits -/
def mBOr : Sl → Sl → Option Sl := mInt fun i j => .int (Builtin.bitOr i j)
def mBAnd : Sl → Sl → Option Sl := mInt fun i j => .int (Builtin.bitAnd i j)
def mShl : Sl → Sl → Option Sl := mIntC powOk fun i j => .int (i * 2 ^ j.toNat)
def mShr : Sl → Sl → Option Sl := mIntC (fun _ j => decide (0 ≤ j)) fun i j => .int (i / 2 ^ j.toNat)
def mInv : Sl → Option Sl
  | .im (.int i) => some (.im (.int (Builtin.bitNot i)))
  | _ => none
section
variable {X : Cx}
theorem o_bor : OpR X (binaryOp .BitOr) (rD X.K mBOr) := OpR.imp op_or (int_of fun _ _ _ => .int _)
theorem o_band : OpR X (binaryOp .BitAnd) (rD X.K mBAnd) := OpR.imp op_and (int_of fun _ _ _ => .int _)
theorem o_shl : OpR X (binaryOp .LShift) (rD X.K mShl) := OpR.imp op_shl (intC_of (fun _ _ _ => .int _) fun i j h => by
  unfold powOk at h
  simp only [Bool.and_eq_true, decide_eq_true_eq] at h
  have e64 : (2 : Nat) ^ 64 = 18446744073709551616 := by decide
  have h1 := smI_lt.mp h.1.2
  have h2 := smI_lt.mp h.2
  exact ⟨h.1.1, by omega, by rw [e64]; exact h2⟩)
theorem o_shr : OpR X (binaryOp .RShift) (rD X.K mShr) := OpR.imp op_shr (intC_of (fun _ _ _ => .int _) fun _ _ h => of_decide_eq_true h)
theorem io_bor : OpR X (inplaceOp .BitOr) (rD X.K mBOr) := OpR.imp iop_or (int_of fun _ _ _ => .int _)
theorem o_inv : UnR X (unaryOp .Invert) (rU X.K mInv) := UnR.imp un_inv (by
  rintro x H Q ⟨F, a, s, sm, ra, e, q⟩
  unfold mInv at e
  split at e
  · cases e
    cases ra
    exact ⟨_, rfl, q _ F H (Grow.refl sm) (.int _)⟩
  · cases e)
end
/-! ### a number as a test -/
def tstN : Sl → Option Bool
  | .im (.bool b) => some b
  | .im (.int i) => some (i != 0)
  | _ => none
def cTestN (f : En → Rs Sl) : En → Rs Bool := fun δ => (f δ).bind fun a => match tstN a with
  | some b => .ok b
  | none => .bad
theorem pt_ofN {X : Cx} {xi : Xi} {W : WX} {e : Expr} {f : En → Rs Sl} (h : PD X xi W e f) (he : ∀ whole, isTrue e X.env whole = (do let v ← whole; standAt e.pos; holding [v] (truthy v)) := by intro _; rfl) : PDT X xi W e (cTestN f) := by
  refine PT.imp (pt_truth h he) ?_
  rintro σ H Q ⟨F0, H0, F, δ, st, p⟩
  refine tD_use st (fun x v F1 H1 e1 g1 r1 => ?_) (fun c F1 H1 e1 g1 => by simp only [cTestN, e1, Rs.bind] at p; exact p F1 H1 g1) (fun e1 => by simp only [cTestN, e1, Rs.bind] at p; exact p)
  simp only [cTestN, e1, Rs.bind] at p
  cases eb : tstN x with
  | none => rw [eb] at p; exact p.elim
  | some k =>
    rw [eb] at p
    unfold tstN at eb
    split at eb
    · cases eb
      cases r1
      exact ⟨_, rfl, p F1 H1 g1⟩
    · cases eb
      cases r1
      exact ⟨_, rfl, p F1 H1 g1⟩
    · cases eb
/-! ### d.get(k, e), a dict of one pair -/
def getD' (kvs : List (Key × D)) (k : Key) (e : D) : D := match kvs.find? fun kv => decide (kv.1 = k) with
  | some kv => kv.2
  | none => e
theorem RpK.get {K : PySem.W.Frag} {F : Hp} {k : Key} : ∀ {xs : List (Key × V)} {kvs : List (Key × D)}, RpK K F xs kvs → match valV xs k with
    | some v => ∃ kv, (kvs.find? fun kv => decide (kv.1 = k)) = some kv ∧ Rp K F v kv.2
    | none => (kvs.find? fun kv => decide (kv.1 = k)) = none
  | [], [], h => by rw [valV_nil]; rfl
  | [], _ :: _, h => by have := h.1; simp at this
  | _ :: _, [], h => by have := h.1; simp at this
  | (a, x) :: xs, (b, y) :: kvs, ⟨h1, h2⟩ => by
    rw [List.map_cons, List.map_cons] at h1 h2
    have h1' := List.cons.inj h1
    have hab : a = b := h1'.1
    subst hab
    cases h2 with
    | cons h3 h4 =>
      by_cases e : a = k
      · rw [valV_pos (p := (a, x)) e]
        exact ⟨(a, y), by rw [List.find?_cons, decide_eq_true e], h3⟩
      · rw [valV_neg (p := (a, x)) e, List.find?_cons, decide_eq_false e]
        exact RpK.get ⟨h1'.2, h4⟩
def eDGet2 (i : Nat) (f g : En → Rs Sl) : En → Rs Sl := fun δ => match δ[i]? with
  | some (some (.dc kvs)) => (f δ).bind fun s => imK s fun kd => match keyD kd with
    | some k => (g δ).bind fun t => imK t fun e => .ok (.im (getD' kvs k e))
    | none => .bad
  | _ => .bad
def eDisp1 (f g : En → Rs Sl) : En → Rs Sl := fun δ => (f δ).bind fun s => imK s fun kd => match keyD kd with
    | some k => (g δ).bind fun t => imK t fun e => .ok (.dc [(k, e)])
    | none => .bad
section
variable {X : Cx} {xi : Xi} {W : WX} {e k : Expr} {f g : En → Rs Sl} {p1 p3 pos apos cpos : Pos} {i : Nat} {x : Str}
theorem pd_dget2 (hu : X.A.units + 1 < cLine) (he : PD X xi W e f) (hk : PD X xi W k g) (m : M2 X (.Name x p1) "get" apos e k cpos) (hN : X.N[i]? = some x := by rfl) (hv : Vis X.env.scope x := by first | exact Or.inl rfl | exact Or.inr (Or.inl rfl) | exact Or.inr (Or.inr rfl))
    (hd : (x == ("__debug__" : Str)) = false := by decide) (hcd : (x == ("__classdict__" : Str)) = false := by decide) : PD X xi W (.Call (.Attribute (.Name x p1) "get" apos) [e, k] [] cpos) (eDGet2 i f g) := by
  refine PE.imp (pe_dget2 hu (pe_var hN hv hd hcd) he hk m) ?_
  rintro σ H Q ⟨F0, H0, F, δ, st, p⟩
  unfold eDGet2 at p
  split at p
  · rename_i kvs e2
    obtain ⟨vo, ev, ⟨pp, xs, rfl, n0, nF, hp, r⟩, _⟩ := st.sl i _ e2
    refine ⟨_, ev, pp, rfl, .inl ⟨xs, .inl hp⟩, ?_⟩
    refine tD_use st (fun s v F1 H1 e1 g1 r1 => ?_) (fun c F1 H1 e1 g1 => by rw [e1] at p; exact p F1 H1 g1) (fun e1 => by rw [e1] at p; exact p)
    rw [e1] at p
    match s, r1, p with
    | .im kd, r1, p =>
      have p : Post X.K xi W F H σ Q (match keyD kd with
        | some k => (g δ).bind fun t => imK t fun e => .ok (.im (getD' kvs k e))
        | none => .bad) := p
      split at p
      · rename_i kk e3
        have ey := keyD_rp e3 r1
        subst ey
        have st1 := st.grow g1
        refine tD_use st1 (fun s3 v3 F2 H2 e4 g2 r3 => ?_) (fun c F2 H2 e4 g2 => by rw [e4] at p; exact p F2 H2 (g1.trans g2)) (fun e4 => by rw [e4] at p; exact p)
        rw [e4] at p
        match s3, r3, p with
        | .im dd, r3, p =>
          have p : Post X.K xi W F H σ Q (.ok (.im (getD' kvs kk dd))) := p
          have gg := g1.trans g2
          have hp2 := gg.hh _ _ hp
          refine ⟨_, DGet.k hp2, p _ F2 H2 gg ?_⟩
          have rg := (r.mono (gg.ff st.sm)).get (k := kk)
          show Rp X.K F2 _ (getD' kvs kk dd)
          unfold getD'
          cases ew : valV xs kk with
          | some v =>
            rw [ew] at rg
            obtain ⟨kv, e5, r5⟩ := rg
            rw [e5]
            exact r5
          | none =>
            rw [ew] at rg
            have rg : (kvs.find? fun kv => decide (kv.1 = kk)) = none := rg
            rw [rg]
            exact r3
        | .ml _, _, p => exact p.elim
        | .br _, _, p => exact p.elim
        | .ro _, _, p => exact p.elim
        | .xc _, _, p => exact p.elim
        | .dc _, _, p => exact p.elim
        | .ob _ _ _, _, p => exact p.elim
      · exact p.elim
    | .ml _, _, p => exact p.elim
    | .br _, _, p => exact p.elim
    | .ro _, _, p => exact p.elim
    | .xc _, _, p => exact p.elim
    | .dc _, _, p => exact p.elim
    | .ob _ _ _, _, p => exact p.elim
  · exact p.elim
theorem pd_disp1 (he : PD X xi W e f) (hk : PD X xi W k g) : PD X xi W (.Dict [some e] [k] pos) (eDisp1 f g) := by
  refine PE.imp (pe_disp (pps_cons he hk pps_nil) rfl rfl (by simp) (by simp)) ?_
  rintro σ H Q ⟨F0, H0, F, δ, st, p⟩
  intro a hn
  have g0 : Grow F H F (upd H a (.dK [])) := Grow.newO st.sm hn
  have st0 := st.grow g0
  unfold eDisp1 at p
  refine tD_use st0 (fun s v F1 H1 e1 g1 r1 => ?_) (fun c F1 H1 e1 g1 => by rw [e1] at p; exact p F1 H1 (g0.trans g1)) (fun e1 => by rw [e1] at p; exact p)
  rw [e1] at p
  match s, r1, p with
  | .im kd, r1, p =>
    have p : Post X.K xi W F H σ Q (match keyD kd with
      | some k => (g δ).bind fun t => imK t fun e => .ok (.dc [(k, e)])
      | none => .bad) := p
    split at p
    · rename_i kk e3
      have ey := keyD_rp e3 r1
      subst ey
      have st1 := st0.grow g1
      refine tD_use st1 (fun s3 v3 F2 H2 e4 g2 r3 => ?_) (fun c F2 H2 e4 g2 => by rw [e4] at p; exact p F2 H2 ((g0.trans g1).trans g2)) (fun e4 => by rw [e4] at p; exact p)
      rw [e4] at p
      match s3, r3, p with
      | .im dd, r3, p =>
        have p : Post X.K xi W F H σ Q (.ok (.dc [(kk, dd)])) := p
        have gg := g1.trans g2
        have ha : H2 a = some (.dK []) := gg.hh _ _ upd_same
        have nF2 : F2 a = none := (gg.ag a _ upd_same).trans (Same.none st.sm hn)
        refine ⟨ha, [(kk, v3)], rfl, by simp, ?_⟩
        refine p _ F2 (upd H2 a (.dK [(kk, v3)])) ⟨fun b o q => by rw [upd_ne (ne_of_none q nF2)]; exact gg.sm b o q, fun b o q => by rw [upd_ne (ne_of_none q hn)]; exact (g0.trans gg).hh b o q, (g0.trans gg).ag⟩ ?_
        exact ⟨a, [(kk, v3)], rfl, hn, nF2, upd_same, rfl, .cons r3 .nil⟩
      | .ml _, _, p => exact p.elim
      | .br _, _, p => exact p.elim
      | .ro _, _, p => exact p.elim
      | .xc _, _, p => exact p.elim
      | .dc _, _, p => exact p.elim
      | .ob _ _ _, _, p => exact p.elim
    · exact p.elim
  | .ml _, _, p => exact p.elim
  | .br _, _, p => exact p.elim
  | .ro _, _, p => exact p.elim
  | .xc _, _, p => exact p.elim
  | .dc _, _, p => exact p.elim
  | .ob _ _ _, _, p => exact p.elim
end
/-! ### a dict is given another name; the old one is forgotten -/
def sMvD (i j : Nat) : En → Out := fun δ => match δ[j]? with
  | some (some (.dc kvs)) => if i = j then .bad else .nx ((δ.set i (some (.dc kvs))).set j none)
  | _ => .bad
theorem Stt.mv {K : PySem.W.Frag} {xi : Xi} {F0 H0 F H : Hp} {σ : L2.St} {δ : En} {i j : Nat} {kvs : List (Key × D)} {v : V} (st : Stt K xi F0 H0 F H σ δ) (ej : δ[j]? = some (some (.dc kvs))) (ev : σ[j]? = some (some v)) (hij : i ≠ j) (hx : XiOk xi i) :
    Stt K xi F0 H0 F H (σ.set i (some v)) ((δ.set i (some (.dc kvs))).set j none) := by
  obtain ⟨v', ev', rj, _⟩ := st.sl j _ ej
  rw [ev] at ev'; cases ev'
  have st1 := (st.forget j).put (i := i) (s := .dc kvs) rj rfl (fun k u w a n e q ho ht => by
    rcases get_set e with ⟨_, _, h⟩ | ⟨nj, e⟩
    · cases h
    · exact nj (st.dg j k _ u v w a ej e ev q ht ho)) hx
  rw [List.set_comm _ _ (fun h => hij h.symm)] at st1
  exact st1
section
variable {X : Cx} {xi : Xi} {W : WX} {p2 pos pos' : Pos} {i j : Nat} {x y : Str}
theorem pds_mvD (hN : X.N.Nodup) (hx : XiOk xi i) (hi : X.N[i]? = some x := by rfl) (hj : X.N[j]? = some y := by rfl) (hl : Loc X.env.scope x := by first | exact Or.inl rfl | exact Or.inr rfl) (hv : Vis X.env.scope y := by first | exact Or.inl rfl | exact Or.inr (Or.inl rfl) | exact Or.inr (Or.inr rfl))
    (hd : (y == ("__debug__" : Str)) = false := by decide) (hcd : (y == ("__classdict__" : Str)) = false := by decide) (hs : swapsWith (.Name y p2) (some (.Name x pos')) pos.line X.env = pure false := by rfl)
    (hf : X.fn x = true ∨ X.env.scope.names.lookup x = some .local := by first | exact .inl rfl | exact .inr rfl | assumption) : PDS X xi W (.Assign [.Name x pos'] (.Name y p2) pos) (sMvD i j) :=
  PS.imp (ps_set hN hi hl (pe_var hj hv hd hcd) hs hf) (by
    rintro E σ H ⟨F0, H0, F, δ, st, p⟩
    unfold sMvD at p
    split at p
    · rename_i kvs e
      split at p
      · exact p.elim
      · rename_i hij
        obtain ⟨v, ev, _, _⟩ := st.sl j _ e
        exact ⟨v, ev, p _ F H (st.mv e ev hij hx) (Same.refl F)⟩
    · exact p.elim)
end
/-! ### for k, v in d.items(), d a dict of one's own that stands still meanwhile (and is forgotten behind) -/
def keyV : Key → D
  | .inl i => .int i
  | .inr x => .str x
def itD (kv : Key × D) : D := .tuple [keyV kv.1, kv.2]
def noX : Out → Out
  | .er _ _ => .bad
  | .rt _ => .bad
  | .rm _ _ => .bad
  | o => o
def sForIt (i : Nat) (t : Tg) (b : En → Out) : En → Out := fun δ => match δ[i]? with
  | some (some (.dc kvs)) => noX (forL t b (kvs.map itD) (δ.set i none))
  | _ => .bad
mutual
theorem Rp.sub {K : PySem.W.Frag} {F F' : Hp} (h1 : ∀ a xs, F a = some (.lst xs) → F' a = some (.lst xs)) (h2 : ∀ a xs, SqT K F a xs → SqT K F' a xs) : ∀ (d : D) (v : V), Rp K F v d → Rp K F' v d
  | .none, _, h => by cases h; exact .non
  | .bool _, _, h => by cases h; exact .bl _
  | .int _, _, h => by cases h; exact .int _
  | .str _, _, h => by cases h; exact .str _
  | .list ds, _, h => by
    cases h with
    | lst a b => exact .lst (h1 _ _ a) (RpA.sub h1 h2 ds _ b)
  | .tuple ds, _, h => by
    cases h with
    | tup a b => exact .tup (h2 _ _ a) (RpA.sub h1 h2 ds _ b)
  | .dict _, _, h => by cases h
theorem RpA.sub {K : PySem.W.Frag} {F F' : Hp} (h1 : ∀ a xs, F a = some (.lst xs) → F' a = some (.lst xs)) (h2 : ∀ a xs, SqT K F a xs → SqT K F' a xs) : ∀ (ds : List D) (vs : List V), RpA K F vs ds → RpA K F' vs ds
  | [], _, h => by cases h; exact .nil
  | d :: ds, _, h => by
    cases h with
    | cons a b => exact .cons (Rp.sub h1 h2 d _ a) (RpA.sub h1 h2 ds _ b)
end
/-- the heap without one address -/
def offA (F : Hp) (d : Addr) : Hp := fun a => if a = d then none else F a
theorem off_ne {F : Hp} {d a : Addr} (h : a ≠ d) : offA F d a = F a := by unfold offA; rw [if_neg h]
theorem off_same {F : Hp} {d : Addr} : offA F d d = none := by unfold offA; rw [if_pos rfl]
section
variable {K : PySem.W.Frag} {xi : Xi} {F0 H0 F H : Hp} {σ : L2.St} {δ : En} {d : Addr} {xs : List (Key × V)} {od : Obj}
theorem off_lst (hd : F d = some (.frz od (.dK xs))) (a : Addr) (ys : List V) (h : F a = some (.lst ys)) : offA F d a = some (.lst ys) := by
  rw [off_ne]; exact h
  intro e; subst e; rw [hd] at h; cases h
theorem off_tup (hd : F d = some (.frz od (.dK xs))) (a : Addr) (ys : List V) (h : SqT K F a ys) : SqT K (offA F d) a ys := by
  by_cases q : a = d
  · subst q
    rcases h with (h | ⟨o, h⟩) | h
    · rw [hd] at h; cases h
    · rw [hd] at h; cases h
    · exact .inr h
  · rcases h with (h | ⟨o, h⟩) | h
    · exact .inl (.inl ((off_ne q).trans h))
    · exact .inl (.inr ⟨o, (off_ne q).trans h⟩)
    · exact .inr h
theorem off_seq (hd : F d = some (.frz od (.dK xs))) (a : Addr) (ys : List V) (h : SqL K F a ys) : SqL K (offA F d) a ys := by
  by_cases q : a = d
  · subst q
    rcases h with (h | ⟨o, h⟩) | h
    · rw [hd] at h; cases h
    · rw [hd] at h; cases h
    · exact .inr h
  · rcases h with (h | ⟨o, h⟩) | h
    · exact .inl (.inl ((off_ne q).trans h))
    · exact .inl (.inr ⟨o, (off_ne q).trans h⟩)
    · exact .inr h
theorem off_sm (s : Same F H) (u : HO) : Same (offA F d) (upd H d u) := fun b o e => by
  by_cases q : b = d
  · subst q; rw [off_same] at e; cases e
  · rw [off_ne q] at e; rw [upd_ne q]; exact s b o e
theorem off_hh (s : Same H0 H) (n : H0 d = none) (u : HO) : Same H0 (upd H d u) := fun b o e => by
  rw [upd_ne (ne_of_none e n)]; exact s b o e
theorem off_ag (g : ∀ p o, H0 p = some o → F p = F0 p) (n : H0 d = none) : ∀ p o, H0 p = some o → offA F d p = F0 p := fun p o e => by
  rw [off_ne (ne_of_none e n)]; exact g p o e
theorem RepF.sub {F' H' : Hp} (h1 : ∀ a xs, F a = some (.lst xs) → F' a = some (.lst xs)) (h2 : ∀ a xs, SqT K F a xs → SqT K F' a xs) {w : V} : ∀ {f : Fv}, (∀ a ∈ ownF w f, H' a = H a) → RepF K F H w f → RepF K F' H' w f
  | .im d, _, r => Rp.sub h1 h2 d w r
  | .ml ds, h, ⟨q, ys, e, hq, r⟩ => by
    subst e
    exact ⟨q, ys, rfl, (h q (by simp [ownF])).trans hq, RpA.sub h1 h2 _ _ r⟩
  | .dc kvs, h, ⟨q, ys, e, hq, r⟩ => by
    subst e
    exact ⟨q, ys, rfl, (h q (by simp [ownF])).trans hq, r.1, RpA.sub h1 h2 _ _ r.2⟩
  | .un, _, _ => trivial
theorem RepFs.sub {F' H' : Hp} (h1 : ∀ a xs, F a = some (.lst xs) → F' a = some (.lst xs)) (h2 : ∀ a xs, SqT K F a xs → SqT K F' a xs) : ∀ {xs : List (Str × V)} {fs : List (Str × Fv)}, (∀ a ∈ ownFs xs fs, H' a = H a) → RepFs K F H xs fs → RepFs K F' H' xs fs
  | [], [], _, _ => trivial
  | [], _ :: _, _, r => r.elim
  | _ :: _, [], _, r => r.elim
  | x :: xs, f :: fs, h, ⟨r1, r2, r3⟩ => ⟨r1, r2.sub h1 h2 fun a ha => h a (List.mem_append_left _ ha), RepFs.sub h1 h2 (fun a ha => h a (List.mem_append_right _ ha)) r3⟩
theorem RepO.sub {N N' : Addr → Prop} {F' H' : Hp} {p : Addr} {C : Str} {fs : List (Str × Fv)} (h1 : ∀ a xs, F a = some (.lst xs) → F' a = some (.lst xs)) (h2 : ∀ a xs, SqT K F a xs → SqT K F' a xs) (h : ∀ a, OwO H p fs a → H' a = H a) (hN : ∀ a, OwO H p fs a → N a → N' a) : RepO K N F H p C fs → RepO K N' F' H' p C fs
  | ⟨dx, xs, e1, e2, r, nd, hn⟩ => by
    have hw : ∀ a, a ∈ p :: dx :: ownFs xs fs → OwO H p fs a := fun a ha => (OwO.iff e1).mpr ha
    refine ⟨dx, xs, (h p (hw p (by simp))).trans e1, (h dx (hw dx (by simp))).trans e2, r.sub h1 h2 fun a ha => h a (hw a (by simp [ha])), nd, fun a ha => hN a (hw a ha) (hn a ha)⟩
theorem RepR.offd {v : V} (u : HO) (hd : F d = some (.frz od (.dK xs))) : ∀ {s : Sl}, s.keep = true → s.bor = false → RepR K H0 F H v s → RepR K H0 (offA F d) (upd H d u) v s
  | .im _, _, _, r => Rp.sub (off_lst hd) (off_tup hd) _ _ r
  | .ml ds, _, _, ⟨p, ys, e, n, f, h, r⟩ => by
    have q : p ≠ d := fun z => by subst z; rw [hd] at f; cases f
    exact ⟨p, ys, e, n, (off_ne q).trans f, (upd_ne q).trans h, RpA.sub (off_lst hd) (off_tup hd) _ _ r⟩
  | .dc ds, _, _, ⟨p, ys, e, n, f, h, r⟩ => by
    have q : p ≠ d := fun z => by subst z; rw [hd] at f; cases f
    exact ⟨p, ys, e, n, (off_ne q).trans f, (upd_ne q).trans h, r.1, RpA.sub (off_lst hd) (off_tup hd) _ _ r.2⟩
  | .br _, s, _, _ => nomatch s
  | .ro ns, _, _, ⟨p, e, h⟩ => ⟨p, e, off_seq hd _ _ h⟩
  | .xc _, _, _, _ => trivial
  | .ob true c fs, _, _, ⟨p, e, r⟩ => by
    have q : ∀ a, OwO H p fs a → a ≠ d := fun a ha z => by
      have := (r.new ha).1.2
      rw [z, hd] at this; cases this
    exact ⟨p, e, r.sub (off_lst hd) (off_tup hd) (fun a ha => upd_ne (q a ha)) (fun a ha n => ⟨n.1, (off_ne (q a ha)).trans n.2⟩)⟩
  | .ob false _ _, _, b, _ => nomatch b
theorem Stt.unlock (st : Stt K xi F0 H0 F H σ δ) (u : HO) (n : H0 d = none) (hd : F d = some (.frz od (.dK xs))) : Stt K xi F0 H0 (offA F d) (upd H d u) σ δ := by
  have ne : ∀ (i : Nat) (s : Sl) (v : V) (a : Addr), δ[i]? = some (some s) → σ[i]? = some (some v) → Ow H v s a → a ≠ d := fun i s v a e ev ha z => by
    obtain ⟨v', ev', r, _⟩ := st.sl i s e
    rw [ev] at ev'; cases ev'
    have := (Ow.new r ha).1.2
    rw [z, hd] at this; cases this
  have pb' : ∀ (i : Nat) (c : Str) (fs : List (Str × Fv)), δ[i]? = some (some (Sl.ob false c fs)) → ∃ p : Addr, σ[i]? = some (some (.ref p)) ∧ RepO K Any (offA F d) H0 p c fs := fun i c fs e => by
    obtain ⟨p, ep, rp⟩ := st.pb i c fs e
    exact ⟨p, ep, rp.sub (off_lst hd) (off_tup hd) (fun _ _ => rfl) (fun _ _ n => n)⟩
  refine ⟨off_sm st.sm u, off_hh st.hh n u, off_ag st.ag n, st.ln, fun i s e => ?_, fun i j s t v w a e1 e2 q1 q2 o1 o2 => ?_, st.xi, pb'⟩
  · obtain ⟨v, ev, r, q⟩ := st.sl i s e
    refine ⟨v, ev, ?_, q⟩
    by_cases b : s.bor = true
    · obtain ⟨c, fs, rfl⟩ : ∃ (c : Str) (fs : List (Str × Fv)), s = .ob false c fs := by
        cases s with
        | ob o c fs => cases o with
          | false => exact ⟨c, fs, rfl⟩
          | true => cases b
        | _ => cases b
      obtain ⟨p, ep, rp⟩ := pb' i c fs e
      rw [ev] at ep; cases ep
      exact ⟨p, rfl, rp.later (off_hh st.hh n u) (Same.refl _)⟩
    · exact r.offd u hd q (by simpa using b)
  · obtain ⟨v', ev, r, _⟩ := st.sl i s e1
    rw [q1] at ev; cases ev
    obtain ⟨w', ew, r2, _⟩ := st.sl j t e2
    rw [q2] at ew; cases ew
    exact st.dg i j s t v w a e1 e2 q1 q2 ((Ow.frame r fun b hb => upd_ne (ne i s v b e1 q1 hb)).mp o1) ((Ow.frame r2 fun b hb => upd_ne (ne j t w b e2 q2 hb)).mp o2)
/-- the dict is locked -/
theorem Stt.lock (st : Stt K xi F0 H0 F H σ δ) {i : Nat} {kvs : List (Key × D)} (e : δ[i]? = some (some (.dc kvs))) (ev : σ[i]? = some (some (.ref d))) (nF : F d = none) (u : HO) (n0 : H0 d = none) : Stt K xi F0 H0 (upd F d u) (upd H d u) σ (δ.set i none) :=
  (st.forget i).keeps (fun b o q => by
      by_cases z : b = d
      · subst z; rw [upd_same] at q ⊢; exact q
      · rw [upd_ne z] at q ⊢; exact st.sm b o q) (fun b o q => by rw [upd_ne (ne_of_none q n0)]; exact st.hh b o q) (fun b o q => (upd_ne (ne_of_none q n0)).trans (st.ag b o q)) (Same.new nF)
    fun j s v a ej evj ha => by
      rcases get_set ej with ⟨_, _, h⟩ | ⟨n, ej⟩
      · cases h
      · have ne : a ≠ d := fun z => n (st.dg i j _ s _ v a e ej ev evj (by rw [z]; rfl) ha)
        exact ⟨upd_ne ne, upd_ne ne⟩
end
/-- what is seen of the ends while the dict is locked -/
theorem PostS.lock {K : PySem.W.Frag} {xi : Xi} {W : WX} {F0 H0 F H : Hp} {E : Ends} {o : Out} {d : Addr} {xs : List (Key × V)} {od : Obj} (n0 : H0 d = none) (nF : F d = none) (p : PostS K xi W F0 H0 F H E (noX o)) :
    PostS K xi W F0 H0 (upd F d (.frz od (.dK xs))) (upd H d (.frz od (.dK xs))) ⟨fun σ' H' => H' d = some (.frz od (.dK xs)) ∧ E.nx σ' (upd H' d (.dK xs)), fun v H' => H' d = some (.frz od (.dK xs)) ∧ E.rt v (upd H' d (.dK xs)), fun σ' H' => H' d = some (.frz od (.dK xs)) ∧ E.bk σ' (upd H' d (.dK xs)), fun σ' H' => H' d = some (.frz od (.dK xs)) ∧ E.ct σ' (upd H' d (.dK xs))⟩ o := by
  have back : ∀ {F' : Hp}, Same (upd F d (.frz od (.dK xs))) F' → F' d = some (.frz od (.dK xs)) ∧ Same F (offA F' d) := fun {F'} s => by
    refine ⟨s _ _ upd_same, fun b o e => ?_⟩
    have ne : b ≠ d := fun z => by subst z; rw [nF] at e; cases e
    rw [off_ne ne]
    exact s b o (by rw [upd_ne ne]; exact e)
  cases o with
  | nx δ => exact fun σ' F' H' st s => ⟨st.sm _ _ (back s).1, p σ' _ _ (st.unlock _ n0 (back s).1) (back s).2⟩
  | bk δ => exact fun σ' F' H' st s => ⟨st.sm _ _ (back s).1, p σ' _ _ (st.unlock _ n0 (back s).1) (back s).2⟩
  | ct δ => exact fun σ' F' H' st s => ⟨st.sm _ _ (back s).1, p σ' _ _ (st.unlock _ n0 (back s).1) (back s).2⟩
  | rt v => exact p.elim
  | rm d δ => exact p.elim
  | er c δ => exact p.elim
  | bad => exact p
theorem iti_ok {K : PySem.W.Frag} {F H : Hp} {d : Addr} {od : Obj} {xs : List (Key × V)} {kvs : List (Key × D)} (hd : F d = some (.frz od (.dK xs))) (r : RpK K F xs kvs) : ItOk K (zF F H) (Iti d od xs) (kvs.map itD) where
  go := fun i F' H' q s hi => ⟨s _ _ (q _ _ hd), by rw [r.length]; simpa using hi⟩
  stop := fun F' H' q s => ⟨s _ _ (q _ _ hd), by rw [r.length, List.length_map]; exact Nat.le_refl _⟩
  yld := fun i e F' H' x H'' q s he ⟨T, k, v, hx, ex, hT, eH⟩ => by
    subst ex eH
    rw [List.getElem?_map] at he
    obtain ⟨kv, hk, rfl⟩ := Option.map_eq_some_iff.mp he
    have ek : k = kv.1 := by
      have a : (xs.map (·.1))[i]? = some k := by rw [List.getElem?_map, hx]; rfl
      have b : (kvs.map (·.1))[i]? = some kv.1 := by rw [List.getElem?_map, hk]; rfl
      rw [r.1, b] at a
      cases a; rfl
    obtain ⟨e2, h2, r2⟩ := (RpA.mono q _ _ r.2).getV (i := i) (v := v) (by rw [List.getElem?_map, hx]; rfl)
    rw [List.getElem?_map, hk] at h2
    cases h2
    have n := Same.new (o := .tup [kV k, v]) (Same.none s hT)
    refine ⟨_, Grow.new s hT, .tup (SqT.of upd_same) (.cons ?_ (.cons (Rp.mono n _ _ r2) .nil))⟩
    subst ek
    cases kv.1 with
    | inl a => exact .int a
    | inr a => exact .str a
section
variable {X : Cx} {xi : Xi} {W : WX} {b : En → Out} {pos p1 apos cpos tpos : Pos} {A : List Stmt} {t : Tg} {i kk : Nat} {elts : List Expr} {x : Str}
theorem pds_forIt (hp : PassesOwn (model X.prog X.w) X.A X.env X.xe) (hc : X.calm = true) (hg : PDG X xi (.Tuple elts kk tpos) t) (hb : PDB X xi W A b) (hN : X.N[i]? = some x := by rfl) (hv : Vis X.env.scope x := by first | exact Or.inl rfl | exact Or.inr (Or.inl rfl) | exact Or.inr (Or.inr rfl))
    (hd : (x == ("__debug__" : Str)) = false := by decide) (hcd : (x == ("__classdict__" : Str)) = false := by decide) (hba : attributeBase (.Name x p1) "items" X.env (eval (.Name x p1) X.env) = eval (.Name x p1) X.env := by rfl) (hli : (apos.endLine == cpos.line) = true := by rfl)
    (hs : ∀ z, foldedSetIterable (.Call (.Attribute (.Name x p1) "items" apos) [] [] cpos) X.env z = pure z := by intro _; rfl) :
    PDS X xi W (.For (.Tuple elts kk tpos) (.Call (.Attribute (.Name x p1) "items" apos) [] [] cpos) A [] pos) (sForIt i t b) := by
  refine PS.imp (ps_lock (ps_for hp hc (pi_items (pe_var hN hv hd hcd) hba hli) hg hb hs)) ?_
  rintro E σ H ⟨F0, H0, F, δ, st, p⟩
  unfold sForIt at p
  split at p
  · rename_i kvs e2
    obtain ⟨vo, ev, ⟨pp, xs, rfl, n0, nF, hpp, r⟩, _⟩ := st.sl i _ e2
    refine ⟨pp, .dK xs, hpp, trivial, fun od => ?_⟩
    have st1 := st.lock e2 ev nF (.frz od (.dK xs)) n0
    have p1 := PostS.lock (od := od) (xs := xs) n0 nF p
    have hF : upd F pp (.frz od (.dK xs)) pp = some (.frz od (.dK xs)) := upd_same
    refine ⟨_, ev, pp, od, xs, rfl, upd_same, ?_⟩
    have j := iti_ok (H := upd H pp (.frz od (.dK xs))) hF (r.mono (Same.new nF))
    generalize (⟨fun σ' H' => H' pp = some (.frz od (.dK xs)) ∧ E.nx σ' (upd H' pp (.dK xs)), fun v H' => H' pp = some (.frz od (.dK xs)) ∧ E.rt v (upd H' pp (.dK xs)), fun σ' H' => H' pp = some (.frz od (.dK xs)) ∧ E.bk σ' (upd H' pp (.dK xs)), fun σ' H' => H' pp = some (.frz od (.dK xs)) ∧ E.ct σ' (upd H' pp (.dK xs))⟩ : Ends) = E1 at p1 ⊢
    generalize upd F pp (.frz od (.dK xs)) = F1 at *
    generalize upd H pp (.frz od (.dK xs)) = H1 at *
    generalize kvs.map itD = ds at *
    generalize δ.set i none = δ1 at *
    refine ⟨fun i m σ H => m = ds.length - i ∧ i ≤ ds.length ∧ ∃ F' δ, Stt X.K xi F0 H0 F' H σ δ ∧ Same F1 F' ∧ PostS X.K xi W F0 H0 F' H E1 (forL t b (ds.drop i) δ), ⟨_, rfl, Nat.zero_le _, F1, δ1, st1, Same.refl F1, p1⟩, ?_⟩
    rintro i m σ2 H2 ⟨rfl, hi, F', δ', st', s', q⟩
    by_cases hlt : i < ds.length
    · have hd : ds[i]? = some ds[i] := List.getElem?_eq_getElem hlt
      rw [forL_drop hd] at q
      refine .inr ⟨j.go i F' H2 s' st'.sm hlt, fun σ' H' => ∃ F' δ, Stt X.K xi F0 H0 F' H' σ' δ ∧ Same F1 F' ∧ PostS X.K xi W F0 H0 F' H' E1 (forL t b (ds.drop (i + 1)) δ), fun σ' H' h => ⟨ds.length - (i + 1), by omega, rfl, hlt, h⟩, fun x H3 y => ?_⟩
      obtain ⟨F3, g3, rx⟩ := j.yld i _ F' H2 x H3 s' st'.sm hd y
      cases e2 : t (.im ds[i]) δ' with
      | none => rw [e2] at q; exact q.elim
      | some δ1 =>
        rw [e2] at q
        refine ⟨F0, H0, F', H2, F3, δ', .im ds[i], δ1, st', g3, rx, e2, fun σ4 F4 st4 s4 => ⟨F0, H0, F4, δ1, st4, ?_⟩⟩
        exact lp_step (PostS.later (H1 := H3) q s4) fun σ5 F5 H5 δ5 st5 s5 q5 => ⟨F5, δ5, st5, (s'.trans s4).trans s5, q5⟩
    · have e : i = ds.length := by omega
      subst e
      rw [List.drop_length] at q
      exact .inl ⟨j.stop F' H2 s' st'.sm, q σ2 F' H2 st' (Same.refl F')⟩
  · exact p.elim
end
end DL

namespace DL
open PySem PySem.Spec PyProof.Rows L2
/-! ### the fields of an object -/
def putFv (f : Str) (v : Fv) : List (Str × Fv) → List (Str × Fv)
  | [] => [(f, v)]
  | (g, x) :: r => if g = f then (g, v) :: r else (g, x) :: putFv f v r
section
variable {K : PySem.W.Frag} {F F' H H' : Hp}
theorem RepFs.get : ∀ {xs : List (Str × V)} {fs : List (Str × Fv)} {f : Str} {fv : Fv}, RepFs K F H xs fs → fs.lookup f = some fv → ∃ w, xs.lookup f = some w ∧ RepF K F H w fv ∧ ∀ a ∈ ownF w fv, a ∈ ownFs xs fs
  | [], [], _, _, _, e => by simp at e
  | [], _ :: _, _, _, r, _ => r.elim
  | _ :: _, [], _, _, r, _ => r.elim
  | (k, x) :: xs, (k', g) :: fs, f, fv, ⟨r1, r2, r3⟩, e => by
    have r1 : k = k' := r1
    subst r1
    by_cases h : f = k
    · have hb : (f == k) = true := beq_iff_eq.mpr h
      simp only [List.lookup, hb] at e ⊢
      cases e
      exact ⟨x, rfl, r2, fun a ha => List.mem_append_left _ ha⟩
    · have hb : (f == k) = false := beq_eq_false_iff_ne.mpr h
      simp only [List.lookup, hb] at e ⊢
      obtain ⟨w, h1, h2, h3⟩ := RepFs.get r3 e
      exact ⟨w, h1, h2, fun a ha => List.mem_append_right _ (h3 a ha)⟩
theorem ownF_le {w : V} {f : Fv} : (ownF w f).Nodup := by
  unfold ownF; split <;> simp
/-- a field is stored -/
theorem RepFs.put {f : Str} {v : V} {fv : Fv} (rv : RepF K F H v fv) : ∀ {xs : List (Str × V)} {fs : List (Str × Fv)}, RepFs K F H xs fs → RepFs K F H (putF f v xs) (putFv f fv fs) ∧
    (∀ a ∈ ownFs (putF f v xs) (putFv f fv fs), a ∈ ownFs xs fs ∨ a ∈ ownF v fv) ∧ ((ownFs xs fs).Nodup → (∀ a ∈ ownF v fv, a ∉ ownFs xs fs) → (ownFs (putF f v xs) (putFv f fv fs)).Nodup)
  | [], [], _ => ⟨⟨rfl, rv, trivial⟩, fun a ha => .inr (by simpa [putF, putFv, ownFs] using ha), fun _ _ => by simpa [putF, putFv, ownFs] using ownF_le⟩
  | [], _ :: _, r => r.elim
  | _ :: _, [], r => r.elim
  | (k, x) :: xs, (k', g) :: fs, ⟨r1, r2, r3⟩ => by
    have r1 : k = k' := r1
    subst r1
    by_cases h : k = f
    · have e1 : putF f v ((k, x) :: xs) = (k, v) :: xs := if_pos h
      have e2 : putFv f fv ((k, g) :: fs) = (k, fv) :: fs := if_pos h
      rw [e1, e2]
      refine ⟨⟨rfl, rv, r3⟩, fun a ha => ?_, fun nd hn => ?_⟩
      · rcases List.mem_append.mp ha with ha | ha
        · exact .inr ha
        · exact .inl (List.mem_append_right _ ha)
      · show (ownF v fv ++ ownFs xs fs).Nodup
        have nd : (ownF x g ++ ownFs xs fs).Nodup := nd
        rw [List.nodup_append] at nd ⊢
        exact ⟨ownF_le, nd.2.1, fun a ha b hb e => hn a ha (List.mem_append_right _ (e ▸ hb))⟩
    · have e1 : putF f v ((k, x) :: xs) = (k, x) :: putF f v xs := if_neg h
      have e2 : putFv f fv ((k, g) :: fs) = (k, g) :: putFv f fv fs := if_neg h
      rw [e1, e2]
      obtain ⟨i1, i2, i3⟩ := RepFs.put rv r3
      refine ⟨⟨rfl, r2, i1⟩, fun a ha => ?_, fun nd hn => ?_⟩
      · rcases List.mem_append.mp ha with ha | ha
        · exact .inl (List.mem_append_left _ ha)
        · rcases i2 a ha with h | h
          · exact .inl (List.mem_append_right _ h)
          · exact .inr h
      · have nd : (ownF x g ++ ownFs xs fs).Nodup := nd
        show (ownF x g ++ ownFs (putF f v xs) (putFv f fv fs)).Nodup
        rw [List.nodup_append] at nd ⊢
        refine ⟨nd.1, i3 nd.2.1 fun a ha hb => hn a ha (List.mem_append_right _ hb), fun a ha b hb e => ?_⟩
        rcases i2 b hb with hb | hb
        · exact nd.2.2 a ha b hb e
        · exact hn b hb (List.mem_append_left _ (e ▸ ha))
/-- the list or dict of a field is changed in place -/
theorem RepFs.mut {f : Str} {q : Addr} {u : HO} {fv fv' : Fv} (rv : RepF K F (upd H q u) (.ref q) fv') (o1 : ownF (.ref q) fv = [q]) (o2 : ownF (.ref q) fv' = [q]) : ∀ {xs : List (Str × V)} {fs : List (Str × Fv)}, RepFs K F H xs fs → (ownFs xs fs).Nodup → fs.lookup f = some fv → xs.lookup f = some (.ref q) →
    RepFs K F (upd H q u) xs (putFv f fv' fs) ∧ ownFs xs (putFv f fv' fs) = ownFs xs fs
  | [], [], _, _, e, _ => by simp at e
  | [], _ :: _, r, _, _, _ => r.elim
  | _ :: _, [], r, _, _, _ => r.elim
  | (k, x) :: xs, (k', g) :: fs, ⟨r1, r2, r3⟩, nd, e, e' => by
    have r1 : k = k' := r1
    subst r1
    have nd : (ownF x g ++ ownFs xs fs).Nodup := nd
    rw [List.nodup_append] at nd
    by_cases h : f = k
    · have hb : (f == k) = true := beq_iff_eq.mpr h
      simp only [List.lookup, hb] at e e'
      cases e; cases e'
      have e2 : putFv f fv' ((k, fv) :: fs) = (k, fv') :: fs := if_pos h.symm
      rw [e2]
      refine ⟨⟨rfl, rv, r3.frame (Same.refl F) fun a ha => upd_ne fun z => ?_⟩, ?_⟩
      · exact nd.2.2 q (by rw [o1]; simp) a ha z.symm
      · show ownF (.ref q) fv' ++ _ = ownF (.ref q) fv ++ _
        rw [o1, o2]
    · have hb : (f == k) = false := beq_eq_false_iff_ne.mpr h
      simp only [List.lookup, hb] at e e'
      have e2 : putFv f fv' ((k, g) :: fs) = (k, g) :: putFv f fv' fs := if_neg fun z => h z.symm
      rw [e2]
      obtain ⟨i1, i2⟩ := RepFs.mut rv o1 o2 r3 nd.2.1 e e'
      have hq : q ∈ ownFs xs fs := by
        obtain ⟨w, h1, _, h3⟩ := RepFs.get r3 e
        rw [e'] at h1; cases h1
        exact h3 q (by rw [o1]; simp)
      refine ⟨⟨rfl, r2.frame (Same.refl F) fun a ha => upd_ne fun z => ?_, i1⟩, ?_⟩
      · exact nd.2.2 a ha q hq z
      · show ownF x g ++ _ = ownF x g ++ _
        rw [i2]
end
/-- the slot's object -/
theorem Stt.obj {K : PySem.W.Frag} {xi : Xi} {F0 H0 F H : Hp} {σ : L2.St} {δ : En} (st : Stt K xi F0 H0 F H σ δ) {i : Nat} {b : Bool} {c : Str} {fs : List (Str × Fv)} (e : δ[i]? = some (some (.ob b c fs))) : ∃ p, σ[i]? = some (some (.ref p)) ∧ RepO K Any F H p c fs := by
  obtain ⟨v, ev, r, _⟩ := st.sl i _ e
  cases b with
  | true =>
    obtain ⟨p, rfl, r⟩ := r
    exact ⟨p, ev, r.imp fun _ _ => trivial⟩
  | false =>
    obtain ⟨p, rfl, r⟩ := r
    exact ⟨p, ev, r⟩
def fldO (o : Option (Option Sl)) (c : Str) (g : List (Str × Fv) → Rs Sl) : Rs Sl := match o with
  | some (some (.ob _ c' fs)) => if c' = c then g fs else .bad
  | _ => .bad
def fvS : Option Fv → Rs Sl
  | some (.im d) => .ok (.im d)
  | some (.ml ds) => .ok (.br ds)
  | _ => .bad
/-- e.f: data, or a list that is read -/
def eFld (i : Nat) (c f : Str) : En → Rs Sl := fun δ => fldO δ[i]? c fun fs => fvS (fs.lookup f)
theorem fldO_ok {o : Option (Option Sl)} {c : Str} {g : List (Str × Fv) → Rs Sl} : (∃ b fs, o = some (some (.ob b c fs)) ∧ fldO o c g = g fs) ∨ fldO o c g = .bad := by
  unfold fldO
  split
  · rename_i b c' fs
    by_cases h : c' = c
    · subst h; exact .inl ⟨b, fs, rfl, if_pos rfl⟩
    · exact .inr (if_neg h)
  · exact .inr rfl
section
variable {X : Cx} {xi : Xi} {W : WX} {e k : Expr} {f g : En → Rs Sl} {p1 p2 p3 pos pos' apos cpos : Pos} {i : Nat} {x : Str} {c n : Str}
theorem pd_fld (hc : Cls X.K (He.ga X.K c)) (hn : NoAttr X.K (He.ga X.K c) n) (hN : X.N[i]? = some x := by rfl) (hv : Vis X.env.scope x := by first | exact Or.inl rfl | exact Or.inr (Or.inl rfl) | exact Or.inr (Or.inr rfl))
    (hd : (x == ("__debug__" : Str)) = false := by decide) (hcd : (x == ("__classdict__" : Str)) = false := by decide)
    (hb : attributeBase (.Name x p1) n X.env (eval (.Name x p1) X.env) = eval (.Name x p1) X.env := by rfl) : PD X xi W (.Attribute (.Name x p1) n pos) (eFld i c n) := by
  refine PE.imp (pe_fld (pe_var hN hv hd hcd) hb) ?_
  rintro σ H Q ⟨F0, H0, F, δ, st, p⟩
  unfold eFld at p
  rcases fldO_ok (o := δ[i]?) (c := c) (g := fun fs => fvS (fs.lookup n)) with ⟨b, fs, e1, e2⟩ | e2
  · rw [e2] at p
    obtain ⟨a, ea, dx, xs, h1, h2, r, nd, _⟩ := st.obj e1
    cases hl : fs.lookup n with
    | none => rw [hl] at p; exact p.elim
    | some fv =>
      rw [hl] at p
      obtain ⟨w, hw, rw', _⟩ := r.get hl
      refine ⟨_, ea, a, _, dx, xs, w, rfl, h1, hc, hn, hw, ?_⟩
      cases fv with
      | im d => exact p w F H (Grow.refl st.sm) rw'
      | ml ds =>
        obtain ⟨q, ys, rfl, hq, ra⟩ := rw'
        exact p _ F H (Grow.refl st.sm) ⟨q, ys, rfl, hq, ra⟩
      | dc kvs => exact p.elim
      | un => exact p.elim
  · rw [e2] at p; exact p.elim
/-- e in o.f, a dict -/
def fvIn (o : Option Fv) (d : D) : Rs Sl := match o, keyD d with
  | some (.dc kvs), some k => .ok (.im (.bool (hasD kvs k)))
  | _, _ => .bad
def eFDIn (i : Nat) (c n : Str) (f : En → Rs Sl) : En → Rs Sl := fun δ => (f δ).bind fun s => imK s fun d => fldO δ[i]? c fun fs => fvIn (fs.lookup n) d
theorem fdin_of {K : PySem.W.Frag} (hc : Cls K (He.ga K c)) (hn : NoAttr K (He.ga K c) n) : ∀ σ H Q, tD K xi W (eFDIn i c n f) σ H Q → tDIn (tD K xi W f) (tFld K (tVar i) n) σ H Q := by
  rintro σ H Q ⟨F0, H0, F, δ, st, p⟩
  refine tD_use st (fun s v F1 H1 e1 g1 r1 => ?_) (fun c F1 H1 e1 g1 => by simp only [eFDIn, e1, Rs.bind] at p; exact p F1 H1 g1) (fun e1 => by simp only [eFDIn, e1, Rs.bind] at p; exact p)
  simp only [eFDIn, e1, Rs.bind] at p
  match s, r1, p with
  | .im d, r1, p =>
    have p : Post K xi W F H σ Q (fldO δ[i]? c fun fs => fvIn (fs.lookup n) d) := p
    rcases fldO_ok (o := δ[i]?) (c := c) (g := fun fs => fvIn (fs.lookup n) d) with ⟨b, fs, e2, e3⟩ | e3
    · rw [e3] at p
      obtain ⟨a, ea, dx, xs, h1, h2, r, nd, _⟩ := (st.grow g1).obj e2
      unfold fvIn at p
      split at p
      · rename_i kvs kk hl hk
        obtain ⟨w, hw, ⟨q, ys, rfl, hq, rk⟩, _⟩ := r.get hl
        have ey := keyD_rp hk r1
        subst ey
        refine ⟨_, ea, a, _, dx, xs, _, rfl, h1, hc, hn, hw, q, _, rfl, DGet.k hq, ?_⟩
        rw [← valV_any, rk.any kk]
        exact p _ F1 H1 g1 (.bl _)
      · exact p.elim
    · rw [e3] at p; exact p.elim
  | .ml _, _, p => exact p.elim
  | .br _, _, p => exact p.elim
  | .ro _, _, p => exact p.elim
  | .xc _, _, p => exact p.elim
  | .dc _, _, p => exact p.elim
  | .ob _ _ _, _, p => exact p.elim
theorem pd_fdin (hu : X.A.units + 1 < cLine) (hc : Cls X.K (He.ga X.K c)) (hn : NoAttr X.K (He.ga X.K c) n) (he : PD X xi W e f) (hN : X.N[i]? = some x := by rfl) (hv : Vis X.env.scope x := by first | exact Or.inl rfl | exact Or.inr (Or.inl rfl) | exact Or.inr (Or.inr rfl))
    (hd : (x == ("__debug__" : Str)) = false := by decide) (hcd : (x == ("__classdict__" : Str)) = false := by decide)
    (hb : attributeBase (.Name x p1) n X.env (eval (.Name x p1) X.env) = eval (.Name x p1) X.env := by rfl) (hm : behindInMarks .In (.Attribute (.Name x p1) n p2) = false := by rfl) : PD X xi W (.Compare e [.In] [.Attribute (.Name x p1) n p2] pos) (eFDIn i c n f) :=
  PE.imp (pe_cmp (pc_din hu he (pe_fld (pe_var hN hv hd hcd) hb)) hm) (fdin_of hc hn)
theorem pt_fdin (hu : X.A.units + 1 < cLine) (hc : Cls X.K (He.ga X.K c)) (hn : NoAttr X.K (He.ga X.K c) n) (he : PD X xi W e f) (hN : X.N[i]? = some x := by rfl) (hv : Vis X.env.scope x := by first | exact Or.inl rfl | exact Or.inr (Or.inl rfl) | exact Or.inr (Or.inr rfl))
    (hd : (x == ("__debug__" : Str)) = false := by decide) (hcd : (x == ("__classdict__" : Str)) = false := by decide)
    (hb : attributeBase (.Name x p1) n X.env (eval (.Name x p1) X.env) = eval (.Name x p1) X.env := by rfl) (hm : behindInMarks .In (.Attribute (.Name x p1) n p2) = false := by rfl) : PDT X xi W (.Compare e [.In] [.Attribute (.Name x p1) n p2] pos) (cTest (eFDIn i c n f)) :=
  PT.imp (L2.pt_cmp (pc_din hu he (pe_fld (pe_var hN hv hd hcd) hb)) hm) fun σ H Q q => fdin_of hc hn σ H _ (tTest_of σ H Q q)
end
end DL

namespace DL
open PySem PySem.Spec PyProof.Rows L2
/-! ### objects that change -/
def fvOf : Sl → Option Fv
  | .im d => some (.im d)
  | .ml ds => some (.ml ds)
  | .dc kvs => some (.dc kvs)
  | _ => none
section
variable {K : PySem.W.Frag} {xi : Xi} {F0 H0 F H F1 H1 : Hp} {σ : L2.St} {δ : En} {i : Nat} {c n : Str} {fs : List (Str × Fv)} {p dx : Addr} {xs : List (Str × V)}
theorem RepR.fv {v : V} {s : Sl} {fv : Fv} (r : RepR K H F1 H1 v s) (e : fvOf s = some fv) : RepF K F1 H1 v fv ∧ ∀ a ∈ ownF v fv, Nw H F1 a ∧ ∃ o, H1 a = some o := by
  cases s with
  | im d => cases e; exact ⟨r, fun a ha => by cases v <;> cases ha⟩
  | ml ds =>
    cases e
    obtain ⟨q, ys, rfl, n, f, h, ra⟩ := r
    refine ⟨⟨q, ys, rfl, h, ra⟩, fun a ha => ?_⟩
    have : a = q := by simpa [ownF] using ha
    subst this
    exact ⟨⟨n, f⟩, _, h⟩
  | dc kvs =>
    cases e
    obtain ⟨q, ys, rfl, n, f, h, ra⟩ := r
    refine ⟨⟨q, ys, rfl, h, ra⟩, fun a ha => ?_⟩
    have : a = q := by simpa [ownF] using ha
    subst this
    exact ⟨⟨n, f⟩, _, h⟩
  | _ => cases e
/-- a field is stored -/
theorem Stt.fput (st : Stt K xi F0 H0 F H σ δ) (e : δ[i]? = some (some (.ob true c fs))) (ev : σ[i]? = some (some (.ref p))) (r : RepO K (Nw H0 F) F H p c fs) (hp : H p = some (.ins (He.ga K c) dx xs)) (g : Grow F H F1 H1) {v : V} {s : Sl} {fv : Fv} (rv : RepR K H F1 H1 v s) (hv : fvOf s = some fv) :
    Stt K xi F0 H0 F1 (upd H1 p (.ins (He.ga K c) dx (putF n v xs))) σ (δ.set i (some (.ob true c (putFv n fv fs)))) := by
  obtain ⟨dx', xs', h1, h2, rf, nd, hn⟩ := r
  rw [hp] at h1; cases h1
  obtain ⟨rv1, rv2⟩ := rv.fv hv
  have ff := g.ff st.sm
  have own1 : ∀ a, a ∈ p :: dx :: ownFs xs fs → Ow H (.ref p) (.ob true c fs) a := fun a ha => ⟨p, rfl, (OwO.iff hp).mpr ha⟩
  have hpN := hn p (by simp)
  have hF1 : F1 p = none := (g.ag _ _ hp).trans hpN.2
  have pne : ∀ a, a ∈ dx :: ownFs xs fs → a ≠ p := fun a ha z => by
    have := (List.nodup_cons.mp nd).1
    exact this (z ▸ ha)
  have vne : ∀ a ∈ ownF v fv, a ≠ p := fun a ha z => by
    have := (rv2 a ha).1.1
    rw [z, hp] at this; cases this
  have rfs1 : RepFs K F1 H1 xs fs := rf.frame ff fun a ha => by
    obtain ⟨o, ho⟩ := rf.mem ha
    rw [ho]; exact g.hh _ _ ho
  obtain ⟨q1, q2, q3⟩ := RepFs.put (f := n) rv1 rfs1
  have vnew : ∀ a ∈ ownF v fv, a ∉ dx :: ownFs xs fs := fun a ha hb => by
    have h0 := (rv2 a ha).1.1
    rcases List.mem_cons.mp hb with rfl | hb
    · rw [h2] at h0; cases h0
    · obtain ⟨o, ho⟩ := rf.mem hb
      rw [ho] at h0; cases h0
  have hnew : upd H1 p (.ins (He.ga K c) dx (putF n v xs)) p = some (.ins (He.ga K c) dx (putF n v xs)) := upd_same
  have nd2 := List.nodup_cons.mp (List.nodup_cons.mp nd).2
  have ndn : (p :: dx :: ownFs (putF n v xs) (putFv n fv fs)).Nodup := by
    rw [List.nodup_cons, List.nodup_cons]
    refine ⟨fun h => ?_, fun h => ?_, q3 nd2.2 fun a ha hb => vnew a ha (List.mem_cons_of_mem _ hb)⟩
    · rcases List.mem_cons.mp h with h | h
      · exact pne dx (by simp) h.symm
      · rcases q2 p h with h | h
        · exact pne p (List.mem_cons_of_mem _ h) rfl
        · exact vne p h rfl
    · rcases q2 dx h with h | h
      · exact nd2.1 h
      · exact vnew dx h (by simp)
  refine st.chng e ev (fun b o q => by rw [upd_ne (ne_of_none q hF1)]; exact g.sm b o q) (fun b o q => by rw [upd_ne (ne_of_none q hpN.1)]; exact g.hh _ _ (st.hh b o q)) (fun b o q => (g.ag _ _ (st.hh b o q)).trans (st.ag b o q)) ff (fun a o na ha => ⟨?_, g.ag _ _ ha⟩)
    (t := .ob true c (putFv n fv fs)) ⟨p, rfl, dx, _, hnew, ?_, q1.frame (Same.refl F1) (fun a ha => ?_), ndn, fun a ha => ?_⟩ rfl (fun _ h => nomatch h) (fun a ha => ?_)
  · rw [upd_ne fun z => na (own1 a (by rw [z]; simp))]; exact g.hh _ _ ha
  · rw [upd_ne (pne dx (by simp))]; exact g.hh _ _ h2
  · exact upd_ne (by
      rcases q2 a ha with h | h
      · exact pne a (List.mem_cons_of_mem _ h)
      · exact vne a h)
  · have old : ∀ a, a ∈ p :: dx :: ownFs xs fs → Nw H0 F1 a := fun a ha => by
      have n1 := hn a ha
      obtain ⟨o, ho⟩ : ∃ o, H a = some o := by
        rcases List.mem_cons.mp ha with rfl | ha
        · exact ⟨_, hp⟩
        · rcases List.mem_cons.mp ha with rfl | ha
          · exact ⟨_, h2⟩
          · exact rf.mem ha
      exact ⟨n1.1, (g.ag _ _ ho).trans n1.2⟩
    rcases List.mem_cons.mp ha with rfl | ha
    · exact old _ (by simp)
    · rcases List.mem_cons.mp ha with rfl | ha
      · exact old _ (by simp)
      · rcases q2 a ha with h | h
        · exact old a (by simp [h])
        · exact ⟨Same.free st.hh (rv2 a h).1.1, (rv2 a h).1.2⟩
  · obtain ⟨p', ep, ho⟩ := ha
    cases ep
    rcases List.mem_cons.mp ((OwO.iff hnew).mp ho) with rfl | ha
    · exact .inl (own1 _ (by simp))
    · rcases List.mem_cons.mp ha with rfl | ha
      · exact .inl (own1 _ (by simp))
      · rcases q2 a ha with h | h
        · exact .inl (own1 _ (by simp [h]))
        · exact .inr (rv2 a h).1.1
/-- the list or dict of a field is changed -/
theorem Stt.fmut (st : Stt K xi F0 H0 F H σ δ) (e : δ[i]? = some (some (.ob true c fs))) (ev : σ[i]? = some (some (.ref p))) (r : RepO K (Nw H0 F) F H p c fs) (hp : H p = some (.ins (He.ga K c) dx xs)) (g : Grow F H F1 H1) {q : Addr} {u : HO} {fv fv' : Fv}
    (hl : fs.lookup n = some fv) (hx : xs.lookup n = some (.ref q)) (o1 : ownF (.ref q) fv = [q]) (o2 : ownF (.ref q) fv' = [q]) (rv : RepF K F1 (upd H1 q u) (.ref q) fv') : Stt K xi F0 H0 F1 (upd H1 q u) σ (δ.set i (some (.ob true c (putFv n fv' fs)))) := by
  obtain ⟨dx', xs', h1, h2, rf, nd, hn⟩ := r
  rw [hp] at h1; cases h1
  have ff := g.ff st.sm
  have own1 : ∀ a, a ∈ p :: dx :: ownFs xs fs → Ow H (.ref p) (.ob true c fs) a := fun a ha => ⟨p, rfl, (OwO.iff hp).mpr ha⟩
  have rfs1 : RepFs K F1 H1 xs fs := rf.frame ff fun a ha => by
    obtain ⟨o, ho⟩ := rf.mem ha
    rw [ho]; exact g.hh _ _ ho
  have nd2 := List.nodup_cons.mp (List.nodup_cons.mp nd).2
  have hq : q ∈ ownFs xs fs := by
    obtain ⟨w, e1, _, e3⟩ := rf.get hl
    rw [hx] at e1; cases e1
    exact e3 q (by rw [o1]; simp)
  have qp : p ≠ q := fun z => (List.nodup_cons.mp nd).1 (by rw [z]; exact List.mem_cons_of_mem _ hq)
  have qd : dx ≠ q := fun z => nd2.1 (z ▸ hq)
  obtain ⟨q1, q2⟩ := RepFs.mut (f := n) rv o1 o2 rfs1 nd2.2 hl hx
  have some1 : ∀ a, a ∈ p :: dx :: ownFs xs fs → ∃ o, H a = some o := fun a ha => by
    rcases List.mem_cons.mp ha with rfl | ha
    · exact ⟨_, hp⟩
    · rcases List.mem_cons.mp ha with rfl | ha
      · exact ⟨_, h2⟩
      · exact rf.mem ha
  have hqN := hn q (by simp [hq])
  have hF1 : F1 q = none := by
    obtain ⟨o, ho⟩ := some1 q (by simp [hq])
    exact (g.ag _ _ ho).trans hqN.2
  have hnew : upd H1 q u p = some (.ins (He.ga K c) dx xs) := by rw [upd_ne qp]; exact g.hh _ _ hp
  refine st.chng e ev (fun b o z => by rw [upd_ne (ne_of_none z hF1)]; exact g.sm b o z) (fun b o z => by rw [upd_ne (ne_of_none z hqN.1)]; exact g.hh _ _ (st.hh b o z)) (fun b o z => (g.ag _ _ (st.hh b o z)).trans (st.ag b o z)) ff (fun a o na ha => ⟨?_, g.ag _ _ ha⟩)
    (t := .ob true c (putFv n fv' fs)) ⟨p, rfl, dx, xs, hnew, ?_, q1, by rw [q2]; exact nd, fun a ha => ?_⟩ rfl (fun _ h => nomatch h) (fun a ha => ?_)
  · rw [upd_ne fun z => na (own1 a (by rw [z]; simp [hq]))]; exact g.hh _ _ ha
  · rw [upd_ne qd]; exact g.hh _ _ h2
  · rw [q2] at ha
    obtain ⟨o, ho⟩ := some1 a ha
    exact ⟨(hn a ha).1, (g.ag _ _ ho).trans (hn a ha).2⟩
  · obtain ⟨p', ep, ho⟩ := ha
    cases ep
    have := (OwO.iff hnew).mp ho
    rw [q2] at this
    exact .inl (own1 a this)
end
def obT (o : Option (Option Sl)) (c : Str) (g : List (Str × Fv) → Out) : Out := match o with
  | some (some (.ob true c' fs)) => if c' = c then g fs else .bad
  | _ => .bad
theorem obT_ok {o : Option (Option Sl)} {c : Str} {g : List (Str × Fv) → Out} : (∃ fs, o = some (some (.ob true c fs)) ∧ obT o c g = g fs) ∨ obT o c g = .bad := by
  unfold obT
  split
  · rename_i c' fs
    by_cases h : c' = c
    · subst h; exact .inl ⟨fs, rfl, if_pos rfl⟩
    · exact .inr (if_neg h)
  · exact .inr rfl
/-- o.n = e -/
def sFSet (i : Nat) (c n : Str) (f : En → Rs Sl) : En → Out := fun δ => match f δ with
  | .ok s => obT δ[i]? c fun fs => (match fvOf s with
    | some fv => if fs.length < 1000 then .nx (δ.set i (some (.ob true c (putFv n fv fs)))) else .bad
    | none => .bad)
  | .er x => .er x δ
  | .bad => .bad
/-- o.n[k] = e, a dict -/
def sFDPut (i : Nat) (c n : Str) (g f : En → Rs Sl) : En → Out := fun δ => imO (f δ) δ fun d => match g δ with
  | .ok (.im kd) => obT δ[i]? c fun fs => (match fs.lookup n, keyD kd with
    | some (.dc kvs), some k => if kvs.length < 16777216 then .nx (δ.set i (some (.ob true c (putFv n (.dc (putD kvs k d)) fs)))) else .bad
    | _, _ => .bad)
  | _ => .bad
/-- o.n[k] = e, a list -/
def sFSetI (i : Nat) (c n : Str) (g f : En → Rs Sl) : En → Out := fun δ => imO (f δ) δ fun d => match g δ with
  | .ok (.im (.int k)) => obT δ[i]? c fun fs => (match fs.lookup n with
    | some (.ml ds) => (match ixN ds.length k with
      | some j => .nx (δ.set i (some (.ob true c (putFv n (.ml (ds.set j d)) fs))))
      | none => .bad)
    | _ => .bad)
  | _ => .bad
theorem RepFs.len {K : PySem.W.Frag} {F H : Hp} : ∀ {xs : List (Str × V)} {fs : List (Str × Fv)}, RepFs K F H xs fs → xs.length = fs.length
  | [], [], _ => rfl
  | [], _ :: _, r => r.elim
  | _ :: _, [], r => r.elim
  | _ :: xs, _ :: fs, ⟨_, _, r⟩ => by simp [RepFs.len r]
section
variable {X : Cx} {xi : Xi} {W : WX} {e k : Expr} {f g : En → Rs Sl} {p1 p2 p3 pos pos' apos cpos : Pos} {i : Nat} {x : Str} {c n : Str}
theorem pds_fset (hc : Cls X.K (He.ga X.K c)) (hn : NoAttr X.K (He.ga X.K c) n) (he : PD X xi W e f) (hN : X.N[i]? = some x := by rfl) (hv : Vis X.env.scope x := by first | exact Or.inl rfl | exact Or.inr (Or.inl rfl) | exact Or.inr (Or.inr rfl))
    (hd : (x == ("__debug__" : Str)) = false := by decide) (hcd : (x == ("__classdict__" : Str)) = false := by decide)
    (hs : swapsWith e (some (.Attribute (.Name x p1) n pos')) pos.line X.env = pure false := by rfl) : PDS X xi W (.Assign [.Attribute (.Name x p1) n pos'] e pos) (sFSet i c n f) := by
  refine PS.imp (ps_fld (pe_var hN hv hd hcd) he hs) ?_
  rintro E σ H ⟨F0, H0, F, δ, st, p⟩
  unfold sFSet at p
  refine tD_use st (fun s v F1 H1 e1 g1 r1 => ?_) (fun c F1 H1 e1 g1 => by rw [e1] at p; exact p σ F1 H1 (st.grow g1) (g1.ff st.sm)) (fun e1 => by rw [e1] at p; exact p)
  rw [e1] at p
  dsimp only at p
  rcases obT_ok (o := δ[i]?) (c := c) (g := fun fs => (match fvOf s with
    | some fv => if fs.length < 1000 then .nx (δ.set i (some (.ob true c (putFv n fv fs)))) else .bad
    | none => .bad)) with ⟨fs, e2, e3⟩ | e3
  · rw [e3] at p
    obtain ⟨vo, ev, ⟨a, rfl, r⟩, _⟩ := st.sl i _ e2
    obtain ⟨dx, xs, h1, h2, rf, nd, hnw⟩ := r
    split at p
    · rename_i fv hfv
      split at p
      · rename_i hlen
        refine ⟨_, ev, a, _, dx, xs, rfl, g1.hh _ _ h1, hc, hn, by rw [rf.len]; exact hlen, ?_⟩
        exact p σ F1 _ (st.fput e2 ev ⟨dx, xs, h1, h2, rf, nd, hnw⟩ h1 g1 r1 hfv) (g1.ff st.sm)
      · exact p.elim
    · exact p.elim
  · rw [e3] at p; exact p.elim
theorem pds_fdput (hu : X.A.units + 1 < cLine) (hc : Cls X.K (He.ga X.K c)) (hn : NoAttr X.K (He.ga X.K c) n) (he : PD X xi W e f) (hk : PD X xi W k g) (hN : X.N[i]? = some x := by rfl) (hv : Vis X.env.scope x := by first | exact Or.inl rfl | exact Or.inr (Or.inl rfl) | exact Or.inr (Or.inr rfl))
    (hd : (x == ("__debug__" : Str)) = false := by decide) (hcd : (x == ("__classdict__" : Str)) = false := by decide)
    (hb : attributeBase (.Name x p1) n X.env (eval (.Name x p1) X.env) = eval (.Name x p1) X.env := by rfl)
    (hs : swapsWith e (some (.Subscript (.Attribute (.Name x p1) n p2) k p3)) pos.line X.env = pure false := by rfl) : PDS X xi W (.Assign [.Subscript (.Attribute (.Name x p1) n p2) k p3] e pos) (sFDPut i c n g f) := by
  refine PS.imp (ps_dput hu (pe_fld (pe_var hN hv hd hcd) hb) hk he hs) ?_
  rintro E σ H ⟨F0, H0, F, δ, st, p⟩
  unfold sFDPut at p
  refine tD_use st (fun s v F1 H1 e1 g1 r1 => ?_) (fun c F1 H1 e1 g1 => by rw [e1] at p; exact p σ F1 H1 (st.grow g1) (g1.ff st.sm)) (fun e1 => by rw [e1] at p; exact p)
  rw [e1] at p
  match s, r1, p with
  | .im d, r1, p =>
    have st1 := st.grow g1
    simp only [imO] at p
    cases e4 : g δ with
    | bad => rw [e4] at p; exact p.elim
    | er y => rw [e4] at p; exact p.elim
    | ok s3 =>
      rw [e4] at p
      match s3, p, e4 with
      | .im kd, p, e4 =>
        dsimp only at p
        rcases obT_ok (o := δ[i]?) (c := c) (g := fun fs => match fs.lookup n, keyD kd with
          | some (.dc kvs), some k => if kvs.length < 16777216 then .nx (δ.set i (some (.ob true c (putFv n (.dc (putD kvs k d)) fs)))) else .bad
          | _, _ => .bad) with ⟨fs, e2, e3⟩ | e3
        · rw [e3] at p
          obtain ⟨vo, ev, ⟨a, rfl, r⟩, _⟩ := st.sl i _ e2
          obtain ⟨dx, xs, h1, h2, rf, nd, hnw⟩ := r
          split at p
          · rename_i kvs kk hl hkk
            split at p
            · rename_i hlen
              obtain ⟨w, hw, ⟨q, ys, rfl, hq, rk⟩, _⟩ := rf.get hl
              refine ⟨_, ev, a, _, dx, xs, _, rfl, g1.hh _ _ h1, hc, hn, hw, ?_⟩
              refine tD_use st1 (fun s5 v5 F2 H2 e5 g2 r5 => ?_) (fun c F2 H2 e5 g2 => by rw [e4] at e5; cases e5) (fun e5 => by rw [e4] at e5; cases e5)
              rw [e4] at e5; cases e5
              have ey := keyD_rp hkk r5
              subst ey
              have gg := g1.trans g2
              have ff := gg.ff st.sm
              refine ⟨q, _, rfl, DPut.k (gg.hh _ _ hq) (by rw [rk.length, sizeLine_eq]; exact hlen), ?_⟩
              exact p σ F2 _ (st.fmut (fv' := .dc (putD kvs kk d)) e2 ev ⟨dx, xs, h1, h2, rf, nd, hnw⟩ h1 gg hl hw rfl rfl ⟨q, _, rfl, upd_same, (rk.mono ff).put kk (Rp.mono (g2.ff st1.sm) _ _ r1)⟩) ff
            · exact p.elim
          · exact p.elim
        · rw [e3] at p; exact p.elim
      | .ml _, p, _ => exact p.elim
      | .br _, p, _ => exact p.elim
      | .ro _, p, _ => exact p.elim
      | .xc _, p, _ => exact p.elim
      | .dc _, p, _ => exact p.elim
      | .ob _ _ _, p, _ => exact p.elim
  | .ml _, _, p => exact p.elim
  | .br _, _, p => exact p.elim
  | .ro _, _, p => exact p.elim
  | .xc _, _, p => exact p.elim
  | .dc _, _, p => exact p.elim
  | .ob _ _ _, _, p => exact p.elim
theorem pds_fsetI (hc : Cls X.K (He.ga X.K c)) (hn : NoAttr X.K (He.ga X.K c) n) (he : PD X xi W e f) (hk : PD X xi W k g) (hN : X.N[i]? = some x := by rfl) (hv : Vis X.env.scope x := by first | exact Or.inl rfl | exact Or.inr (Or.inl rfl) | exact Or.inr (Or.inr rfl))
    (ha : ∀ v, assign (.Subscript (.Attribute (.Name x p1) n p2) k p3) X.env v = (do
      let ov ← holding [v] (eval (.Attribute (.Name x p1) n p2) X.env)
      let iv ← holding [v, ov] (eval k X.env)
      standAt p3
      holding [v, ov, iv] (setItem ov iv v)
      release [v, ov, iv] []) := by intro _; rfl)
    (hd : (x == ("__debug__" : Str)) = false := by decide) (hcd : (x == ("__classdict__" : Str)) = false := by decide)
    (hb : attributeBase (.Name x p1) n X.env (eval (.Name x p1) X.env) = eval (.Name x p1) X.env := by rfl)
    (hs : swapsWithSole [.Subscript (.Attribute (.Name x p1) n p2) k p3] e pos.line X.env = pure false := by rfl) (hw : swappedStores [.Subscript (.Attribute (.Name x p1) n p2) k p3] e X.env = pure none := by rfl)
    (h1 : (assignEach [.Subscript (.Attribute (.Name x p1) n p2) k p3] X.env).map (·.2) = [assign (.Subscript (.Attribute (.Name x p1) n p2) k p3) X.env] := by rfl) : PDS X xi W (.Assign [.Subscript (.Attribute (.Name x p1) n p2) k p3] e pos) (sFSetI i c n g f) := by
  refine PS.imp (ps_asg he (pg_sub (pe_fld (pe_var hN hv hd hcd) hb) hk set_list ha) hs hw h1) ?_
  rintro E σ H ⟨F0, H0, F, δ, st, p⟩
  unfold sFSetI at p
  refine tD_use st (fun s v F1 H1 e1 g1 r1 => ?_) (fun c F1 H1 e1 g1 => by rw [e1] at p; exact p σ F1 H1 (st.grow g1) (g1.ff st.sm)) (fun e1 => by rw [e1] at p; exact p)
  rw [e1] at p
  match s, r1, p with
  | .im d, r1, p =>
    have st1 := st.grow g1
    simp only [imO] at p
    cases e4 : g δ with
    | bad => rw [e4] at p; exact p.elim
    | er y => rw [e4] at p; exact p.elim
    | ok s3 =>
      rw [e4] at p
      match s3, p, e4 with
      | .im (.int kk), p, e4 =>
        dsimp only at p
        rcases obT_ok (o := δ[i]?) (c := c) (g := fun fs => (match fs.lookup n with
          | some (.ml ds) => (match ixN ds.length kk with
            | some j => .nx (δ.set i (some (.ob true c (putFv n (.ml (ds.set j d)) fs))))
            | none => .bad)
          | _ => .bad)) with ⟨fs, e2, e3⟩ | e3
        · rw [e3] at p
          obtain ⟨vo, ev, ⟨a, rfl, r⟩, _⟩ := st.sl i _ e2
          obtain ⟨dx, xs, h1, h2, rf, nd, hnw⟩ := r
          split at p
          · rename_i ds hl
            split at p
            · rename_i j hj
              obtain ⟨w, hw, ⟨q, ys, rfl, hq, rk⟩, _⟩ := rf.get hl
              refine ⟨_, ev, a, _, dx, xs, _, rfl, g1.hh _ _ h1, hc, hn, hw, ?_⟩
              refine tD_use st1 (fun s5 v5 F2 H2 e5 g2 r5 => ?_) (fun c F2 H2 e5 g2 => by rw [e4] at e5; cases e5) (fun e5 => by rw [e4] at e5; cases e5)
              rw [e4] at e5; cases e5
              cases r5
              have gg := g1.trans g2
              have ff := gg.ff st.sm
              refine ⟨q, ys, kk, j, rfl, rfl, gg.hh _ _ hq, by rw [rk.length]; exact hj, ?_⟩
              exact p σ F2 _ (st.fmut (fv' := .ml (ds.set j d)) e2 ev ⟨dx, xs, h1, h2, rf, nd, hnw⟩ h1 gg hl hw rfl rfl ⟨q, _, rfl, upd_same, (RpA.mono ff _ _ rk).set j (Rp.mono (g2.ff st1.sm) _ _ r1)⟩) ff
            · exact p.elim
          · exact p.elim
        · rw [e3] at p; exact p.elim
      | .im (.bool _), p, _ => exact p.elim
      | .im .none, p, _ => exact p.elim
      | .im (.str _), p, _ => exact p.elim
      | .im (.list _), p, _ => exact p.elim
      | .im (.tuple _), p, _ => exact p.elim
      | .im (.dict _), p, _ => exact p.elim
      | .ml _, p, _ => exact p.elim
      | .br _, p, _ => exact p.elim
      | .ro _, p, _ => exact p.elim
      | .xc _, p, _ => exact p.elim
      | .dc _, p, _ => exact p.elim
      | .ob _ _ _, p, _ => exact p.elim
  | .ml _, _, p => exact p.elim
  | .br _, _, p => exact p.elim
  | .ro _, _, p => exact p.elim
  | .xc _, _, p => exact p.elim
  | .dc _, _, p => exact p.elim
  | .ob _ _ _, _, p => exact p.elim
end
end DL

namespace DL
open PySem PySem.Spec PyProof.Rows L2
/-- a method's statement -/
def clsS (s : Stmt) (j : Nat) : Stmt := match s with
  | .ClassDef _ _ _ b _ _ _ _ _ _ _ => b.getD j (.Pass ⟨0, 0, 0, 0⟩)
  | _ => .Pass ⟨0, 0, 0, 0⟩
/-! ### methods that leave their object as it is -/
/-- what the head tells of a class -/
structure ClsK (K : PySem.W.Frag) (c : Str) (ns ms : List Str) : Prop where
  cl : Cls K (He.ga K c)
  na : ∀ n ∈ ns, NoAttr K (He.ga K c) n
  me : ∀ m ∈ ms, Meth K (He.ga K c) m (He.ma K (He.ga K c) m)
def spB (K : PySem.W.Frag) (n : Nat) (c : Str) (m : List Sl → Rs Sl) : Sp := fun vs H Q E => vs.length = n ∧ ∃ F p rest fs as, vs = .ref p :: rest ∧ Same F H ∧ RepO K Any F H p c fs ∧ RdL K F H rest as ∧ as.all froz = true ∧ PostC K F H Q E (m (.ob false c fs :: as))
theorem Stt.initB {K : PySem.W.Frag} {F H : Hp} {p : Addr} {c : Str} {fs : List (Str × Fv)} {vs : List V} {as : List Sl} {N : List Str} (sm : Same F H) (ro : RepO K Any F H p c fs) (r : RdL K F H vs as) (hf : as.all froz = true) :
    Stt K [] F H F H (L2.start N (.ref p :: vs)) (initE N.length (.ob false c fs :: as)) := by
  have hl := r.length
  have s0 : ∀ (i : Nat) (s : Sl), (initE N.length (.ob false c fs :: as))[i]? = some (some s) → (i = 0 ∧ s = .ob false c fs) ∨ (∃ j v, i = j + 1 ∧ as[j]? = some s ∧ vs[j]? = some v ∧ RdR K F H v s ∧ froz s = true) := fun i s e => by
    have h := initE_get e
    cases i with
    | zero => simp at h; exact .inl ⟨rfl, h.symm⟩
    | succ j =>
      have h : as[j]? = some s := by simpa using h
      obtain ⟨v, hv, rv⟩ := r.get h
      exact .inr ⟨j, v, rfl, h, hv, rv, List.all_eq_true.mp hf s (List.mem_of_getElem? h)⟩
  have g0 : (L2.start N (.ref p :: vs))[0]? = some (some (.ref p)) := by simp [L2.start]
  have gj : ∀ j v, vs[j]? = some v → (L2.start N (.ref p :: vs))[j + 1]? = some (some v) := fun j v e => by
    have hj : j < vs.length := (List.getElem?_eq_some_iff.mp e).1
    unfold L2.start
    rw [List.getElem?_append_left (by simpa using hj), List.getElem?_map]
    simp [e]
  refine ⟨sm, Same.refl H, fun _ _ _ => rfl, by simp [initE, L2.start, hl], fun i s e => ?_, fun i j s t v w a e _ _ _ o _ => ?_, (fun _ _ _ e => nomatch e), fun i c' fs' e => ?_⟩
  · rcases s0 i s e with ⟨rfl, rfl⟩ | ⟨j, v, rfl, _, hv, rv, hz⟩
    · exact ⟨_, g0, ⟨p, rfl, ro⟩, rfl⟩
    · refine ⟨v, gj j v hv, ?_, ?_⟩
      · cases s with
        | im d => exact rv
        | ro ns => exact rv
        | _ => cases hz
      · cases s with
        | br ds => cases hz
        | _ => rfl
  · rcases s0 i s e with ⟨rfl, rfl⟩ | ⟨j, v, rfl, _, hv, rv, hz⟩
    · exact o.elim
    · cases s with
      | im d => exact o.elim
      | ro ns => exact o.elim
      | _ => cases hz
  · rcases s0 i _ e with ⟨rfl, e2⟩ | ⟨j, v, rfl, _, hv, rv, hz⟩
    · cases e2; exact ⟨p, g0, ro⟩
    · cases hz
/-- what a body's end is for its def -/
theorem fn_post {K : PySem.W.Frag} {N : Nat} {g : En → Out} {as : List Sl} {F H : Hp} {Q : VK} {E : XK} {xi : Xi} (q : PostC K F H Q E (fnM N g as)) : PostS K xi (wDef E) F H F H { nx := fun _ H' => Q .non H', rt := Q } (g (initE N as)) := by
  unfold fnM at q
  cases e : g (initE N as) with
  | nx δ =>
    rw [e] at q
    exact fun σ' F' H' st' s' => q .non F' H' st'.gr .non
  | rt s =>
    rw [e] at q
    exact fun v F' H' g' r' => q v F' H' g' r'
  | rm d δ =>
    rw [e] at q
    exact fun v σ' F' H' st' _ r' => q v F' H' st'.gr r'
  | er c δ =>
    rw [e] at q
    exact fun σ' F' H' st' s' => q F' H' st'.gr
  | bk δ => rw [e] at q; exact q.elim
  | ct δ => rw [e] at q; exact q.elim
  | bad => rw [e] at q; exact q.elim
abbrev cxM (P : Program) (w : World) (K : PySem.W.Frag) (mg : Str → Option Value) (base : Heap) (N : List Str) (s : Stmt) (qual : Str) (f : Addr) (cdv : Value) (A : Around) (outer : List Env) (sh : Shared) (H : Hp) (E : XK) : Cx :=
  cxOf (L2N.CX P w) P w K mg base N qual (defScope s) f cdv A outer sh H E
abbrev FnM (K : PySem.W.Frag) (c m q : Str) (st : Stmt) (fd : FuncData) : Prop := FunD K m q (defArgs st) (defBody st) (defScope st) [] [] (He.ma K (He.ga K c) m) fd
structure CalB (P : Program) (w : World) (K : PySem.W.Frag) (mg : Str → Option Value) (base : Heap) (c x : Str) (ps : List Str) (k n : Nat) (m : List Sl → Rs Sl) : Prop where
  ex : ∃ fd, FnOk P w K mg base (L2N.CX P w) k (He.ma K (He.ga K c) x) fd ps (spB K n c m) ∧ Binds K fd ps []
section
variable {P : Program} {w : World} {K : PySem.W.Frag} {mg : Str → Option Value} {base : Heap} {fd : FuncData} {c x qu : Str} {st : Stmt} {N ps : List Str} {k n : Nat} {g : En → Out} {m : List Sl → Rs Sl}
theorem cal_mkB (F : FnM K c x qu st fd) (S : FnScope N ps (defScope st)) (hb : Binds K fd ps []) (hn : ps.length = n)
    (body : ∀ (cdv : Value) (A : Around) (outer : List Env) (sh : Shared) (H : Hp) (E : XK), Room k (cxM P w K mg base N st qu (He.ma K (He.ga K c) x) cdv A outer sh H E).A → L2N.Takes (cxM P w K mg base N st qu (He.ma K (He.ga K c) x) cdv A outer sh H E) (wDef E) →
      PassesOwn (model P w) (cxM P w K mg base N st qu (He.ma K (He.ga K c) x) cdv A outer sh H E).A (cxM P w K mg base N st qu (He.ma K (He.ga K c) x) cdv A outer sh H E).env (cxM P w K mg base N st qu (He.ma K (He.ga K c) x) cdv A outer sh H E).xe →
      PDB (cxM P w K mg base N st qu (He.ma K (He.ga K c) x) cdv A outer sh H E) [] (wDef E) (defBody st) g) : CalB P w K mg base c x ps (k + 1) n (fnM N.length g) := by
  subst hn
  refine ⟨fd, ?_, hb⟩
  refine F.ok S (fun vs H Q E h => h.1) (fun cdv A outer sh H vs Q E hr h => ?_)
  refine ⟨_, body cdv A outer sh H E hr (L2N.takes_of rfl rfl rfl rfl) (passes_of rfl), ?_⟩
  obtain ⟨hl, F, p, rest, fs, as, rfl, sm, ro, r, hf, q⟩ := h
  exact ⟨F, H, F, _, Stt.initB sm ro r hf, fn_post q⟩
end
theorem RepFs.no {K : PySem.W.Frag} {F H : Hp} {f : Str} : ∀ {xs : List (Str × V)} {fs : List (Str × Fv)}, RepFs K F H xs fs → fs.lookup f = none → xs.lookup f = none
  | [], [], _, _ => rfl
  | [], _ :: _, r, _ => r.elim
  | _ :: _, [], r, _ => r.elim
  | (k, x) :: xs, (k', g) :: fs, ⟨r1, r2, r3⟩, e => by
    have r1 : k = k' := r1
    subst r1
    by_cases h : f = k
    · have hb : (f == k) = true := beq_iff_eq.mpr h
      simp only [List.lookup, hb] at e
      cases e
    · have hb : (f == k) = false := beq_eq_false_iff_ne.mpr h
      simp only [List.lookup, hb] at e ⊢
      exact RepFs.no r3 e
def okR : Rs Sl → Rs Sl
  | .ok s => .ok s
  | _ => .bad
/-- o.x(..), a method that leaves o as it is and raises nothing -/
def eMethB (i : Nat) (c x : Str) (m : List Sl → Rs Sl) (fs : En → Rs (List Sl)) : En → Rs Sl := fun δ => match fs δ with
  | .ok as => fldO δ[i]? c fun o => if as.all froz = true ∧ o.lookup x = none then okR (m (.ob false c o :: as)) else .bad
  | _ => .bad
section
variable {X : Cx} {xi : Xi} {W : WX} {e : Expr} {es : List Expr} {fs : En → Rs (List Sl)} {p1 pos apos : Pos} {i j k n : Nat} {y c x : Str} {ps ns ms : List Str} {m : List Sl → Rs Sl}
theorem pd_methB {pl : Sem Bool} (C : CalB X.prog X.w X.K X.mg X.base c x ps j (n + 1) m) (cl : Cls X.K (He.ga X.K c)) (me : Meth X.K (He.ga X.K c) x (He.ma X.K (He.ga X.K c) x)) (hr : Room k X.A) (hj : j ≤ k) (ha : PDA X xi W (e :: es) fs) (hl : eLen n fs)
    (hN : X.N[i]? = some y := by rfl) (hv : Vis X.env.scope y := by first | exact Or.inl rfl | exact Or.inr (Or.inl rfl) | exact Or.inr (Or.inr rfl)) (hd : (y == ("__debug__" : Str)) = false := by decide) (hcd : (y == ("__classdict__" : Str)) = false := by decide)
    (hst : starEach (e :: es) X.env = (false, eval e X.env) :: starEach es X.env := by rfl) (hpl : (backTo pos (starEach es X.env)).any (·.1) = false := by rfl)
    (ht : eval (.Call (.Attribute (.Name y p1) x apos) (e :: es) [] pos) X.env = (do
      let ov ← eval (.Name y p1) X.env
      standAt apos.atName
      let (f, first) ← holding [ov] (getMethod ov x pl)
      callWith pos f first (backTo pos (starEach (e :: es) X.env)) (backToKw pos (keywordEach [] X.env))) := by rfl) :
    PD X xi W (.Call (.Attribute (.Name y p1) x apos) (e :: es) [] pos) (eMethB i c x m fs) := by
  obtain ⟨fd, F, b⟩ := C.ex
  refine PE.imp (pe_meth (pe_var hN hv hd hcd) cl me F (hr.mono hj) b .nil passLN ha hst hpl ht) ?_
  rintro σ H Q ⟨F0, H0, F, δ, st, p⟩
  -- the object is known from the start
  have hbad : ∀ {as : List Sl}, fs δ = .ok as → ∃ b o, δ[i]? = some (some (.ob b c o)) ∧ as.all froz = true ∧ o.lookup x = none ∧ eMethB i c x m fs δ = okR (m (.ob false c o :: as)) := fun {as} e1 => by
    have e0 : eMethB i c x m fs δ = fldO δ[i]? c fun o => if as.all froz = true ∧ o.lookup x = none then okR (m (.ob false c o :: as)) else .bad := by unfold eMethB; rw [e1]
    rcases fldO_ok (o := δ[i]?) (c := c) (g := fun o => if as.all froz = true ∧ o.lookup x = none then okR (m (.ob false c o :: as)) else .bad) with ⟨b, o, e2, e3⟩ | e3
    · by_cases h : as.all froz = true ∧ o.lookup x = none
      · exact ⟨b, o, e2, h.1, h.2, by rw [e0, e3, if_pos h]⟩
      · rw [e0, e3, if_neg h] at p; exact p.elim
    · rw [e0, e3] at p; exact p.elim
  cases e1 : fs δ with
  | bad => unfold eMethB at p; rw [e1] at p; exact p.elim
  | er cc => unfold eMethB at p; rw [e1] at p; exact p.elim
  | ok as =>
    obtain ⟨b, o, e2, hf, hno, e3⟩ := hbad e1
    rw [e3] at p
    obtain ⟨a, ea, r⟩ := st.obj e2
    obtain ⟨dx, xs, h1, h2, rf, nd, _⟩ := id r
    refine ⟨_, ea, a, dx, xs, rfl, h1, rf.no hno, ?_⟩
    refine tA_use st (fun as' v F1 H1 e4 g1 r1 => ?_) (fun c F1 H1 e4 g1 => by rw [e1] at e4; cases e4) (fun e4 => by rw [e1] at e4; cases e4)
    rw [e1] at e4; cases e4
    rw [List.append_nil]
    refine ⟨by rw [List.length_cons, r1.length, hl δ as e1], F1, a, v, o, as, rfl, g1.sm, r.later g1.hh (g1.ff st.sm), r1, hf, ?_⟩
    cases em : m (.ob false c o :: as) with
    | ok s =>
      rw [em] at p
      exact fun v F' H' gg r => p v F' H' (g1.trans gg) (r.pre g1.hh)
    | er c => rw [em] at p; exact p.elim
    | bad => rw [em] at p; exact p.elim
end
end DL

namespace DL
open PySem PySem.Spec PyProof.Rows L2
/-! ### methods that change their object -/
open Classical in
/-- the heap without what the object owns -/
noncomputable def offO (H : Hp) (p : Addr) (fs : List (Str × Fv)) : Hp := fun a => if OwO H p fs a then none else H a
theorem offO_in {H : Hp} {p : Addr} {fs : List (Str × Fv)} {a : Addr} (h : OwO H p fs a) : offO H p fs a = none := by unfold offO; rw [if_pos h]
theorem offO_out {H : Hp} {p : Addr} {fs : List (Str × Fv)} {a : Addr} (h : ¬ OwO H p fs a) : offO H p fs a = H a := by unfold offO; rw [if_neg h]
theorem offO_none {H : Hp} {p : Addr} {fs : List (Str × Fv)} {a : Addr} (h : offO H p fs a = none) : OwO H p fs a ∨ H a = none := by
  by_cases q : OwO H p fs a
  · exact .inl q
  · rw [offO_out q] at h; exact .inr h
theorem offO_same {H : Hp} {p : Addr} {fs : List (Str × Fv)} : Same (offO H p fs) H := fun a o e => by
  by_cases q : OwO H p fs a
  · rw [offO_in q] at e; cases e
  · rwa [offO_out q] at e
inductive RsO where
  | ok (d : D) (fs : List (Str × Fv)) | er (c : Str) (fs : List (Str × Fv)) | bad
def PostCO (K : PySem.W.Frag) (F H : Hp) (p : Addr) (c : Str) (fs : List (Str × Fv)) (Q : VK) (E : XK) : RsO → Prop
  | .ok d fs' => ∀ v F' H', Grow F (offO H p fs) F' H' → RepO K (Nw (offO H p fs) F') F' H' p c fs' → Rp K F' v d → Q v H'
  | .er x fs' => ∀ F' H', Grow F (offO H p fs) F' H' → RepO K (Nw (offO H p fs) F') F' H' p c fs' → E (cvOf K x) none H'
  | .bad => False
def NwF (F : Hp) (a : Addr) : Prop := F a = none
def spO (K : PySem.W.Frag) (n : Nat) (c : Str) (m : List (Str × Fv) → List Sl → RsO) : Sp := fun vs H Q E => vs.length = n ∧ ∃ F p rest fs as, vs = .ref p :: rest ∧ Same F H ∧ RepO K (NwF F) F H p c fs ∧ RdL K F H rest as ∧ as.all froz = true ∧ PostCO K F H p c fs Q E (m fs as)
theorem Stt.initO {K : PySem.W.Frag} {F H : Hp} {p : Addr} {c : Str} {fs : List (Str × Fv)} {vs : List V} {as : List Sl} {N : List Str} (sm : Same F H) (ro : RepO K (NwF F) F H p c fs) (r : RdL K F H vs as) (hf : as.all froz = true) :
    Stt K [(0, p, .none)] F (offO H p fs) F H (L2.start N (.ref p :: vs)) (initE N.length (.ob true c fs :: as)) := by
  have hl := r.length
  have s0 : ∀ (i : Nat) (s : Sl), (initE N.length (.ob true c fs :: as))[i]? = some (some s) → (i = 0 ∧ s = .ob true c fs) ∨ (∃ j v, i = j + 1 ∧ as[j]? = some s ∧ vs[j]? = some v ∧ RdR K F H v s ∧ froz s = true) := fun i s e => by
    have h := initE_get e
    cases i with
    | zero => simp at h; exact .inl ⟨rfl, h.symm⟩
    | succ j =>
      have h : as[j]? = some s := by simpa using h
      obtain ⟨v, hv, rv⟩ := r.get h
      exact .inr ⟨j, v, rfl, h, hv, rv, List.all_eq_true.mp hf s (List.mem_of_getElem? h)⟩
  have g0 : (L2.start N (.ref p :: vs))[0]? = some (some (.ref p)) := by simp [L2.start]
  have gj : ∀ j v, vs[j]? = some v → (L2.start N (.ref p :: vs))[j + 1]? = some (some v) := fun j v e => by
    have hj : j < vs.length := (List.getElem?_eq_some_iff.mp e).1
    unfold L2.start
    rw [List.getElem?_append_left (by simpa using hj), List.getElem?_map]
    simp [e]
  have notown : ∀ (s : Sl) (v : V) (a : Addr), froz s = true → ¬ Ow H v s a := fun s v a hz o => by
    cases s with
    | im d => exact o.elim
    | ro ns => exact o.elim
    | _ => cases hz
  refine ⟨sm, offO_same, fun _ _ _ => rfl, by simp [initE, L2.start, hl], fun i s e => ?_, fun i j s t v w a e e' _ _ o o' => ?_, fun i a cc e => ?_, fun i c' fs' e => ?_⟩
  · rcases s0 i s e with ⟨rfl, rfl⟩ | ⟨j, v, rfl, _, hv, rv, hz⟩
    · exact ⟨_, g0, ⟨p, rfl, ro.frame (Same.refl F) (fun _ _ => rfl) fun a ha n => ⟨offO_in ha, n⟩⟩, rfl⟩
    · refine ⟨v, gj j v hv, ?_, ?_⟩
      · cases s with
        | im d => exact rv
        | ro ns => exact rv
        | _ => cases hz
      · cases s with
        | br ds => cases hz
        | _ => rfl
  · rcases s0 i s e with ⟨rfl, rfl⟩ | ⟨j1, v1, rfl, _, hv, rv, hz⟩
    · rcases s0 j t e' with ⟨rfl, rfl⟩ | ⟨j1, v1, rfl, _, hv, rv, hz⟩
      · rfl
      · exact (notown _ _ _ hz o').elim
    · exact (notown _ _ _ hz o).elim
  · cases List.mem_singleton.mp e
    refine ⟨g0, fun x h => ?_⟩
    have h := initE_get h
    simp at h
  · rcases s0 i _ e with ⟨rfl, e2⟩ | ⟨j, v, rfl, _, hv, rv, hz⟩
    · cases e2
    · cases hz
def endO (c : Str) (o : Option (Option Sl)) (g : List (Str × Fv) → RsO) : RsO := match o with
  | some (some (.ob true c' fs)) => if c' = c then g fs else .bad
  | _ => .bad
theorem endO_ok {o : Option (Option Sl)} {c : Str} {g : List (Str × Fv) → RsO} : (∃ fs, o = some (some (.ob true c fs)) ∧ endO c o g = g fs) ∨ endO c o g = .bad := by
  unfold endO
  split
  · rename_i c' fs
    by_cases h : c' = c
    · subst h; exact .inl ⟨fs, rfl, if_pos rfl⟩
    · exact .inr (if_neg h)
  · exact .inr rfl
/-- a method as a function of its object and its arguments -/
def fnMO (n : Nat) (c : Str) (g : En → Out) (fs : List (Str × Fv)) (as : List Sl) : RsO := match g (initE n (.ob true c fs :: as)) with
  | .nx δ => endO c δ[0]? fun fs' => .ok .none fs'
  | .rm d δ => endO c δ[0]? fun fs' => .ok d fs'
  | .er x δ => endO c δ[0]? fun fs' => .er x fs'
  | _ => .bad
theorem Stt.endO {K : PySem.W.Frag} {p : Addr} {F H0 F' H' : Hp} {σ : L2.St} {δ : En} {c : Str} {fs : List (Str × Fv)} (st : Stt K [(0, p, .none)] F H0 F' H' σ δ) (e : δ[0]? = some (some (.ob true c fs))) : RepO K (Nw H0 F') F' H' p c fs := by
  obtain ⟨v, ev, ⟨p2, rfl, r⟩, _⟩ := st.sl 0 _ e
  have := (st.xi 0 p .none (List.mem_singleton.mpr rfl)).1
  rw [ev] at this; cases this
  exact r
theorem fn_postO {K : PySem.W.Frag} {N : Nat} {g : En → Out} {c : Str} {fs : List (Str × Fv)} {as : List Sl} {F H : Hp} {p : Addr} {Q : VK} {E : XK} (q : PostCO K F H p c fs Q E (fnMO N c g fs as)) : PostS K [(0, p, .none)] (wDef E) F (offO H p fs) F H { nx := fun _ H' => Q .non H', rt := Q } (g (initE N (.ob true c fs :: as))) := by
  unfold fnMO at q
  cases e : g (initE N (.ob true c fs :: as)) with
  | nx δ =>
    rw [e] at q
    rcases endO_ok (o := δ[0]?) (c := c) (g := fun fs' => .ok .none fs') with ⟨fs', e1, e2⟩ | e2
    · simp only [e2] at q
      exact fun σ' F' H' st' s' => q .non F' H' st'.gr (st'.endO e1) .non
    · simp only [e2] at q; exact q.elim
  | rm d δ =>
    rw [e] at q
    rcases endO_ok (o := δ[0]?) (c := c) (g := fun fs' => .ok d fs') with ⟨fs', e1, e2⟩ | e2
    · simp only [e2] at q
      exact fun v σ' F' H' st' _ r' => q v F' H' st'.gr (st'.endO e1) r'
    · simp only [e2] at q; exact q.elim
  | er x δ =>
    rw [e] at q
    rcases endO_ok (o := δ[0]?) (c := c) (g := fun fs' => .er x fs') with ⟨fs', e1, e2⟩ | e2
    · simp only [e2] at q
      exact fun σ' F' H' st' s' => q F' H' st'.gr (st'.endO e1)
    · simp only [e2] at q; exact q.elim
  | rt s => rw [e] at q; exact q.elim
  | bk δ => rw [e] at q; exact q.elim
  | ct δ => rw [e] at q; exact q.elim
  | bad => rw [e] at q; exact q.elim
structure CalO (P : Program) (w : World) (K : PySem.W.Frag) (mg : Str → Option Value) (base : Heap) (c x : Str) (ps : List Str) (k n : Nat) (m : List (Str × Fv) → List Sl → RsO) : Prop where
  ex : ∃ fd, FnOk P w K mg base (L2N.CX P w) k (He.ma K (He.ga K c) x) fd ps (spO K n c m) ∧ Binds K fd ps []
section
variable {P : Program} {w : World} {K : PySem.W.Frag} {mg : Str → Option Value} {base : Heap} {fd : FuncData} {c x qu : Str} {st : Stmt} {N ps : List Str} {k n : Nat} {g : En → Out}
theorem cal_mkO (F : FnM K c x qu st fd) (S : FnScope N ps (defScope st)) (hb : Binds K fd ps []) (hn : ps.length = n)
    (body : ∀ (cdv : Value) (A : Around) (outer : List Env) (sh : Shared) (H : Hp) (E : XK) (p : Addr), Room k (cxM P w K mg base N st qu (He.ma K (He.ga K c) x) cdv A outer sh H E).A → L2N.Takes (cxM P w K mg base N st qu (He.ma K (He.ga K c) x) cdv A outer sh H E) (wDef E) →
      PassesOwn (model P w) (cxM P w K mg base N st qu (He.ma K (He.ga K c) x) cdv A outer sh H E).A (cxM P w K mg base N st qu (He.ma K (He.ga K c) x) cdv A outer sh H E).env (cxM P w K mg base N st qu (He.ma K (He.ga K c) x) cdv A outer sh H E).xe →
      PDB (cxM P w K mg base N st qu (He.ma K (He.ga K c) x) cdv A outer sh H E) [(0, p, .none)] (wDef E) (defBody st) g) : CalO P w K mg base c x ps (k + 1) n (fnMO N.length c g) := by
  subst hn
  refine ⟨fd, ?_, hb⟩
  refine F.ok S (fun vs H Q E h => h.1) (fun cdv A outer sh H vs Q E hr h => ?_)
  obtain ⟨hl, F, p, rest, fs, as, rfl, sm, ro, r, hf, q⟩ := h
  exact ⟨_, body cdv A outer sh H E p hr (L2N.takes_of rfl rfl rfl rfl) (passes_of rfl), F, _, F, _, Stt.initO sm ro r hf, fn_postO q⟩
end
/-- return, and what then is known of the slots -/
def sRetM (f : En → Rs Sl) : En → Out := fun δ => match f δ with
  | .ok (.im d) => .rm d δ
  | .er x => .er x δ
  | _ => .bad
/-- the state behind a call -/
theorem Stt.called {K : PySem.W.Frag} {xi : Xi} {F0 H0 F H F' H' : Hp} {σ : L2.St} {δ : En} {i : Nat} {p : Addr} {c : Str} {fs fs' : List (Str × Fv)} (st : Stt K xi F0 H0 F H σ δ) (e : δ[i]? = some (some (.ob true c fs))) (ev : σ[i]? = some (some (.ref p))) (g : Grow F (offO H p fs) F' H') (r : RepO K (Nw (offO H p fs) F') F' H' p c fs') :
    Stt K xi F0 H0 F' H' σ (δ.set i (some (.ob true c fs'))) ∧ Same F F' := by
  obtain ⟨v, ev', ⟨p2, rfl, r0⟩, _⟩ := st.sl i _ e
  rw [ev] at ev'; cases ev'
  have iff : ∀ a, Ow H (.ref p) (.ob true c fs) a ↔ OwO H p fs a := fun a => ⟨fun ⟨q, e, h⟩ => by cases e; exact h, fun h => ⟨p, rfl, h⟩⟩
  have hb : ∀ a o, H0 a = some o → offO H p fs a = some o := fun a o h => by
    rw [offO_out fun q => by rw [(r0.new q).1.1] at h; cases h]; exact st.hh a o h
  have hF : ∀ a o, F a = some o → offO H p fs a = some o := fun a o h => by
    rw [offO_out fun q => by rw [(r0.new q).1.2] at h; cases h]; exact st.sm a o h
  have ff : Same F F' := fun a o h => (g.ag a o (hF a o h)).trans h
  refine ⟨st.chng e ev g.sm (fun a o h => g.hh a o (hb a o h)) (fun a o h => (g.ag a o (hb a o h)).trans (st.ag a o h)) ff (fun a o na ha => ?_) (t := .ob true c fs') ⟨p, rfl, r.imp fun a n => ⟨?_, n.2⟩⟩ rfl (fun _ h => nomatch h) (fun a ha => ?_), ff⟩
  · have := offO_out (H := H) (p := p) (fs := fs) (a := a) fun q => na ((iff a).mpr q)
    exact ⟨g.hh a o (this.trans ha), g.ag a o (this.trans ha)⟩
  · cases h : H0 a with
    | none => rfl
    | some o => have := hb a o h; rw [n.1] at this; cases this
  · obtain ⟨q, e2, ho⟩ := ha
    cases e2
    rcases offO_none (r.new ho).1.1 with h | h
    · exact .inl ((iff a).mpr h)
    · exact .inr h
def neO (r : Rs (List Sl)) (g : List Sl → Out) : Out := match r with
  | .ok as => if as.all froz = true then g as else .bad
  | _ => .bad
/-- if [not] o.x(..) -/
def sIfO (neg : Bool) (i : Nat) (c x : Str) (m : List (Str × Fv) → List Sl → RsO) (fs : En → Rs (List Sl)) (a b : En → Out) : En → Out := fun δ => neO (fs δ) fun as => obT δ[i]? c fun o => if o.lookup x = none then (match m o as with
  | .ok (.bool k) o' => if (k != neg) = true then a (δ.set i (some (.ob true c o'))) else b (δ.set i (some (.ob true c o')))
  | _ => .bad) else .bad
section
variable {X : Cx} {xi : Xi} {W : WX} {e : Expr} {es : List Expr} {f : En → Rs Sl} {fs : En → Rs (List Sl)} {p1 pos apos cpos npos : Pos} {i j k n : Nat} {y c x : Str} {ps ns ms : List Str} {m : List (Str × Fv) → List Sl → RsO} {a b : En → Out} {A B : List Stmt}
theorem pds_retM (he : PD X xi W e f) : PDS X xi W (.Return (some e) pos) (sRetM f) := by
  refine PS.imp (ps_ret he) ?_
  rintro E σ H ⟨F0, H0, F, δ, st, p⟩
  refine tD_use st (fun x v F1 H1 e1 g1 r1 => ?_) (fun x F1 H1 e1 g1 => by simp only [sRetM, e1] at p; exact p σ F1 H1 (st.grow g1) (g1.ff st.sm)) (fun e1 => by simp only [sRetM, e1] at p; exact p)
  simp only [sRetM, e1] at p
  cases x with
  | im d => exact p v σ F1 H1 (st.grow g1) (g1.ff st.sm) r1
  | _ => exact p.elim
theorem pds_retNM : PDS X xi W (.Return none pos) (sRetM (eC .none)) := PS.imp ps_retN (by
  rintro E σ H ⟨F0, H0, F, δ, st, p⟩
  exact p .non σ F H st (Same.refl F) .non)
/-- the call of such a method, as it is used by statements: the test -/
theorem methO_run {K : PySem.W.Frag} {F0 H0 F H : Hp} {σ : L2.St} {δ : En} {as : List Sl} {o : List (Str × Fv)} {Q : VK} (st : Stt K xi F0 H0 F H σ δ) (e2 : δ[i]? = some (some (.ob true c o))) {v : List V} {F1 H1 : Hp} (g1 : Grow F H F1 H1) (r1 : RdL K F1 H1 v as) (hf : as.all froz = true) (hl : as.length = n) {q : Addr} (eq : σ[i]? = some (some (.ref q)))
    {d : D} {o' : List (Str × Fv)} (em : m o as = .ok d o') (h : ∀ v F' H', Stt K xi F0 H0 F' H' σ (δ.set i (some (.ob true c o'))) → Same F F' → Rp K F' v d → Q v H') : spO K (n + 1) c m (.ref q :: v) H1 Q E0 := by
  have st1 := st.grow g1
  obtain ⟨vo, ev, ⟨q', rfl, r⟩, _⟩ := st1.sl i _ e2
  rw [eq] at ev; cases ev
  refine ⟨by rw [List.length_cons, r1.length, hl], F1, q, v, o, as, rfl, g1.sm, r.imp fun a n => n.2, r1, hf, ?_⟩
  rw [em]
  intro v' F' H' gg rr rv
  obtain ⟨st2, s2⟩ := st1.called e2 eq gg rr
  exact h v' F' H' st2 ((g1.ff st.sm).trans s2) rv
theorem pds_ifO2 {pl : Sem Bool} (C : CalO X.prog X.w X.K X.mg X.base c x ps j (n + 1) m) (cl : Cls X.K (He.ga X.K c)) (me : Meth X.K (He.ga X.K c) x (He.ma X.K (He.ga X.K c) x)) (hr : Room k X.A) (hj : j ≤ k) (ha : PDA X xi W (e :: es) fs) (hl : eLen n fs) (hA : PDB X xi W A a) (hB : PDB X xi W B b)
    (hN : X.N[i]? = some y := by rfl) (hv : Vis X.env.scope y := by first | exact Or.inl rfl | exact Or.inr (Or.inl rfl) | exact Or.inr (Or.inr rfl)) (hd : (y == ("__debug__" : Str)) = false := by decide) (hcd : (y == ("__classdict__" : Str)) = false := by decide)
    (hst : starEach (e :: es) X.env = (false, eval e X.env) :: starEach es X.env := by rfl) (hpl : (backTo cpos (starEach es X.env)).any (·.1) = false := by rfl)
    (ht : eval (.Call (.Attribute (.Name y p1) x apos) (e :: es) [] cpos) X.env = (do
      let ov ← eval (.Name y p1) X.env
      standAt apos.atName
      let (f, first) ← holding [ov] (getMethod ov x pl)
      callWith cpos f first (backTo cpos (starEach (e :: es) X.env)) (backToKw cpos (keywordEach [] X.env))) := by rfl)
    (hv2 : ∀ whole, isTrue (.Call (.Attribute (.Name y p1) x apos) (e :: es) [] cpos) X.env whole = (do let v ← whole; standAt (Expr.Call (.Attribute (.Name y p1) x apos) (e :: es) [] cpos).pos; holding [v] (truthy v)) := by intro _; rfl) :
    PDS X xi W (.If (.Call (.Attribute (.Name y p1) x apos) (e :: es) [] cpos) A B pos) (sIfO false i c x m fs a b) ∧ PDS X xi W (.If (.UnaryOp .Not (.Call (.Attribute (.Name y p1) x apos) (e :: es) [] cpos) npos) A B pos) (sIfO true i c x m fs a b) := by
  obtain ⟨fd, F, bb⟩ := C.ex
  have pm := pt_val (pe_meth (pe_var hN hv hd hcd) cl me F (hr.mono hj) bb .nil passLN ha hst hpl ht) hv2
  have main : ∀ (neg : Bool) (E : Ends) (σ : L2.St) (H : Hp) (F0 H0 F : Hp) (δ : En), Stt X.K xi F0 H0 F H σ δ → PostS X.K xi W F0 H0 F H E (sIfO neg i c x m fs a b δ) →
      ∃ q dx xs o as kk o', σ[i]? = some (some (.ref q)) ∧ H q = some (.ins (He.ga X.K c) dx xs) ∧ xs.lookup x = none ∧ δ[i]? = some (some (.ob true c o)) ∧ fs δ = .ok as ∧ as.all froz = true ∧ m o as = .ok (.bool kk) o' ∧ PostS X.K xi W F0 H0 F H E (if (kk != neg) = true then a (δ.set i (some (.ob true c o'))) else b (δ.set i (some (.ob true c o')))) := by
    intro neg E σ H F0 H0 F δ st p
    unfold sIfO at p
    cases e1 : fs δ with
    | bad => rw [e1] at p; exact p.elim
    | er cc => rw [e1] at p; exact p.elim
    | ok as =>
      rw [e1] at p
      unfold neO at p
      by_cases hf : as.all froz = true
      · dsimp only at p
        rw [if_pos hf] at p
        rcases obT_ok (o := δ[i]?) (c := c) (g := fun o => if o.lookup x = none then (match m o as with
          | .ok (.bool k) o' => if (k != neg) = true then a (δ.set i (some (.ob true c o'))) else b (δ.set i (some (.ob true c o')))
          | _ => .bad) else .bad) with ⟨o, e2, e3⟩ | e3
        · rw [e3] at p
          by_cases hno : o.lookup x = none
          · rw [if_pos hno] at p
            obtain ⟨vo, ev, ⟨q, rfl, r⟩, _⟩ := st.sl i _ e2
            obtain ⟨dx, xs, h1, _, rf, _⟩ := r
            split at p
            · rename_i kk o' em
              exact ⟨q, dx, xs, o, as, kk, o', ev, h1, rf.no hno, e2, rfl, hf, em, p⟩
            · exact p.elim
          · rw [if_neg hno] at p; exact p.elim
        · rw [e3] at p; exact p.elim
      · dsimp only at p; rw [if_neg hf] at p; exact p.elim
  constructor
  · refine PS.imp (ps_if pm hA hB) ?_
    rintro E σ H ⟨F0, H0, F, δ, st, p⟩
    obtain ⟨q, dx, xs, o, as, kk, o', ev, h1, hno, e2, e1, hf, em, p⟩ := main false E σ H F0 H0 F δ st p
    refine ⟨_, ev, q, dx, xs, rfl, h1, hno, ?_⟩
    refine tA_use st (fun as' v F1 H1 e4 g1 r1 => ?_) (fun c F1 H1 e4 g1 => by rw [e1] at e4; cases e4) (fun e4 => by rw [e1] at e4; cases e4)
    rw [e1] at e4; cases e4
    rw [List.append_nil]
    refine methO_run st e2 g1 r1 hf (hl δ as e1) ev em fun v' F' H' st2 s2 rv => ?_
    cases rv
    refine ⟨kk, rfl, ?_⟩
    cases kk with
    | true => exact ⟨F0, H0, F', _, st2, PostS.later p s2⟩
    | false => exact ⟨F0, H0, F', _, st2, PostS.later p s2⟩
  · refine PS.imp (ps_if (pt_not pm) hA hB) ?_
    rintro E σ H ⟨F0, H0, F, δ, st, p⟩
    obtain ⟨q, dx, xs, o, as, kk, o', ev, h1, hno, e2, e1, hf, em, p⟩ := main true E σ H F0 H0 F δ st p
    refine ⟨_, ev, q, dx, xs, rfl, h1, hno, ?_⟩
    refine tA_use st (fun as' v F1 H1 e4 g1 r1 => ?_) (fun c F1 H1 e4 g1 => by rw [e1] at e4; cases e4) (fun e4 => by rw [e1] at e4; cases e4)
    rw [e1] at e4; cases e4
    rw [List.append_nil]
    refine methO_run st e2 g1 r1 hf (hl δ as e1) ev em fun v' F' H' st2 s2 rv => ?_
    cases rv
    refine ⟨kk, rfl, ?_⟩
    cases kk with
    | true => exact ⟨F0, H0, F', _, st2, PostS.later p s2⟩
    | false => exact ⟨F0, H0, F', _, st2, PostS.later p s2⟩
theorem pds_ifO {pl : Sem Bool} (C : CalO X.prog X.w X.K X.mg X.base c x ps j (n + 1) m) (cl : Cls X.K (He.ga X.K c)) (me : Meth X.K (He.ga X.K c) x (He.ma X.K (He.ga X.K c) x)) (hr : Room k X.A) (hj : j ≤ k) (ha : PDA X xi W (e :: es) fs) (hl : eLen n fs) (hA : PDB X xi W A a) (hB : PDB X xi W B b)
    (hN : X.N[i]? = some y := by rfl) (hv : Vis X.env.scope y := by first | exact Or.inl rfl | exact Or.inr (Or.inl rfl) | exact Or.inr (Or.inr rfl)) (hd : (y == ("__debug__" : Str)) = false := by decide) (hcd : (y == ("__classdict__" : Str)) = false := by decide)
    (hst : starEach (e :: es) X.env = (false, eval e X.env) :: starEach es X.env := by rfl) (hpl : (backTo cpos (starEach es X.env)).any (·.1) = false := by rfl)
    (ht : eval (.Call (.Attribute (.Name y p1) x apos) (e :: es) [] cpos) X.env = (do
      let ov ← eval (.Name y p1) X.env
      standAt apos.atName
      let (f, first) ← holding [ov] (getMethod ov x pl)
      callWith cpos f first (backTo cpos (starEach (e :: es) X.env)) (backToKw cpos (keywordEach [] X.env))) := by rfl)
    (hv2 : ∀ whole, isTrue (.Call (.Attribute (.Name y p1) x apos) (e :: es) [] cpos) X.env whole = (do let v ← whole; standAt (Expr.Call (.Attribute (.Name y p1) x apos) (e :: es) [] cpos).pos; holding [v] (truthy v)) := by intro _; rfl) :
    PDS X xi W (.If (.Call (.Attribute (.Name y p1) x apos) (e :: es) [] cpos) A B pos) (sIfO false i c x m fs a b) := (pds_ifO2 (npos := pos) C cl me hr hj ha hl hA hB hN hv hd hcd hst hpl ht hv2).1
theorem pds_ifNO {pl : Sem Bool} (C : CalO X.prog X.w X.K X.mg X.base c x ps j (n + 1) m) (cl : Cls X.K (He.ga X.K c)) (me : Meth X.K (He.ga X.K c) x (He.ma X.K (He.ga X.K c) x)) (hr : Room k X.A) (hj : j ≤ k) (ha : PDA X xi W (e :: es) fs) (hl : eLen n fs) (hA : PDB X xi W A a) (hB : PDB X xi W B b)
    (hN : X.N[i]? = some y := by rfl) (hv : Vis X.env.scope y := by first | exact Or.inl rfl | exact Or.inr (Or.inl rfl) | exact Or.inr (Or.inr rfl)) (hd : (y == ("__debug__" : Str)) = false := by decide) (hcd : (y == ("__classdict__" : Str)) = false := by decide)
    (hst : starEach (e :: es) X.env = (false, eval e X.env) :: starEach es X.env := by rfl) (hpl : (backTo cpos (starEach es X.env)).any (·.1) = false := by rfl)
    (ht : eval (.Call (.Attribute (.Name y p1) x apos) (e :: es) [] cpos) X.env = (do
      let ov ← eval (.Name y p1) X.env
      standAt apos.atName
      let (f, first) ← holding [ov] (getMethod ov x pl)
      callWith cpos f first (backTo cpos (starEach (e :: es) X.env)) (backToKw cpos (keywordEach [] X.env))) := by rfl)
    (hv2 : ∀ whole, isTrue (.Call (.Attribute (.Name y p1) x apos) (e :: es) [] cpos) X.env whole = (do let v ← whole; standAt (Expr.Call (.Attribute (.Name y p1) x apos) (e :: es) [] cpos).pos; holding [v] (truthy v)) := by intro _; rfl) :
    PDS X xi W (.If (.UnaryOp .Not (.Call (.Attribute (.Name y p1) x apos) (e :: es) [] cpos) npos) A B pos) (sIfO true i c x m fs a b) := (pds_ifO2 C cl me hr hj ha hl hA hB hN hv hd hcd hst hpl ht hv2).2
end
end DL

namespace DL
open PySem PySem.Spec PyProof.Rows L2
/-! ### objects made -/
structure MkC (K : PySem.W.Frag) (mg : Str → Option Value) (c : Str) : Prop where
  gl : mg c = some (.ref (He.ga K c))
  mr : Mk K (He.ga K c) (He.ma K (He.ga K c) "__init__")
/-- C(..) by its __init__: a new object -/
def newO (mi : List (Str × Fv) → List Sl → RsO) (as : List Sl) : Option (List (Str × Fv)) := if as.all froz = true then (match mi [] as with
  | .ok .none o => some o
  | _ => none) else none
def eNewO (c : Str) (mi : List (Str × Fv) → List Sl → RsO) (fs : En → Rs (List Sl)) : En → Rs Sl := fun δ => (fs δ).bind fun as => match newO mi as with
  | some o => .ok (.ob true c o)
  | none => .bad
def resO : RsO → Rs Sl
  | .ok d _ => .ok (.im d)
  | _ => .bad
/-- C(..).x() -/
def eTmpO (mi : List (Str × Fv) → List Sl → RsO) (x : Str) (m : List (Str × Fv) → List Sl → RsO) (fs : En → Rs (List Sl)) : En → Rs Sl := fun δ => (fs δ).bind fun as => match newO mi as with
  | some o => if o.lookup x = none then resO (m o []) else .bad
  | none => .bad
theorem newO_some {mi : List (Str × Fv) → List Sl → RsO} {as : List Sl} {o : List (Str × Fv)} (h : newO mi as = some o) : as.all froz = true ∧ mi [] as = .ok .none o := by
  unfold newO at h
  by_cases hf : as.all froz = true
  · rw [if_pos hf] at h
    split at h
    · rename_i o' e
      cases h
      exact ⟨hf, e⟩
    · cases h
  · rw [if_neg hf] at h; cases h
/-- __init__ at the new object -/
theorem init_run {K : PySem.W.Frag} {F H : Hp} {n : Nat} {c : Str} {mi : List (Str × Fv) → List Sl → RsO} {as : List Sl} {o : List (Str × Fv)} {vs : List V} (sm : Same F H) (r : RdL K F H vs as) (hl : as.length = n) (h : newO mi as = some o) {x dx : Addr} (hx : H x = none) (hdx : H dx = none) (ne : dx ≠ x) {Q : VK}
    (q : ∀ F' H', Grow F H F' H' → RepO K (Nw H F') F' H' x c o → Q (.ref x) H') : spO K (n + 1) c mi (.ref x :: vs) (upd (upd H dx (.own x)) x (.ins (He.ga K c) dx [])) (fun v H2 => v = .non ∧ Q (.ref x) H2) E0 := by
  obtain ⟨hf, em⟩ := newO_some h
  have s1 : Same H (upd (upd H dx (.own x)) x (.ins (He.ga K c) dx [])) := fun a u e => by
    rw [upd_ne (ne_of_none e hx), upd_ne (ne_of_none e hdx)]; exact e
  have e1 : upd (upd H dx (.own x)) x (.ins (He.ga K c) dx []) x = some (.ins (He.ga K c) dx []) := upd_same
  have e2 : upd (upd H dx (.own x)) x (.ins (He.ga K c) dx []) dx = some (.own x) := by rw [upd_ne ne]; exact upd_same
  have g1 : Grow F H F (upd (upd H dx (.own x)) x (.ins (He.ga K c) dx [])) := ⟨sm.trans s1, s1, fun _ _ _ => rfl⟩
  refine ⟨by rw [List.length_cons, r.length, hl], F, x, vs, [], as, rfl, sm.trans s1, ⟨dx, [], e1, e2, trivial, by simp [ownFs]; exact fun z => ne z.symm, fun a ha => ?_⟩, r.grow g1 sm, hf, ?_⟩
  · have : a = x ∨ a = dx := by simpa [ownFs] using ha
    rcases this with rfl | rfl
    · exact Same.none sm hx
    · exact Same.none sm hdx
  · rw [em]
    intro v F' H' gg rr rv
    have hoff : Same H (offO (upd (upd H dx (.own x)) x (.ins (He.ga K c) dx [])) x []) := fun a u e => by
      rw [offO_out fun z => ?_]
      · exact s1 a u e
      · have : a = x ∨ a = dx := by simpa [ownFs] using (OwO.iff e1).mp z
        rcases this with rfl | rfl
        · rw [hx] at e; cases e
        · rw [hdx] at e; cases e
    cases rv
    exact ⟨rfl, q F' H' ⟨gg.sm, fun a u e => gg.hh a u (hoff a u e), fun a u e => gg.ag a u (hoff a u e)⟩ (rr.imp fun a n => ⟨Same.free hoff n.1, n.2⟩)⟩
section
variable {X : Cx} {xi : Xi} {W : WX} {e : Expr} {es : List Expr} {fs : En → Rs (List Sl)} {p pos apos cpos : Pos} {j j' k n : Nat} {c x : Str} {ps ps' : List Str} {m mi : List (Str × Fv) → List Sl → RsO}
theorem pd_newO (C : CalO X.prog X.w X.K X.mg X.base c "__init__" ps j (n + 1) mi) (M : MkC X.K X.mg c) (hr : Room k X.A) (hj : j + 1 ≤ k) (ha : PDA X xi W (e :: es) fs) (hl : eLen n fs) (hg : Gl X c := by rfl)
    (hdb : (c == ("__debug__" : Str)) = false := by decide) (he : starEach (e :: es) X.env = (false, eval e X.env) :: starEach es X.env := by rfl) (hpl : (backTo cpos (starEach es X.env)).any (·.1) = false := by rfl) :
    PD X xi W (.Call (.Name c p) (e :: es) [] cpos) (eNewO c mi fs) := by
  obtain ⟨fd, F, b⟩ := C.ex
  refine PE.imp (pe_make M.mr F (hr.mono hj) hg M.gl b .nil passLN ha hdb he hpl) ?_
  rintro σ H Q ⟨F0, H0, F, δ, st, q⟩
  refine tA_use st (fun as v F1 H1 e1 g1 r1 => ?_) (fun c F1 H1 e1 g1 => by simp only [eNewO, e1, Rs.bind] at q; exact q F1 H1 g1) (fun e1 => by simp only [eNewO, e1, Rs.bind] at q; exact q)
  simp only [eNewO, e1, Rs.bind] at q
  cases e2 : newO mi as with
  | none => rw [e2] at q; exact q.elim
  | some o =>
    rw [e2] at q
    intro y dy hy hdy ne
    rw [List.append_nil]
    exact init_run g1.sm r1 (hl δ as e1) e2 hy hdy ne fun F' H' gg rr => q _ F' H' (g1.trans gg) ⟨y, rfl, rr.imp fun a n => ⟨Same.free g1.hh n.1, n.2⟩⟩
theorem pd_tmpO {pl : Sem Bool} (CI : CalO X.prog X.w X.K X.mg X.base c "__init__" ps j (n + 1) mi) (M : MkC X.K X.mg c) (C : CalO X.prog X.w X.K X.mg X.base c x ps' j' 1 m) (cl : Cls X.K (He.ga X.K c)) (me : Meth X.K (He.ga X.K c) x (He.ma X.K (He.ga X.K c) x)) (hr : Room k X.A) (hj : j + 1 ≤ k) (hj' : j' ≤ k)
    (ha : PDA X xi W (e :: es) fs) (hl : eLen n fs) (hg : Gl X c := by rfl)
    (hdb : (c == ("__debug__" : Str)) = false := by decide) (he : starEach (e :: es) X.env = (false, eval e X.env) :: starEach es X.env := by rfl) (hpl : (backTo cpos (starEach es X.env)).any (·.1) = false := by rfl)
    (ht : eval (.Call (.Attribute (.Call (.Name c p) (e :: es) [] cpos) x apos) [] [] pos) X.env = (do
      let ov ← eval (.Call (.Name c p) (e :: es) [] cpos) X.env
      standAt apos.atName
      let (f, first) ← holding [ov] (getMethod ov x pl)
      callWith pos f first (backTo pos (starEach [] X.env)) (backToKw pos (keywordEach [] X.env))) := by rfl) :
    PD X xi W (.Call (.Attribute (.Call (.Name c p) (e :: es) [] cpos) x apos) [] [] pos) (eTmpO mi x m fs) := by
  obtain ⟨fd, F, b⟩ := CI.ex
  obtain ⟨fd', F', b'⟩ := C.ex
  refine PE.imp (pe_meth0 (pe_make M.mr F (hr.mono hj) hg M.gl b .nil passLN ha hdb he hpl) cl me F' (hr.mono hj') b' .nil passLN ht) ?_
  rintro σ H Q ⟨F0, H0, F, δ, st, q⟩
  refine tA_use st (fun as v F1 H1 e1 g1 r1 => ?_) (fun c F1 H1 e1 g1 => by simp only [eTmpO, e1, Rs.bind] at q; exact q F1 H1 g1) (fun e1 => by simp only [eTmpO, e1, Rs.bind] at q; exact q)
  simp only [eTmpO, e1, Rs.bind] at q
  cases e2 : newO mi as with
  | none => rw [e2] at q; exact q.elim
  | some o =>
    rw [e2] at q
    dsimp only at q
    by_cases hno : o.lookup x = none
    · rw [if_pos hno] at q
      cases em : m o [] with
      | bad => rw [em] at q; exact q.elim
      | er c fs => rw [em] at q; exact q.elim
      | ok d o' =>
        rw [em] at q
        intro y dy hy hdy ne
        rw [List.append_nil]
        refine init_run (c := c) (Q := fun z H1 => ∃ a dx fs, z = .ref a ∧ H1 a = some (.ins (He.ga X.K c) dx fs) ∧ fs.lookup x = none ∧ tNil σ H1 fun vs H2 => spO X.K 1 c m (z :: (vs ++ [])) H2 Q E0) g1.sm r1 (hl δ as e1) e2 hy hdy ne fun F2 H2 gg rr => ?_
        obtain ⟨dx, xs, h1, h2, rf, nd, hn⟩ := id rr
        refine ⟨y, dx, xs, rfl, h1, rf.no hno, ?_⟩
        refine ⟨rfl, F2, y, [], o, [], rfl, gg.sm, rr.imp fun a n => n.2, .nil, rfl, ?_⟩
        rw [em]
        intro v' F3 H3 g3 r3 rv
        have hoff : Same H1 (offO H2 y o) := fun a u e => by
          rw [offO_out fun z => by rw [(rr.new z).1.1] at e; cases e]
          exact gg.hh a u e
        refine q v' F3 H3 ⟨g3.sm, fun a u e => g3.hh a u (hoff a u (g1.hh a u e)), fun a u e => ?_⟩ rv
        exact (g3.ag a u (hoff a u (g1.hh a u e))).trans ((gg.ag a u (g1.hh a u e)).trans (g1.ag a u e))
    · rw [if_neg hno] at q; exact q.elim
end
end DL

namespace DL
open PySem PySem.Spec PyProof.Rows L2
/-! ### enumerate of a list that is only read, in comprehensions -/
theorem pdi_enumH {X : Cx} {xi : Xi} {W : WX} {e : Expr} {fs : En → Rs (List Sl)} {elts : List Expr} {kk : Nat} {tpos p p2 : Pos} (hG : Gl X "enumerate") (hm : X.mg "enumerate" = none) (ha : PDA X xi W [e] fs)
    (hs : starEach [e] X.env = [(false, eval e X.env)] := by rfl) : PDI X xi W zH (.Tuple elts kk tpos) (.Call (.Name "enumerate" p) [e] [] p2) (iCall enH fs) := by
  refine PI.imp (EnT.pi_enumA hG hm ha hs) ?_
  rintro σ H R ⟨F0, H0, F, δ, st, p⟩
  refine tA_use st (fun x v F1 H1 e1 g1 r1 => ?_) (fun x F1 H1 e1 g1 => by simp only [iCall, e1, Rs.bind] at p; exact p F1 H1 g1) (fun e1 => by simp only [iCall, e1, Rs.bind] at p; exact p)
  simp only [iCall, e1, Rs.bind] at p
  cases e2 : enH x with
  | none => rw [e2] at p; exact p.elim
  | some q =>
    rw [e2] at p
    unfold enH at e2
    split at e2
    · obtain ⟨v1, rfl, ra⟩ := r1.one
      obtain ⟨ds, h1, rfl⟩ := Option.map_eq_some_iff.mp e2
      obtain ⟨pp, xs, rfl, hS, rr⟩ := RdR.lst g1.sm ra h1
      exact ⟨pp, xs, rfl, .inl ⟨hS, p _ F1 H1 g1 (ite_ok (fun F' H' q s => same_l q.2 hS) fun F' H' q => RpA.mono q.1 _ _ rr)⟩⟩
    · cases e2
end DL

namespace DL
open PySem PySem.Spec PyProof.Rows L2
/-! ### the keys of a dict that stands still -/
def keysD (kvs : List (Key × D)) : List D := kvs.map fun kv => keyV kv.1
theorem keysD_len {K : PySem.W.Frag} {F : Hp} {xs : List (Key × V)} {kvs : List (Key × D)} (r : RpK K F xs kvs) : (keysD kvs).length = xs.length := by
  rw [r.length]; exact List.length_map ..
theorem itk_ok {K : PySem.W.Frag} {P : Hp → Hp → Prop} {F : Hp} {d : Addr} {od : Obj} {xs : List (Key × V)} {kvs : List (Key × D)} (hd : ∀ F' H', P F' H' → Same F' H' → H' d = some (.frz od (.dK xs))) (r : RpK K F xs kvs) : ItOk K P (Itk d od xs) (keysD kvs) where
  go := fun i F' H' q s hi => ⟨hd _ _ q s, by rw [← keysD_len r]; exact hi⟩
  stop := fun F' H' q s => ⟨hd _ _ q s, by rw [keysD_len r]; exact Nat.le_refl _⟩
  yld := fun i e F' H' x H'' q s he ⟨e1, k, v, hx, ex⟩ => by
    subst ex e1
    unfold keysD at he
    rw [List.getElem?_map] at he
    obtain ⟨kv, hk, rfl⟩ := Option.map_eq_some_iff.mp he
    have ek : k = kv.1 := by
      have a : (xs.map (·.1))[i]? = some k := by rw [List.getElem?_map, hx]; rfl
      have b : (kvs.map (·.1))[i]? = some kv.1 := by rw [List.getElem?_map, hk]; rfl
      rw [r.1, b] at a
      cases a; rfl
    refine ⟨F', Grow.refl s, ?_⟩
    subst ek
    cases kv.1 with
    | inl a => exact .int a
    | inr a => exact .str a
/-! ### a comprehension over the keys of a dict of one's own -/
def noR : Rs Sl → Rs Sl
  | .ok (.im d) => .ok (.im d)
  | .ok (.ml ds) => .ok (.ml ds)
  | _ => .bad
def eCompK (i : Nat) (vs : List Nat) (t : Tg) (c : En → Rs Bool) (f : En → Rs Sl) : En → Rs Sl := fun δ => match δ[i]? with
  | some (some (.dc kvs)) => noR (eComp (fun _ => .ok (keysD kvs)) vs t c f (δ.set i none))
  | _ => .bad
theorem Grow.off {F H F' H' : Hp} {d : Addr} {od : Obj} {xs : List (Key × V)} (hd : H d = some (.dK xs)) (nF : F d = none) (g : Grow (upd F d (.frz od (.dK xs))) (upd H d (.frz od (.dK xs))) F' H') : F' d = some (.frz od (.dK xs)) ∧ H' d = some (.frz od (.dK xs)) ∧ Grow F H (offA F' d) (upd H' d (.dK xs)) := by
  refine ⟨(g.ag d _ upd_same).trans upd_same, g.hh d _ upd_same, off_sm g.sm _, fun b o e => ?_, fun b o e => ?_⟩
  · by_cases z : b = d
    · subst z; rw [hd] at e; cases e; exact upd_same
    · rw [upd_ne z]; exact g.hh b o (by rw [upd_ne z]; exact e)
  · by_cases z : b = d
    · subst z; rw [off_same, nF]
    · rw [off_ne z]; exact (g.ag b o (by rw [upd_ne z]; exact e)).trans (upd_ne z)
section
variable {X : Cx} {xi : Xi} {W : WX} {elt tg : Expr} {ifs : List Expr} {scope : Scope} {own : List (Str × Nat)} {pos p1 : Pos} {g : TG} {t : Tg} {c : En → Rs Bool} {f : En → Rs Sl}
theorem pd_lcK {vs : List Nat} {i : Nat} {x : Str} (hc : X.calm = true) (hNn : X.N.Nodup) (ok : BlkOk X.N X.env.scope scope own) (ho : OwnTg X.K (own.map (·.2)) g t)
    (hg : ∀ (s : Shared) (H : Hp) (C : Addr) (cl : List (Str × Addr)) (fp : List Addr), PG (X.blk s H scope (compEnvC scope cl C X.env) fp) tg g)
    (ht : ∀ (s : Shared) (H : Hp) (C : Addr) (cl : List (Str × Addr)) (fp : List Addr), PDTs (X.blk s H scope (compEnvC scope cl C X.env) fp) [] WF ifs c)
    (he : ∀ (s : Shared) (H : Hp) (C : Addr) (cl : List (Str × Addr)) (fp : List Addr), PD (X.blk s H scope (compEnvC scope cl C X.env) fp) [] WF elt f)
    (hN : X.N[i]? = some x := by rfl) (hv : Vis X.env.scope x := by first | exact Or.inl rfl | exact Or.inr (Or.inl rfl) | exact Or.inr (Or.inr rfl)) (hd : (x == ("__debug__" : Str)) = false := by decide) (hcd : (x == ("__classdict__" : Str)) = false := by decide)
    (hs : ∀ z, foldedSetIterable (.Name x p1) X.env z = pure z := by intro _; rfl) (hvs : own.map (·.2) = vs := by rfl) : PD X [] W (.ListComp elt [⟨tg, .Name x p1, ifs, 0⟩] scope pos) (eCompK i vs t c f) := by
  subst hvs
  refine PE.imp (pe_lock (pe_lc hc hNn (pi_keys (pe_var hN hv hd hcd)) ok hg (tt := tT X.K [] WF c) ht (te := tD X.K [] WF f) he hs)) ?_
  rintro σ H Q ⟨F0, H0, F, δ, st, p⟩
  unfold eCompK at p
  split at p
  · rename_i kvs e2
    obtain ⟨vo, ev, ⟨pp, xs, rfl, n0, nF, hpp, r⟩, _⟩ := st.sl i _ e2
    refine ⟨pp, .dK xs, hpp, trivial, fun od => ?_⟩
    have st1 := st.lock e2 ev nF (.frz od (.dK xs)) n0
    have cm := comp_of (K := X.K) (W := W) (it := fun _ => .ok (keysD kvs)) (c := c) (f := f) ho σ (upd H pp (.frz od (.dK xs))) (fun v H' => H' pp = some (.frz od (.dK xs)) ∧ Q v (upd H' pp (.dK xs))) ⟨F0, H0, _, _, st1, by
      cases eR : eComp (fun _ => .ok (keysD kvs)) (own.map (·.2)) t c f (δ.set i none) with
      | bad => rw [eR] at p; exact p.elim
      | er y => rw [eR] at p; exact p.elim
      | ok s =>
        rw [eR] at p
        intro v F' H' gg rr
        obtain ⟨f1, h1, g1⟩ := Grow.off hpp nF gg
        refine ⟨h1, ?_⟩
        cases s with
        | im d => exact p v _ _ g1 (Rp.sub (off_lst f1) (off_tup f1) _ _ rr)
        | ml ds =>
          obtain ⟨a, ys, e, n, nf, hh, ra⟩ := rr
          have ne : a ≠ pp := fun z => by subst z; rw [upd_same] at n; cases n
          exact p v _ _ g1 ⟨a, ys, e, by rw [upd_ne ne] at n; exact n, (off_ne ne).trans nf, (upd_ne ne).trans hh, RpA.sub (off_lst f1) (off_tup f1) _ _ ra⟩
        | _ => exact p.elim⟩
    obtain ⟨F0', H0', F', δ', st', k⟩ := cm
    refine ⟨_, ev, pp, od, rfl, .inl ⟨xs, upd_same, ?_⟩⟩
    exact k _ F' _ (Grow.refl st'.sm) (itk_ok (fun F'' H'' q s => q.2 _ _ upd_same) r)
  · exact p.elim
end
/-! ### xs[::-1] -/
theorem RpA.rev {K : PySem.W.Frag} {F : Hp} : ∀ {vs : List V} {ds : List D}, RpA K F vs ds → RpA K F vs.reverse ds.reverse
  | _, _, .nil => .nil
  | _, _, .cons h t => by
    rw [List.reverse_cons, List.reverse_cons]
    exact (RpA.rev t).append (.cons h .nil)
def eRevL (f : En → Rs Sl) : En → Rs Sl := fun δ => (f δ).bind fun s => match lstOf s with
  | some ds => .ok (.ml ds.reverse)
  | none => .bad
theorem pd_revL {X : Cx} {xi : Xi} {W : WX} {e : Expr} {f : En → Rs Sl} {k : Nat} {p1 p2 p3 pos : Pos} (he : PD X xi W e f) : PD X xi W (.Subscript e (.Slice none none (some (.UnaryOp .USub (.Constant (.int 1) k p1) p2)) p3) pos) (eRevL f) := by
  refine PE.imp (pe_revL he) ?_
  rintro σ H Q ⟨F0, H0, F, δ, st, p⟩
  refine tD_use st (fun x v F1 H1 e1 g1 r1 => ?_) (fun c F1 H1 e1 g1 => by simp only [eRevL, e1, Rs.bind] at p; exact p F1 H1 g1) (fun e1 => by simp only [eRevL, e1, Rs.bind] at p; exact p)
  simp only [eRevL, e1, Rs.bind] at p
  cases el : lstOf x with
  | none => rw [el] at p; exact p.elim
  | some ds =>
    rw [el] at p
    obtain ⟨a, xs, rfl, hS, rr⟩ := RdR.lst g1.sm r1.rd el
    refine ⟨a, xs, rfl, hS, fun z hz => ?_⟩
    exact p _ F1 _ (g1.trans (Grow.newO g1.sm hz)) ⟨z, _, rfl, Same.free g1.hh hz, Same.none g1.sm hz, upd_same, rr.rev⟩
/-! ### for x in o.f, f a dict: it stands still, nothing more is known of it behind -/
def sForFK (i : Nat) (c n : Str) (t : Tg) (b : En → Out) : En → Out := fun δ => obT δ[i]? c fun fs => match fs.lookup n with
  | some (.dc kvs) => noX (forL t b (keysD kvs) (δ.set i (some (.ob true c (putFv n .un fs)))))
  | _ => .bad
section
variable {K : PySem.W.Frag} {xi : Xi} {F0 H0 F H : Hp} {σ : L2.St} {δ : En}
theorem RepFs.drop {n : Str} {q : Addr} {u : HO} {fv : Fv} (nF : F q = none) (o1 : ownF (.ref q) fv = [q]) : ∀ {xs : List (Str × V)} {fs : List (Str × Fv)}, RepFs K F H xs fs → (ownFs xs fs).Nodup → fs.lookup n = some fv → xs.lookup n = some (.ref q) →
    RepFs K (upd F q u) (upd H q u) xs (putFv n .un fs) ∧ (∀ a ∈ ownFs xs (putFv n .un fs), a ∈ ownFs xs fs ∧ a ≠ q) ∧ (ownFs xs (putFv n .un fs)).Nodup
  | [], [], _, _, e, _ => by simp at e
  | [], _ :: _, r, _, _, _ => r.elim
  | _ :: _, [], r, _, _, _ => r.elim
  | (k, x) :: xs, (k', g) :: fs, ⟨r1, r2, r3⟩, nd, e, e' => by
    have r1 : k = k' := r1
    subst r1
    have nd : (ownF x g ++ ownFs xs fs).Nodup := nd
    rw [List.nodup_append] at nd
    by_cases h : n = k
    · have hb : (n == k) = true := beq_iff_eq.mpr h
      simp only [List.lookup, hb] at e e'
      cases e; cases e'
      have e2 : putFv n .un ((k, fv) :: fs) = (k, .un) :: fs := if_pos h.symm
      rw [e2]
      have nq : ∀ a ∈ ownFs xs fs, a ≠ q := fun a ha z => nd.2.2 q (by rw [o1]; simp) a ha z.symm
      refine ⟨⟨rfl, trivial, r3.frame (Same.new nF) fun a ha => upd_ne (nq a ha)⟩, fun a ha => ?_, ?_⟩
      · have ha : a ∈ ownFs xs fs := by simpa [ownFs, ownF] using ha
        exact ⟨List.mem_append_right _ ha, nq a ha⟩
      · simpa [ownFs, ownF] using nd.2.1
    · have hb : (n == k) = false := beq_eq_false_iff_ne.mpr h
      simp only [List.lookup, hb] at e e'
      have e2 : putFv n .un ((k, g) :: fs) = (k, g) :: putFv n .un fs := if_neg fun z => h z.symm
      rw [e2]
      obtain ⟨i1, i2, i3⟩ := RepFs.drop (u := u) nF o1 r3 nd.2.1 e e'
      have hq : q ∈ ownFs xs fs := by
        obtain ⟨w, h1, _, h3⟩ := RepFs.get r3 e
        rw [e'] at h1; cases h1
        exact h3 q (by rw [o1]; simp)
      have nq : ∀ a ∈ ownF x g, a ≠ q := fun a ha z => nd.2.2 a ha q hq z
      refine ⟨⟨rfl, r2.frame (Same.new nF) fun a ha => upd_ne (nq a ha), i1⟩, fun a ha => ?_, ?_⟩
      · rcases List.mem_append.mp ha with ha | ha
        · exact ⟨List.mem_append_left _ ha, nq a ha⟩
        · exact ⟨List.mem_append_right _ (i2 a ha).1, (i2 a ha).2⟩
      · show (ownF x g ++ ownFs xs (putFv n .un fs)).Nodup
        rw [List.nodup_append]
        exact ⟨nd.1, i3, fun a ha b hb => nd.2.2 a ha b (i2 b hb).1⟩
/-- the dict of an object's field is locked -/
theorem Stt.lockF (st : Stt K xi F0 H0 F H σ δ) {i : Nat} {c n : Str} {fs : List (Str × Fv)} {kvs : List (Key × D)} {p q dx : Addr} {xs : List (Str × V)} (e : δ[i]? = some (some (.ob true c fs))) (ev : σ[i]? = some (some (.ref p))) (r : RepO K (Nw H0 F) F H p c fs) (hp : H p = some (.ins (He.ga K c) dx xs))
    (hl : fs.lookup n = some (.dc kvs)) (hx : xs.lookup n = some (.ref q)) (u : HO) : H0 q = none ∧ F q = none ∧ q ≠ p ∧ Stt K xi F0 H0 (upd F q u) (upd H q u) σ (δ.set i (some (.ob true c (putFv n .un fs)))) := by
  obtain ⟨dx', xs', h1, h2, rf, nd, hn⟩ := r
  rw [hp] at h1; cases h1
  have hq : q ∈ ownFs xs fs := by
    obtain ⟨w, h1, _, h3⟩ := RepFs.get rf hl
    rw [hx] at h1; cases h1
    exact h3 q (by simp [ownF])
  have nq := hn q (List.mem_cons_of_mem _ (List.mem_cons_of_mem _ hq))
  have nd1 := List.nodup_cons.mp nd
  have nd2 := List.nodup_cons.mp nd1.2
  have qp : q ≠ p := fun z => nd1.1 (z ▸ List.mem_cons_of_mem _ hq)
  have qd : q ≠ dx := fun z => nd2.1 (z ▸ hq)
  obtain ⟨q1, q2, q3⟩ := RepFs.drop (u := u) (n := n) nq.2 (by simp [ownF]) rf nd2.2 hl hx
  have own1 : ∀ a, a ∈ p :: dx :: ownFs xs fs → Ow H (.ref p) (.ob true c fs) a := fun a ha => ⟨p, rfl, (OwO.iff hp).mpr ha⟩
  have hp' : upd H q u p = some (.ins (He.ga K c) dx xs) := (upd_ne qp.symm).trans hp
  refine ⟨nq.1, nq.2, qp, st.chng e ev (fun b o z => ?_) (fun b o z => by rw [upd_ne (ne_of_none z nq.1)]; exact st.hh b o z) (fun b o z => (upd_ne (ne_of_none z nq.1)).trans (st.ag b o z)) (Same.new nq.2) (fun a o na ha => ?_)
    (t := .ob true c (putFv n .un fs)) ⟨p, rfl, dx, xs, hp', (upd_ne qd.symm).trans h2, q1, ?_, fun a ha => ?_⟩ rfl (fun _ h => nomatch h) (fun a ha => ?_)⟩
  · by_cases y : b = q
    · subst y; rw [upd_same] at z ⊢; exact z
    · rw [upd_ne y] at z ⊢; exact st.sm b o z
  · have ne : a ≠ q := fun z => na (own1 a (by rw [z]; exact List.mem_cons_of_mem _ (List.mem_cons_of_mem _ hq)))
    exact ⟨(upd_ne ne).trans ha, upd_ne ne⟩
  · rw [List.nodup_cons, List.nodup_cons]
    refine ⟨fun h => ?_, fun h => nd2.1 (q2 dx h).1, q3⟩
    rcases List.mem_cons.mp h with h | h
    · exact nd1.1 (h ▸ List.mem_cons_self ..)
    · exact nd1.1 (List.mem_cons_of_mem _ (q2 p h).1)
  · have : a ≠ q ∧ a ∈ p :: dx :: ownFs xs fs := by
      rcases List.mem_cons.mp ha with rfl | ha
      · exact ⟨qp.symm, List.mem_cons_self ..⟩
      · rcases List.mem_cons.mp ha with rfl | ha
        · exact ⟨qd.symm, List.mem_cons_of_mem _ (List.mem_cons_self ..)⟩
        · exact ⟨(q2 a ha).2, List.mem_cons_of_mem _ (List.mem_cons_of_mem _ (q2 a ha).1)⟩
    exact ⟨(hn a this.2).1, (upd_ne this.1).trans (hn a this.2).2⟩
  · obtain ⟨z, hz, ho⟩ := ha
    cases hz
    have := (OwO.iff hp').mp ho
    refine .inl (own1 a ?_)
    rcases List.mem_cons.mp this with rfl | ha
    · exact List.mem_cons_self ..
    · rcases List.mem_cons.mp ha with rfl | ha
      · exact List.mem_cons_of_mem _ (List.mem_cons_self ..)
      · exact List.mem_cons_of_mem _ (List.mem_cons_of_mem _ (q2 a ha).1)
end
section
variable {X : Cx} {xi : Xi} {W : WX} {b : En → Out} {tg : Expr} {pos pos' p1 apos cpos : Pos} {A : List Stmt} {t : Tg} {i j k k' : Nat} {x y c n z : Str} {ps : List Str} {m : List (Str × Fv) → List Sl → RsO}
theorem pds_forFK (hp : PassesOwn (model X.prog X.w) X.A X.env X.xe) (hc : X.calm = true) (hC : Cls X.K (He.ga X.K c)) (hn : NoAttr X.K (He.ga X.K c) n) (hg : PDG X xi tg t) (hb : PDB X xi W A b) (hN : X.N[i]? = some x := by rfl) (hv : Vis X.env.scope x := by first | exact Or.inl rfl | exact Or.inr (Or.inl rfl) | exact Or.inr (Or.inr rfl))
    (hd : (x == ("__debug__" : Str)) = false := by decide) (hcd : (x == ("__classdict__" : Str)) = false := by decide) (hba : attributeBase (.Name x p1) n X.env (eval (.Name x p1) X.env) = eval (.Name x p1) X.env := by rfl)
    (hs : ∀ z, foldedSetIterable (.Attribute (.Name x p1) n apos) X.env z = pure z := by intro _; rfl) :
    PDS X xi W (.For tg (.Attribute (.Name x p1) n apos) A [] pos) (sForFK i c n t b) := by
  refine PS.imp (ps_lock (ps_for hp hc (pi_keys (pe_fld (pe_var hN hv hd hcd) hba)) hg hb hs)) ?_
  rintro E σ H ⟨F0, H0, F, δ, st, p⟩
  unfold sForFK at p
  rcases obT_ok (o := δ[i]?) (c := c) (g := fun fs => match fs.lookup n with
    | some (.dc kvs) => noX (forL t b (keysD kvs) (δ.set i (some (.ob true c (putFv n .un fs)))))
    | _ => .bad) with ⟨fs, e2, e3⟩ | e3
  · rw [e3] at p
    split at p
    · rename_i kvs hl
      obtain ⟨vo, ev, ⟨a, rfl, ro⟩, _⟩ := st.sl i _ e2
      obtain ⟨dx, xo, h1, h2, rf, nd, hnw⟩ := id ro
      obtain ⟨w, hw, ⟨q, xs, rfl, hq, r⟩, _⟩ := rf.get hl
      refine ⟨q, .dK xs, hq, trivial, fun od => ?_⟩
      obtain ⟨n0, nF, qp, st1⟩ := st.lockF e2 ev ro h1 hl hw (.frz od (.dK xs))
      have p1 := PostS.lock (od := od) (xs := xs) n0 nF p
      have hF : upd F q (.frz od (.dK xs)) q = some (.frz od (.dK xs)) := upd_same
      have ha : upd H q (.frz od (.dK xs)) a = some (.ins (He.ga X.K c) dx xo) := (upd_ne qp.symm).trans h1
      refine ⟨_, ev, a, _, dx, xo, _, rfl, ha, hC, hn, hw, q, od, rfl, .inl ⟨xs, upd_same, ?_⟩⟩
      have j := itk_ok (K := X.K) (P := zF (upd F q (.frz od (.dK xs))) (upd H q (.frz od (.dK xs)))) (od := od) (d := q) (fun F' H' q s => s _ _ (q _ _ hF)) r
      generalize (⟨fun σ' H' => H' q = some (.frz od (.dK xs)) ∧ E.nx σ' (upd H' q (.dK xs)), fun v H' => H' q = some (.frz od (.dK xs)) ∧ E.rt v (upd H' q (.dK xs)), fun σ' H' => H' q = some (.frz od (.dK xs)) ∧ E.bk σ' (upd H' q (.dK xs)), fun σ' H' => H' q = some (.frz od (.dK xs)) ∧ E.ct σ' (upd H' q (.dK xs))⟩ : Ends) = E1 at p1 ⊢
      generalize upd F q (.frz od (.dK xs)) = F1 at *
      generalize upd H q (.frz od (.dK xs)) = H1 at *
      generalize keysD kvs = ds at *
      generalize δ.set i (some (.ob true c (putFv n .un fs))) = δ1 at *
      refine ⟨fun i m σ H => m = ds.length - i ∧ i ≤ ds.length ∧ ∃ F' δ, Stt X.K xi F0 H0 F' H σ δ ∧ Same F1 F' ∧ PostS X.K xi W F0 H0 F' H E1 (forL t b (ds.drop i) δ), ⟨_, rfl, Nat.zero_le _, F1, δ1, st1, Same.refl F1, p1⟩, ?_⟩
      rintro i m σ2 H2 ⟨rfl, hi, F', δ', st', s', q⟩
      by_cases hlt : i < ds.length
      · have hd : ds[i]? = some ds[i] := List.getElem?_eq_getElem hlt
        rw [forL_drop hd] at q
        refine .inr ⟨j.go i F' H2 s' st'.sm hlt, fun σ' H' => ∃ F' δ, Stt X.K xi F0 H0 F' H' σ' δ ∧ Same F1 F' ∧ PostS X.K xi W F0 H0 F' H' E1 (forL t b (ds.drop (i + 1)) δ), fun σ' H' h => ⟨ds.length - (i + 1), by omega, rfl, hlt, h⟩, fun x H3 y => ?_⟩
        obtain ⟨F3, g3, rx⟩ := j.yld i _ F' H2 x H3 s' st'.sm hd y
        cases e2 : t (.im ds[i]) δ' with
        | none => rw [e2] at q; exact q.elim
        | some δ1 =>
          rw [e2] at q
          refine ⟨F0, H0, F', H2, F3, δ', .im ds[i], δ1, st', g3, rx, e2, fun σ4 F4 st4 s4 => ⟨F0, H0, F4, δ1, st4, ?_⟩⟩
          exact lp_step (PostS.later (H1 := H3) q s4) fun σ5 F5 H5 δ5 st5 s5 q5 => ⟨F5, δ5, st5, (s'.trans s4).trans s5, q5⟩
      · have e : i = ds.length := by omega
        subst e
        rw [List.drop_length] at q
        exact .inl ⟨j.stop F' H2 s' st'.sm, q σ2 F' H2 st' (Same.refl F')⟩
    · exact p.elim
  · rw [e3] at p; exact p.elim
/-- y = o.x(), a method that changes o -/
def sAsgO (j i : Nat) (c x : Str) (m : List (Str × Fv) → List Sl → RsO) : En → Out := fun δ => obT δ[i]? c fun o => if o.lookup x = none then (match m o [] with
  | .ok d o' => .nx ((δ.set i (some (.ob true c o'))).set j (some (.im d)))
  | _ => .bad) else .bad
theorem pds_asgO {pl : Sem Bool} (hNn : X.N.Nodup) (hx : XiOk xi j) (C : CalO X.prog X.w X.K X.mg X.base c x ps k' 1 m) (cl : Cls X.K (He.ga X.K c)) (me : Meth X.K (He.ga X.K c) x (He.ma X.K (He.ga X.K c) x)) (hr : Room k X.A) (hj : k' ≤ k)
    (hi : X.N[j]? = some z := by rfl) (hl : Loc X.env.scope z := by first | exact Or.inl rfl | exact Or.inr rfl)
    (hN : X.N[i]? = some y := by rfl) (hv : Vis X.env.scope y := by first | exact Or.inl rfl | exact Or.inr (Or.inl rfl) | exact Or.inr (Or.inr rfl)) (hd : (y == ("__debug__" : Str)) = false := by decide) (hcd : (y == ("__classdict__" : Str)) = false := by decide)
    (ht : eval (.Call (.Attribute (.Name y p1) x apos) [] [] cpos) X.env = (do
      let ov ← eval (.Name y p1) X.env
      standAt apos.atName
      let (f, first) ← holding [ov] (getMethod ov x pl)
      callWith cpos f first (backTo cpos (starEach [] X.env)) (backToKw cpos (keywordEach [] X.env))) := by rfl)
    (hs : swapsWith (.Call (.Attribute (.Name y p1) x apos) [] [] cpos) (some (.Name z pos')) pos.line X.env = pure false := by rfl)
    (hf : X.fn z = true ∨ X.env.scope.names.lookup z = some .local := by first | exact .inl rfl | exact .inr rfl | assumption) : PDS X xi W (.Assign [.Name z pos'] (.Call (.Attribute (.Name y p1) x apos) [] [] cpos) pos) (sAsgO j i c x m) := by
  obtain ⟨fd, F, bb⟩ := C.ex
  refine PS.imp (ps_set hNn hi hl (pe_meth0 (pe_var hN hv hd hcd) cl me F (hr.mono hj) bb .nil passLN ht) hs hf) ?_
  rintro E σ H ⟨F0, H0, F, δ, st, p⟩
  unfold sAsgO at p
  rcases obT_ok (o := δ[i]?) (c := c) (g := fun o => if o.lookup x = none then (match m o [] with
    | .ok d o' => .nx ((δ.set i (some (.ob true c o'))).set j (some (.im d)))
    | _ => .bad) else .bad) with ⟨o, e2, e3⟩ | e3
  · rw [e3] at p
    by_cases hno : o.lookup x = none
    · rw [if_pos hno] at p
      obtain ⟨vo, ev, ⟨q, rfl, r⟩, _⟩ := st.sl i _ e2
      obtain ⟨dx, xs, h1, _, rf, _⟩ := r
      cases em : m o [] with
      | bad => rw [em] at p; exact p.elim
      | er y f => rw [em] at p; exact p.elim
      | ok d o' =>
        rw [em] at p
        refine ⟨_, ev, q, dx, xs, rfl, h1, rf.no hno, ?_⟩
        refine methO_run (n := 0) (as := []) (v := []) st e2 (Grow.refl st.sm) .nil rfl rfl ev em fun v F' H' st2 s2 rv => ?_
        exact p _ F' H' (st2.set (s := .im d) (Grow.refl st2.sm) rv rfl hx) s2
    · rw [if_neg hno] at p; exact p.elim
  · rw [e3] at p; exact p.elim
end
end DL

namespace DL
open PySem PySem.Spec PyProof.Rows L2
/-! ### methods that may raise -/
def tMethS (C : Addr) (m : Str) (sp : Sp) (E : L2.St → XK) (ta : TE) (t : TA) : TE := fun σ H Q => ta σ H fun x H1 => ∃ a dx fs, x = .ref a ∧ H1 a = some (.ins C dx fs) ∧ fs.lookup m = none ∧ t σ H1 fun vs H2 => sp (x :: vs) H2 Q (E σ)
theorem pe_methS {X : Cx} {CX : CXT} {k : Nat} {f C : Addr} {fd : FuncData} {ps : List Str} {sp : Sp} {E : L2.St → XK} {m : Str} {pos apos : Pos} {e o : Expr} {es : List Expr} {ta : TE} {t : TA} {pl : Sem Bool} (he : PE X o ta) (c : Cls X.K C) (hm : Meth X.K C m f) (F : FnOk X.prog X.w X.K X.mg X.base CX k f fd ps sp) (hr : Room k X.A) (hb : Binds X.K fd ps []) (hx : ∀ σ, PassesAt CX X σ (E σ)) (ha : PA X (e :: es) t)
    (hst : starEach (e :: es) X.env = (false, eval e X.env) :: starEach es X.env := by rfl) (hpl : (backTo pos (starEach es X.env)).any (·.1) = false := by rfl)
    (ht : eval (.Call (.Attribute o m apos) (e :: es) [] pos) X.env = (do
      let ov ← eval o X.env
      standAt apos.atName
      let (f, first) ← holding [ov] (getMethod ov m pl)
      callWith pos f first (backTo pos (starEach (e :: es) X.env)) (backToKw pos (keywordEach [] X.env))) := by rfl) :
    PE X (.Call (.Attribute o m apos) (e :: es) [] pos) (tMethS C m sp E ta t) := by
  refine ⟨fun pins s σ H Q I h => ?_⟩
  refine PySem.W.methodCall_KW (pl := pl) (thn (he.run pins s σ H _ I h) fun u s1 ⟨x, H1, I1, rx, a, dx, fs, ex, ea, l, q⟩ => ?_) ht
  subst ex
  obtain rfl : u = Value.ref a := rx
  refine getmeth_ok I1 ea c hm l ?_
  refine PySem.W.callWith_K (first := [.ref a]) (h₀ := X.base) I.ok.mod.kin hm.kp (thn (ha.run pos pins s1 σ H1 _ I1 q) fun us s2 ⟨vs, H2, I2, r, q2⟩ => ⟨I2.kIn, ?_⟩) hst hpl
  exact run_fnS (us := .ref a :: us) (vs := .ref a :: vs) F hr hb (hx σ) I2 (.cons rfl r) q2
/-- o.x(..), a method that leaves o as it is, and may raise -/
def eMethE (i : Nat) (c x : Str) (m : List Sl → Rs Sl) (fs : En → Rs (List Sl)) : En → Rs Sl := fun δ => match fs δ with
  | .ok as => fldO δ[i]? c fun o => if as.all froz = true ∧ o.lookup x = none then m (.ob false c o :: as) else .bad
  | _ => .bad
section
variable {X : Cx} {xi : Xi} {W : WX} {e : Expr} {es : List Expr} {fs : En → Rs (List Sl)} {p1 pos apos cpos tpos : Pos} {i j k n : Nat} {y c x : Str} {ps ns ms : List Str}
theorem pd_methE {m : List Sl → Rs Sl} {pl : Sem Bool} (C : CalB X.prog X.w X.K X.mg X.base c x ps j (n + 1) m) (cl : Cls X.K (He.ga X.K c)) (me : Meth X.K (He.ga X.K c) x (He.ma X.K (He.ga X.K c) x)) (hr : Room k X.A) (hj : j ≤ k) (tk : L2N.Takes X W) (ha : PDA X xi W (e :: es) fs) (hl : eLen n fs)
    (hN : X.N[i]? = some y := by rfl) (hv : Vis X.env.scope y := by first | exact Or.inl rfl | exact Or.inr (Or.inl rfl) | exact Or.inr (Or.inr rfl)) (hd : (y == ("__debug__" : Str)) = false := by decide) (hcd : (y == ("__classdict__" : Str)) = false := by decide)
    (hst : starEach (e :: es) X.env = (false, eval e X.env) :: starEach es X.env := by rfl) (hpl : (backTo pos (starEach es X.env)).any (·.1) = false := by rfl)
    (ht : eval (.Call (.Attribute (.Name y p1) x apos) (e :: es) [] pos) X.env = (do
      let ov ← eval (.Name y p1) X.env
      standAt apos.atName
      let (f, first) ← holding [ov] (getMethod ov x pl)
      callWith pos f first (backTo pos (starEach (e :: es) X.env)) (backToKw pos (keywordEach [] X.env))) := by rfl) :
    PD X xi W (.Call (.Attribute (.Name y p1) x apos) (e :: es) [] pos) (eMethE i c x m fs) := by
  obtain ⟨fd, F, b⟩ := C.ex
  refine PE.imp (pe_methS (pe_var hN hv hd hcd) cl me F (hr.mono hj) b (fun σ => L2N.passAt tk σ) ha hst hpl ht) ?_
  rintro σ H Q ⟨F0, H0, F, δ, st, p⟩
  have hbad : ∀ {as : List Sl}, fs δ = .ok as → ∃ b o, δ[i]? = some (some (.ob b c o)) ∧ as.all froz = true ∧ o.lookup x = none ∧ eMethE i c x m fs δ = m (.ob false c o :: as) := fun {as} e1 => by
    have e0 : eMethE i c x m fs δ = fldO δ[i]? c fun o => if as.all froz = true ∧ o.lookup x = none then m (.ob false c o :: as) else .bad := by unfold eMethE; rw [e1]
    rcases fldO_ok (o := δ[i]?) (c := c) (g := fun o => if as.all froz = true ∧ o.lookup x = none then m (.ob false c o :: as) else .bad) with ⟨b, o, e2, e3⟩ | e3
    · by_cases h : as.all froz = true ∧ o.lookup x = none
      · exact ⟨b, o, e2, h.1, h.2, by rw [e0, e3, if_pos h]⟩
      · rw [e0, e3, if_neg h] at p; exact p.elim
    · rw [e0, e3] at p; exact p.elim
  cases e1 : fs δ with
  | bad => unfold eMethE at p; rw [e1] at p; exact p.elim
  | er cc => unfold eMethE at p; rw [e1] at p; exact p.elim
  | ok as =>
    obtain ⟨b, o, e2, hf, hno, e3⟩ := hbad e1
    rw [e3] at p
    obtain ⟨a, ea, r⟩ := st.obj e2
    obtain ⟨dx, xs, h1, h2, rf, nd, _⟩ := id r
    refine ⟨_, ea, a, dx, xs, rfl, h1, rf.no hno, ?_⟩
    refine tA_use st (fun as' v F1 H1 e4 g1 r1 => ?_) (fun c F1 H1 e4 g1 => by rw [e1] at e4; cases e4) (fun e4 => by rw [e1] at e4; cases e4)
    rw [e1] at e4; cases e4
    refine ⟨by rw [List.length_cons, r1.length, hl δ as e1], F1, a, v, o, as, rfl, g1.sm, r.later g1.hh (g1.ff st.sm), r1, hf, ?_⟩
    cases em : m (.ob false c o :: as) with
    | ok s =>
      rw [em] at p
      exact fun v F' H' gg r => p v F' H' (g1.trans gg) (r.pre g1.hh)
    | er c => rw [em] at p; exact fun F' H' gg => p F' H' (g1.trans gg)
    | bad => rw [em] at p; exact p.elim
/-- the call of a method or a def that changes its object; its ends -/
theorem methO_runE {K : PySem.W.Frag} {F0 H0 F H : Hp} {σ : L2.St} {δ : En} {as : List Sl} {o : List (Str × Fv)} {Q : VK} {E : XK} {m : List (Str × Fv) → List Sl → RsO} (st : Stt K xi F0 H0 F H σ δ) (e2 : δ[i]? = some (some (.ob true c o))) {v : List V} {F1 H1 : Hp} (g1 : Grow F H F1 H1) (r1 : RdL K F1 H1 v as) (hf : as.all froz = true) (hl : as.length = n) {q : Addr} (eq : σ[i]? = some (some (.ref q)))
    (h1 : ∀ d o', m o as = .ok d o' → ∀ v F' H', Stt K xi F0 H0 F' H' σ (δ.set i (some (.ob true c o'))) → Same F F' → Rp K F' v d → Q v H')
    (h2 : ∀ x o', m o as = .er x o' → ∀ F' H', Stt K xi F0 H0 F' H' σ (δ.set i (some (.ob true c o'))) → Same F F' → E (cvOf K x) none H') (h3 : m o as = .bad → False) : spO K (n + 1) c m (.ref q :: v) H1 Q E := by
  have st1 := st.grow g1
  obtain ⟨vo, ev, ⟨q', rfl, r⟩, _⟩ := st1.sl i _ e2
  rw [eq] at ev; cases ev
  refine ⟨by rw [List.length_cons, r1.length, hl], F1, q, v, o, as, rfl, g1.sm, r.imp fun a n => n.2, r1, hf, ?_⟩
  cases em : m o as with
  | ok d o' =>
    intro v' F' H' gg rr rv
    obtain ⟨st2, s2⟩ := st1.called e2 eq gg rr
    exact h1 d o' em v' F' H' st2 ((g1.ff st.sm).trans s2) rv
  | er x o' =>
    intro F' H' gg rr
    obtain ⟨st2, s2⟩ := st1.called e2 eq gg rr
    exact h2 x o' em F' H' st2 ((g1.ff st.sm).trans s2)
  | bad => exact h3 em
def retOb (r : RsO) (i : Nat) (c : Str) (δ : En) : Out := match r with
  | .ok d o' => .rm d (δ.set i (some (.ob true c o')))
  | .er e o' => .er e (δ.set i (some (.ob true c o')))
  | .bad => .bad
/-- return o.x(..), a method that changes o, and may raise -/
def sRetMO (i : Nat) (c x : Str) (m : List (Str × Fv) → List Sl → RsO) (fs : En → Rs (List Sl)) : En → Out := fun δ => neO (fs δ) fun as => obT δ[i]? c fun o => if o.lookup x = none then retOb (m o as) i c δ else .bad
theorem pds_retMO {m : List (Str × Fv) → List Sl → RsO} {pl : Sem Bool} (C : CalO X.prog X.w X.K X.mg X.base c x ps j (n + 1) m) (cl : Cls X.K (He.ga X.K c)) (me : Meth X.K (He.ga X.K c) x (He.ma X.K (He.ga X.K c) x)) (hr : Room k X.A) (hj : j ≤ k) (tk : L2N.Takes X W) (ha : PDA X xi W (e :: es) fs) (hl : eLen n fs)
    (hN : X.N[i]? = some y := by rfl) (hv : Vis X.env.scope y := by first | exact Or.inl rfl | exact Or.inr (Or.inl rfl) | exact Or.inr (Or.inr rfl)) (hd : (y == ("__debug__" : Str)) = false := by decide) (hcd : (y == ("__classdict__" : Str)) = false := by decide)
    (hst : starEach (e :: es) X.env = (false, eval e X.env) :: starEach es X.env := by rfl) (hpl : (backTo cpos (starEach es X.env)).any (·.1) = false := by rfl)
    (ht : eval (.Call (.Attribute (.Name y p1) x apos) (e :: es) [] cpos) X.env = (do
      let ov ← eval (.Name y p1) X.env
      standAt apos.atName
      let (f, first) ← holding [ov] (getMethod ov x pl)
      callWith cpos f first (backTo cpos (starEach (e :: es) X.env)) (backToKw cpos (keywordEach [] X.env))) := by rfl) :
    PDS X xi W (.Return (some (.Call (.Attribute (.Name y p1) x apos) (e :: es) [] cpos)) pos) (sRetMO i c x m fs) := by
  obtain ⟨fd, F, b⟩ := C.ex
  refine PS.imp (ps_ret (pe_methS (pe_var hN hv hd hcd) cl me F (hr.mono hj) b (fun σ => L2N.passAt tk σ) ha hst hpl ht)) ?_
  rintro E σ H ⟨F0, H0, F, δ, st, p⟩
  unfold sRetMO at p
  cases e1 : fs δ with
  | bad => rw [e1] at p; exact p.elim
  | er cc => rw [e1] at p; exact p.elim
  | ok as =>
    rw [e1] at p
    unfold neO at p
    dsimp only at p
    by_cases hf : as.all froz = true
    · rw [if_pos hf] at p
      rcases obT_ok (o := δ[i]?) (c := c) (g := fun o => if o.lookup x = none then retOb (m o as) i c δ else .bad) with ⟨o, e2, e3⟩ | e3
      · rw [e3] at p
        by_cases hno : o.lookup x = none
        · rw [if_pos hno] at p
          obtain ⟨vo, ev, ⟨q, rfl, r⟩, _⟩ := st.sl i _ e2
          obtain ⟨dx, xs, h1, _, rf, _⟩ := r
          refine ⟨_, ev, q, dx, xs, rfl, h1, rf.no hno, ?_⟩
          refine tA_use st (fun as' v F1 H1 e4 g1 r1 => ?_) (fun c F1 H1 e4 g1 => by rw [e1] at e4; cases e4) (fun e4 => by rw [e1] at e4; cases e4)
          rw [e1] at e4; cases e4
          refine methO_runE st e2 g1 r1 hf (hl δ as e1) ev (fun d o' em v F' H' st2 s2 rv => ?_) (fun x o' em F' H' st2 s2 => ?_) fun em => ?_
          · rw [em] at p; exact p v σ F' H' st2 s2 rv
          · rw [em] at p; exact p σ F' H' st2 s2
          · rw [em] at p; exact p.elim
        · rw [if_neg hno] at p; exact p.elim
      · rw [e3] at p; exact p.elim
    · rw [if_neg hf] at p; exact p.elim
/-- o.x(..) as a statement -/
def sExpMO (i : Nat) (c x : Str) (m : List (Str × Fv) → List Sl → RsO) (fs : En → Rs (List Sl)) : En → Out := fun δ => neO (fs δ) fun as => obT δ[i]? c fun o => if o.lookup x = none then (match m o as with
  | .ok _ o' => .nx (δ.set i (some (.ob true c o')))
  | .er e o' => .er e (δ.set i (some (.ob true c o')))
  | .bad => .bad) else .bad
/-! ### C() -/
def eNewO0 (c : Str) (mi : List (Str × Fv) → List Sl → RsO) : En → Rs Sl := fun δ => match newO mi [] with
  | some o => .ok (.ob true c o)
  | none => .bad
theorem pd_newO0 {mi : List (Str × Fv) → List Sl → RsO} (C : CalO X.prog X.w X.K X.mg X.base c "__init__" ps j 1 mi) (M : MkC X.K X.mg c) (hr : Room k X.A) (hj : j + 1 ≤ k) (hg : Gl X c := by rfl)
    (hdb : (c == ("__debug__" : Str)) = false := by decide) : PD X xi W (.Call (.Name c p1) [] [] cpos) (eNewO0 c mi) := by
  obtain ⟨fd, F, b⟩ := C.ex
  refine PE.imp (pe_make0 M.mr F (hr.mono hj) hg M.gl b .nil passLN hdb) ?_
  rintro σ H Q ⟨F0, H0, F, δ, st, q⟩
  unfold eNewO0 at q
  cases e2 : newO mi [] with
  | none => rw [e2] at q; exact q.elim
  | some o =>
    rw [e2] at q
    intro y dy hy hdy ne
    exact init_run (n := 0) (vs := []) st.sm .nil rfl e2 hy hdy ne fun F' H' gg rr => q _ F' H' gg ⟨y, rfl, rr⟩
/-! ### o.n op= e, numbers -/
def faugX (r : Option Sl) (i : Nat) (c n : Str) (fs : List (Str × Fv)) (δ : En) : Out := match r with
  | some (.im d1) => if fs.length < 1000 then .nx (δ.set i (some (.ob true c (putFv n (.im d1) fs)))) else .bad
  | _ => .bad
def faugL (l : Option Fv) (m : Sl → Sl → Option Sl) (i : Nat) (c n : Str) (f : En → Rs Sl) (fs : List (Str × Fv)) (δ : En) : Out := match l with
  | some (.im d0) => (match f δ with
    | .ok (.im d) => faugX (m (.im d0) (.im d)) i c n fs δ
    | .er x => .er x δ
    | _ => .bad)
  | _ => .bad
def sFAug (m : Sl → Sl → Option Sl) (i : Nat) (c n : Str) (f : En → Rs Sl) : En → Out := fun δ => obT δ[i]? c fun fs => faugL (fs.lookup n) m i c n f fs δ
theorem pds_faug {op : Operator} {m : Sl → Sl → Option Sl} {n : Str} {f : En → Rs Sl} (hc : Cls X.K (He.ga X.K c)) (hn : NoAttr X.K (He.ga X.K c) n) (ho : OpR X (inplaceOp op) (rD X.K m)) (he : PD X xi W e f) (hN : X.N[i]? = some y := by rfl) (hv : Vis X.env.scope y := by first | exact Or.inl rfl | exact Or.inr (Or.inl rfl) | exact Or.inr (Or.inr rfl))
    (hd : (y == ("__debug__" : Str)) = false := by decide) (hcd : (y == ("__classdict__" : Str)) = false := by decide) : PDS X xi W (.AugAssign (.Attribute (.Name y p1) n tpos) op e pos) (sFAug m i c n f) := by
  refine PS.imp (ps_fldaug (rd := rD X.K m) (pe_var hN hv hd hcd) he (fun pins s σ H x y u v Q I rx ry q => ho pins s σ H x y u v Q I rx ry q)) ?_
  rintro E σ H ⟨F0, H0, F, δ, st, p⟩
  unfold sFAug at p
  rcases obT_ok (o := δ[i]?) (c := c) (g := fun fs => faugL (fs.lookup n) m i c n f fs δ) with ⟨fs, e2, e3⟩ | e3
  · rw [e3] at p
    obtain ⟨vo, ev, ⟨a, rfl, r⟩, _⟩ := st.sl i _ e2
    obtain ⟨dx, xs, h1, h2, rf, nd, hnw⟩ := r
    cases hl : fs.lookup n with
    | none => rw [hl] at p; exact p.elim
    | some fv =>
      rw [hl] at p
      cases fv with
      | im d0 =>
        obtain ⟨w, hw, rw', _⟩ := rf.get hl
        refine ⟨_, ev, a, _, dx, xs, w, rfl, h1, hc, hn, hw, ?_⟩
        simp only [faugL] at p
        refine tD_use st (fun s v F1 H1 e1 g1 r1 => ?_) (fun c F1 H1 e1 g1 => by rw [e1] at p; exact p σ F1 H1 (st.grow g1) (g1.ff st.sm)) (fun e1 => by rw [e1] at p; exact p.elim)
        rw [e1] at p
        cases s with
        | im d =>
          simp only at p
          cases em : m (.im d0) (.im d) with
          | none => rw [em] at p; exact p.elim
          | some s2 =>
            rw [em] at p
            cases s2 with
            | im d1 =>
              simp only [faugX] at p
              split at p
              · rename_i hlen
                refine ⟨F1, .im d0, .im d, .im d1, g1.sm, Rp.mono (g1.ff st.sm) _ _ rw', r1, em, fun z F2 H2 g2 r2 => ?_⟩
                have gg := g1.trans g2
                refine ⟨dx, xs, gg.hh _ _ h1, by rw [rf.len]; exact hlen, ?_⟩
                exact p σ F2 _ (st.fput e2 ev ⟨dx, xs, h1, h2, rf, nd, hnw⟩ h1 gg (s := .im d1) (r2 : RepR X.K H F2 H2 z (.im d1)) rfl) (gg.ff st.sm)
              · exact p.elim
            | _ => exact p.elim
        | _ => exact p.elim
      | _ => exact p.elim
  · rw [e3] at p; exact p.elim
end
/-! ### defs whose first argument is an object that they change -/
structure CalF (P : Program) (w : World) (K : PySem.W.Frag) (mg : Str → Option Value) (base : Heap) (c x : Str) (ps : List Str) (k n : Nat) (m : List (Str × Fv) → List Sl → RsO) : Prop where
  ex : ∃ fd, FnOk P w K mg base (L2N.CX P w) k (He.ga K x) fd ps (spO K n c m) ∧ Binds K fd ps []
  gl : mg x = some (.ref (He.ga K x))
  kp : PySem.W.keepIn K (.ref (He.ga K x)) = true
section
variable {P : Program} {w : World} {K : PySem.W.Frag} {mg : Str → Option Value} {base : Heap} {fd : FuncData} {c x : Str} {st : Stmt} {N ps : List Str} {k n : Nat} {g : En → Out}
theorem cal_mkF (F : FnD K x st (He.ga K x) fd) (S : FnScope N ps (defScope st)) (gl : mg x = some (.ref (He.ga K x))) (hb : Binds K fd ps []) (hn : ps.length = n)
    (body : ∀ (cdv : Value) (A : Around) (outer : List Env) (sh : Shared) (H : Hp) (E : XK) (p : Addr), Room k (cxD P w K mg base N st x (He.ga K x) cdv A outer sh H E).A → L2N.Takes (cxD P w K mg base N st x (He.ga K x) cdv A outer sh H E) (wDef E) →
      PassesOwn (model P w) (cxD P w K mg base N st x (He.ga K x) cdv A outer sh H E).A (cxD P w K mg base N st x (He.ga K x) cdv A outer sh H E).env (cxD P w K mg base N st x (He.ga K x) cdv A outer sh H E).xe →
      PDB (cxD P w K mg base N st x (He.ga K x) cdv A outer sh H E) [(0, p, .none)] (wDef E) (defBody st) g) : CalF P w K mg base c x ps (k + 1) n (fnMO N.length c g) := by
  subst hn
  refine ⟨⟨fd, ?_, hb⟩, gl, F.kp⟩
  refine F.ok S (fun vs H Q E h => h.1) (fun cdv A outer sh H vs Q E hr h => ?_)
  obtain ⟨hl, F, p, rest, fs, as, rfl, sm, ro, r, hf, q⟩ := h
  exact ⟨_, body cdv A outer sh H E p hr (L2N.takes_of rfl rfl rfl rfl) (passes_of rfl), F, _, F, _, Stt.initO sm ro r hf, fn_postO q⟩
end
def neFX (d : D) (r : Rs Sl) (a b : En → Out) (δ : En) : Out := match r with
  | .ok s => (match mNe (.im d) s with
    | some (.im (.bool k)) => if k = true then a δ else b δ
    | _ => .bad)
  | _ => .bad
def neFO (r : RsO) (i : Nat) (c : Str) (g : En → Rs Sl) (a b : En → Out) (δ : En) : Out := match r with
  | .ok d o' => neFX d (g (δ.set i (some (.ob true c o')))) a b (δ.set i (some (.ob true c o')))
  | _ => .bad
/-- if f(o, ..) != e -/
def sIfNeF (i : Nat) (c : Str) (m : List (Str × Fv) → List Sl → RsO) (fs : En → Rs (List Sl)) (g : En → Rs Sl) (a b : En → Out) : En → Out := fun δ => neO (fs δ) fun as => obT δ[i]? c fun o => neFO (m o as) i c g a b δ
theorem pds_ifNeF {X : Cx} {xi : Xi} {W : WX} {e2 : Expr} {es : List Expr} {fs : En → Rs (List Sl)} {g : En → Rs Sl} {p p1 pos cpos tpos : Pos} {i j k n : Nat} {y c x : Str} {ps : List Str} {m : List (Str × Fv) → List Sl → RsO} {a b : En → Out} {A B : List Stmt}
    (C : CalF X.prog X.w X.K X.mg X.base c x ps j (n + 1) m) (hr : Room k X.A) (hj : j ≤ k) (ho : OpR X (compareOp .NotEq) (rD X.K mNe)) (ha : PDA X xi W es fs) (hl : eLen n fs) (hg : PD X xi W e2 g) (hA : PDB X xi W A a) (hB : PDB X xi W B b)
    (hN : X.N[i]? = some y := by rfl) (hv : Vis X.env.scope y := by first | exact Or.inl rfl | exact Or.inr (Or.inl rfl) | exact Or.inr (Or.inr rfl)) (hd : (y == ("__debug__" : Str)) = false := by decide) (hcd : (y == ("__classdict__" : Str)) = false := by decide)
    (hgl : Gl X x := by rfl) (hdb : (x == ("__debug__" : Str)) = false := by decide)
    (he : starEach (.Name y p1 :: es) X.env = (false, eval (.Name y p1) X.env) :: starEach es X.env := by rfl) (hpl : (backTo cpos (starEach es X.env)).any (·.1) = false := by rfl) (hm : behindInMarks .NotEq e2 = false := by first | exact nomark _ | rfl) :
    PDS X xi W (.If (.Compare (.Call (.Name x p) (.Name y p1 :: es) [] cpos) [.NotEq] [e2] tpos) A B pos) (sIfNeF i c m fs g a b) := by
  obtain ⟨fd, F, bb⟩ := C.ex
  refine PS.imp (ps_if (pt_cmpR ho (pe_call F (hr.mono hj) hgl C.gl C.kp bb .nil passLN (pa_cons (pe_var hN hv hd hcd) ha he) hdb he hpl) hg hm) hA hB) ?_
  rintro E σ H ⟨F0, H0, F, δ, st, p⟩
  unfold sIfNeF at p
  cases e1 : fs δ with
  | bad => rw [e1] at p; exact p.elim
  | er cc => rw [e1] at p; exact p.elim
  | ok as =>
    rw [e1] at p
    unfold neO at p
    dsimp only at p
    by_cases hf : as.all froz = true
    · rw [if_pos hf] at p
      rcases obT_ok (o := δ[i]?) (c := c) (g := fun o => neFO (m o as) i c g a b δ) with ⟨o, e2, e3⟩ | e3
      · rw [e3] at p
        obtain ⟨vo, ev, ⟨q, rfl, r⟩, _⟩ := st.sl i _ e2
        cases em : m o as with
        | bad => rw [em] at p; exact p.elim
        | er z f => rw [em] at p; exact p.elim
        | ok d o' =>
          rw [em] at p
          simp only [neFO] at p
          refine ⟨_, ev, ?_⟩
          refine tA_use st (fun as' v F1 H1 e4 g1 r1 => ?_) (fun c F1 H1 e4 g1 => by rw [e1] at e4; cases e4) (fun e4 => by rw [e1] at e4; cases e4)
          rw [e1] at e4; cases e4
          rw [List.append_nil]
          refine methO_run st e2 g1 r1 hf (hl δ as e1) ev em fun v' F' H' st2 s2 rv => ?_
          refine tD_use st2 (fun s2' u F2 H2 e5 g2 r2 => ?_) (fun c F2 H2 e5 g2 => by rw [e5] at p; exact p.elim) (fun e5 => by rw [e5] at p; exact p.elim)
          rw [e5] at p
          simp only [neFX] at p
          cases en : mNe (.im d) s2' with
          | none => rw [en] at p; exact p.elim
          | some s3 =>
            rw [en] at p
            refine ⟨F2, .im d, s2', s3, g2.sm, RdR.grow (t := .im d) g2 st2.sm rv, r2.rd, en, fun z F3 H3 g3 r3 => ?_⟩
            match s3, r3, p with
            | .im (.bool kk), r3, p =>
              cases r3
              refine ⟨kk, rfl, ?_⟩
              have st3 := (st2.grow g2).grow g3
              have ss := s2.trans ((g2.trans g3).ff st2.sm)
              cases kk with
              | true => exact ⟨F0, H0, F3, _, st3, PostS.later p ss⟩
              | false => exact ⟨F0, H0, F3, _, st3, PostS.later p ss⟩
            | .im .none, _, p => exact p.elim
            | .im (.int _), _, p => exact p.elim
            | .im (.str _), _, p => exact p.elim
            | .im (.list _), _, p => exact p.elim
            | .im (.tuple _), _, p => exact p.elim
            | .im (.dict _), _, p => exact p.elim
            | .ml _, _, p => exact p.elim
            | .br _, _, p => exact p.elim
            | .ro _, _, p => exact p.elim
            | .xc _, _, p => exact p.elim
            | .dc _, _, p => exact p.elim
            | .ob _ _ _, _, p => exact p.elim
      · rw [e3] at p; exact p.elim
    · rw [if_neg hf] at p; exact p.elim
end DL

namespace DM
open PySem PySem.Spec PyProof.Rows L2 DL
/-! ### how the mirrors compute -/
section
variable {α β : Type} {δ δ' : En} {d : D} {i j k n : Nat} {f g h : En → Rs Sl} {c : En → Rs Bool} {a b : En → Out}
@[simp] theorem bind_ok (a : α) (k : α → Rs β) : (Rs.ok a).bind k = k a := rfl
@[simp] theorem bind_er (c : Str) (k : α → Rs β) : (Rs.er c : Rs α).bind k = .er c := rfl
@[simp] theorem bind_bad (k : α → Rs β) : (Rs.bad : Rs α).bind k = .bad := rfl
@[simp] theorem ofO_some (s : Sl) : ofO (some s) = .ok s := rfl
@[simp] theorem eVar_im (r : En) : eVar 0 (some (.im d) :: r) = .ok (.im d) := rfl
@[simp] theorem eVar_ml (ds : List D) (r : En) : eVar 0 (some (.ml ds) :: r) = .ok (.br ds) := rfl
@[simp] theorem eVar_br (ds : List D) (r : En) : eVar 0 (some (.br ds) :: r) = .ok (.br ds) := rfl
@[simp] theorem eVar_ro (ns : List Int) (r : En) : eVar 0 (some (.ro ns) :: r) = .ok (.ro ns) := rfl
@[simp] theorem eVar_xc (c : Str) (r : En) : eVar 0 (some (.xc c) :: r) = .ok (.xc c) := rfl
@[simp] theorem eVar_s (x : Option Sl) (r : En) : eVar (n + 1) (x :: r) = eVar n r := rfl
@[simp] theorem eC_def : eC d δ = .ok (.im d) := rfl
@[simp] theorem eOp_def (m : Sl → Sl → Option Sl) : eOp m f g δ = (f δ).bind fun a => (g δ).bind fun b => ofO (m a b) := rfl
@[simp] theorem eUn_def (m : Sl → Option Sl) : eUn m f δ = (f δ).bind fun a => ofO (m a) := rfl
@[simp] theorem frz_im : frz (.im d) = .ok (.im d) := rfl
@[simp] theorem frz_ml (ds : List D) : frz (.ml ds) = .ok (.im (.list ds)) := rfl
@[simp] theorem frz_ro (ns : List Int) : frz (.ro ns) = .ok (.ro ns) := rfl
@[simp] theorem eIm_def : eIm f δ = (f δ).bind frz := rfl
@[simp] theorem eNil_def : eNil δ = .ok [] := rfl
@[simp] theorem eCons_def (r : En → Rs (List Sl)) : eCons f r δ = (f δ).bind fun a => (r δ).bind fun as => .ok (a :: as) := rfl
@[simp] theorem imAll_nil : imAll [] = some [] := rfl
@[simp] theorem imAll_cons (r : List Sl) : imAll (.im d :: r) = (imAll r).map (d :: ·) := rfl
@[simp] theorem ofO'_some (a : α) (k : α → Rs Sl) : ofO' (some a) k = k a := rfl
@[simp] theorem eTup_def (r : En → Rs (List Sl)) : eTup r δ = (r δ).bind fun as => ofO' (imAll as) fun ds => if ds.length ≤ 16777216 then .ok (.im (.tuple ds)) else .bad := Eq.trans rfl rfl
@[simp] theorem eLst_def (r : En → Rs (List Sl)) : eLst r δ = (r δ).bind fun as => ofO' (imAll as) fun ds => if ds.length ≤ 16777216 then .ok (.ml ds) else .bad := Eq.trans rfl rfl
@[simp] theorem eCB_def (m : List Sl → Option Sl) (r : En → Rs (List Sl)) : eCB m r δ = (r δ).bind fun as => ofO (m as) := rfl
/-- a choice by a truth value -/
def ifB {α : Type} : Option Bool → α → α → α → α
  | some true, x, _, _ => x
  | some false, _, y, _ => y
  | none, _, _, z => z
@[simp] theorem isB_bool (b : Bool) : isB (.im (.bool b)) = some b := rfl
@[simp] theorem ifB_some {α : Type} (b : Bool) (x y z : α) : ifB (some b) x y z = if b = true then x else y := by cases b <;> rfl
@[simp] theorem eAnd_def : eAnd f g δ = (f δ).bind fun a => ifB (isB a) (g δ) (.ok (.im (.bool false))) .bad := by
  unfold eAnd; congr 1; funext a; cases isB a with | none => rfl | some b => cases b <;> rfl
@[simp] theorem eOr_def : eOr f g δ = (f δ).bind fun a => ifB (isB a) (.ok (.im (.bool true))) (g δ) .bad := by
  unfold eOr; congr 1; funext a; cases isB a with | none => rfl | some b => cases b <;> rfl
@[simp] theorem eNot_def : eNot f δ = (f δ).bind fun a => ifB (isB a) (.ok (.im (.bool false))) (.ok (.im (.bool true))) .bad := by
  unfold eNot; congr 1; funext a; cases isB a with | none => rfl | some b => cases b <;> rfl
@[simp] theorem cTest_im (b : Bool) (e : f δ = .ok (.im (.bool b))) : cTest f δ = .ok b := by unfold cTest; rw [e]; rfl
def tst : Rs Sl → Rs Bool := fun r => r.bind fun a => match isB a with
  | some b => .ok b
  | none => .bad
@[simp] theorem tst_ok (b : Bool) : tst (.ok (.im (.bool b))) = .ok b := rfl
@[simp] theorem tst_er (c : Str) : tst (.er c) = .er c := rfl
@[simp] theorem tst_ite (P : Prop) [Decidable P] (x y : Rs Sl) : tst (if P then x else y) = if P then tst x else tst y := by split <;> rfl
@[simp] theorem cTest_def : cTest f δ = tst (f δ) := rfl
@[simp] theorem cAnd_def (c' : En → Rs Bool) : cAnd c c' δ = (c δ).bind fun a => if a = true then c' δ else .ok false := rfl
@[simp] theorem cOr_def (c' : En → Rs Bool) : cOr c c' δ = (c δ).bind fun a => if a = true then .ok true else c' δ := rfl
@[simp] theorem cNot_def : cNot c δ = (c δ).bind fun a => .ok (!a) := rfl
@[simp] theorem eIf_def : eIf c f g δ = (c δ).bind fun b => if b = true then f δ else g δ := rfl
@[simp] theorem eChain_def (m m' : Sl → Sl → Option Sl) : eChain m m' f g h δ = (f δ).bind fun a => (g δ).bind fun b => (ofO (m a b)).bind fun k => ifB (isB k) ((h δ).bind fun c => ofO (m' b c)) (.ok (.im (.bool false))) .bad := by
  unfold eChain; congr 1; funext a; congr 1; funext b; congr 1; funext k; cases isB k with | none => rfl | some b => cases b <;> rfl
@[simp] theorem froz_im : froz (.im d) = true := rfl
@[simp] theorem froz_ro (ns : List Int) : froz (.ro ns) = true := rfl
@[simp] theorem eCall_def (m : List Sl → Rs Sl) (fs : En → Rs (List Sl)) : eCall m fs δ = (fs δ).bind fun as => if as.all froz = true then m as else .bad := Eq.trans rfl rfl
/-! statements -/
@[simp] theorem sNext_def : sNext δ = .nx δ := rfl
/-- the next statement, behind what has ended -/
def thn (o : Out) (b : En → Out) : Out := match o with
  | .nx δ' => b δ'
  | o => o
@[simp] theorem sSeq_def : sSeq a b δ = thn (a δ) b := rfl
@[simp] theorem thn_nx : thn (.nx δ) b = b δ := Eq.trans rfl rfl
@[simp] theorem thn_rt (s : Sl) : thn (.rt s) b = .rt s := rfl
@[simp] theorem thn_rm (d : D) : thn (.rm d δ) b = .rm d δ := rfl
@[simp] theorem thn_er (c : Str) : thn (.er c δ) b = .er c δ := rfl
@[simp] theorem thn_bk : thn (.bk δ) b = .bk δ := rfl
@[simp] theorem thn_ct : thn (.ct δ) b = .ct δ := rfl
@[simp] theorem thn_ite (P : Prop) [Decidable P] (x y : Out) : thn (if P then x else y) b = if P then thn x b else thn y b := by split <;> rfl
def ifO (r : Rs Bool) (x y : Out) (δ : En) : Out := match r with
  | .ok b => if b = true then x else y
  | .er c => .er c δ
  | .bad => .bad
@[simp] theorem sIf_def : sIf c a b δ = ifO (c δ) (a δ) (b δ) δ := by
  unfold sIf ifO; cases c δ with | ok b => cases b <;> rfl | er c => rfl | bad => rfl
@[simp] theorem ifO_ok (k : Bool) (x y : Out) : ifO (.ok k) x y δ = if k = true then x else y := rfl
@[simp] theorem ifO_er (k : Str) (x y : Out) : ifO (.er k) x y δ = .er k δ := rfl
@[simp] theorem gN_def (s : Sl) : gN i s δ = if s.slot = true then some (δ.set i (some s)) else none := rfl
@[simp] theorem slot_im : (Sl.im d).slot = true := rfl
@[simp] theorem slot_ml (ds : List D) : (Sl.ml ds).slot = true := rfl
def asg (r : Rs Sl) (t : Tg) (δ : En) : Out := match r with
  | .ok s => (match t s δ with
    | some δ' => .nx δ'
    | none => .bad)
  | .er x => .er x δ
  | .bad => .bad
@[simp] theorem sAsg_def (t : Tg) : sAsg f t δ = asg (f δ) t δ := rfl
@[simp] theorem asg_im (i : Nat) : asg (.ok (.im d)) (gN i) δ = .nx (δ.set i (some (.im d))) := rfl
@[simp] theorem asg_ml (ds : List D) (i : Nat) : asg (.ok (.ml ds)) (gN i) δ = .nx (δ.set i (some (.ml ds))) := rfl
@[simp] theorem asg_er (t : Tg) (c : Str) : asg (.er c) t δ = .er c δ := rfl
@[simp] theorem asg_ite (P : Prop) [Decidable P] (x y : Rs Sl) (t : Tg) : asg (if P then x else y) t δ = if P then asg x t δ else asg y t δ := by split <;> rfl
def exprO (r : Rs Sl) (δ : En) : Out := match r with
  | .ok _ => .nx δ
  | .er x => .er x δ
  | .bad => .bad
@[simp] theorem sExpr_def : sExpr f δ = exprO (f δ) δ := rfl
@[simp] theorem exprO_ok (s : Sl) : exprO (.ok s) δ = .nx δ := rfl
@[simp] theorem exprO_er (s : Str) : exprO (.er s) δ = .er s δ := rfl
@[simp] theorem exprO_ite (P : Prop) [Decidable P] (x y : Rs Sl) : exprO (if P then x else y) δ = if P then exprO x δ else exprO y δ := by split <;> rfl
def retO (r : Rs Sl) (δ : En) : Out := match r with
  | .ok (.br _) => .bad
  | .ok (.ob _ _ _) => .bad
  | .ok s => .rt s
  | .er x => .er x δ
  | .bad => .bad
@[simp] theorem sRet_def : sRet f δ = retO (f δ) δ := by
  unfold sRet retO; cases f δ with | ok s => cases s <;> rfl | er c => rfl | bad => rfl
@[simp] theorem retO_im : retO (.ok (.im d)) δ = .rt (.im d) := rfl
@[simp] theorem retO_ml (ds : List D) : retO (.ok (.ml ds)) δ = .rt (.ml ds) := rfl
@[simp] theorem retO_er (c : Str) : retO (.er c) δ = .er c δ := rfl
@[simp] theorem retO_ite (P : Prop) [Decidable P] (x y : Rs Sl) : retO (if P then x else y) δ = if P then retO x δ else retO y δ := by split <;> rfl
@[simp] theorem sRaise_def (c : Str) : sRaise c δ = .er c δ := rfl
@[simp] theorem sBreak_def : sBreak δ = .bk δ := rfl
@[simp] theorem sCont_def : sCont δ = .ct δ := rfl
@[simp] theorem sAug_im (m : Sl → Sl → Option Sl) (x e : D) (h1 : δ[i]? = some (some (.im x))) (h2 : f δ = .ok (.im e)) {y : D} (h3 : m (.im x) (.im e) = some (.im y)) : sAug m i f δ = .nx (δ.set i (some (.im y))) := by
  unfold sAug; rw [h1]; simp only [h2, h3]
def augO (m : Sl → Sl → Option Sl) (o : Option (Option Sl)) (r : Rs Sl) (i : Nat) (δ : En) : Out := match o with
  | some (some s) => (match r with
    | .ok a => (match m s a with
      | some (.im d) => .nx (δ.set i (some (.im d)))
      | _ => .bad)
    | .er x => .er x δ
    | .bad => .bad)
  | _ => .bad
@[simp] theorem sAug_def (m : Sl → Sl → Option Sl) : sAug m i f δ = augO m δ[i]? (f δ) i δ := rfl
def augI (o : Option Sl) (i : Nat) (δ : En) : Out := match o with
  | some (.im d) => .nx (δ.set i (some (.im d)))
  | _ => .bad
@[simp] theorem augO_ok (m : Sl → Sl → Option Sl) (s a : Sl) : augO m (some (some s)) (.ok a) i δ = augI (m s a) i δ := rfl
@[simp] theorem augI_im : augI (some (.im d)) i δ = .nx (δ.set i (some (.im d))) := rfl
def appO (o : Option (Option Sl)) (r : Rs Sl) (i : Nat) (δ : En) : Out := match o with
  | some (some (.ml ds)) => (match r with
    | .ok (.im d) => if ds.length < 16777216 then .nx (δ.set i (some (.ml (ds ++ [d])))) else .bad
    | .er x => .er x δ
    | _ => .bad)
  | _ => .bad
@[simp] theorem sAppend_def : sAppend i f δ = appO δ[i]? (f δ) i δ := rfl
@[simp] theorem appO_ok (ds : List D) : appO (some (some (.ml ds))) (.ok (.im d)) i δ = if ds.length < 16777216 then .nx (δ.set i (some (.ml (ds ++ [d])))) else .bad := rfl
def retV (o : Option (Option Sl)) : Out := match o with
  | some (some (.ml ds)) => .rt (.ml ds)
  | some (some (.im d)) => .rt (.im d)
  | _ => .bad
@[simp] theorem sRetV_def : sRetV i δ = retV δ[i]? := rfl
@[simp] theorem retV_ml (ds : List D) : retV (some (some (.ml ds))) = .rt (.ml ds) := rfl
@[simp] theorem retV_im : retV (some (some (.im d))) = .rt (.im d) := rfl
/-! loops -/
def forO (t : Tg) (b : En → Out) (r : Rs (List D)) (δ : En) : Out := match r with
  | .ok ds => forL t b ds δ
  | .er x => .er x δ
  | .bad => .bad
@[simp] theorem sFor_def (it : En → Rs (List D)) (t : Tg) : sFor it t b δ = forO t b (it δ) δ := rfl
@[simp] theorem forO_ok (t : Tg) (ds : List D) : forO t b (.ok ds) δ = forL t b ds δ := Eq.trans rfl rfl
@[simp] theorem iLst_def : iLst f δ = (f δ).bind fun s => ofD (itL s) .ok := rfl
@[simp] theorem iAny_def : iAny f δ = (f δ).bind fun s => ofD (lstOf s) .ok := rfl
@[simp] theorem iTup_def : DL.iTup f δ = (f δ).bind fun s => ofD (tupOf s) .ok := rfl
/-- a tuple's or a list's parts -/
def sqO (a b : Option (List D)) : Rs (List D) := match a with
  | some ds => .ok ds
  | none => ofD b .ok
@[simp] theorem iSeq_def : iSeq f δ = (f δ).bind fun s => sqO (tsOf s) (itL s) := rfl
@[simp] theorem iSeqH_def : iSeqH f δ = (f δ).bind fun s => sqO (tsOf s) (lstOf s) := rfl
@[simp] theorem sqO_some (ds : List D) (b : Option (List D)) : sqO (some ds) b = .ok ds := rfl
@[simp] theorem sqO_none (b : Option (List D)) : sqO none b = ofD b .ok := rfl
@[simp] theorem tsOf_tup (ds : List D) : tsOf (.im (.tuple ds)) = some ds := rfl
@[simp] theorem tsOf_str (x : Str) : tsOf (.im (.str x)) = some (signsD x) := rfl
@[simp] theorem tsOf_list (ds : List D) : tsOf (.im (.list ds)) = none := rfl
@[simp] theorem tsOf_ml (ds : List D) : tsOf (.ml ds) = none := rfl
@[simp] theorem tsOf_br (ds : List D) : tsOf (.br ds) = none := rfl
@[simp] theorem tsOf_ro (ds : List Int) : tsOf (.ro ds) = none := rfl
@[simp] theorem iCall_def (m : List Sl → Option (List D)) (fs : En → Rs (List Sl)) : iCall m fs δ = (fs δ).bind fun as => ofD (m as) .ok := rfl
@[simp] theorem ofD_some (a : α) (k : α → Rs β) : ofD (some a) k = k a := rfl
@[simp] theorem itL_list (ds : List D) : itL (.im (.list ds)) = some ds := rfl
@[simp] theorem itL_ro (ns : List Int) : itL (.ro ns) = some (ns.map PyData.int) := rfl
@[simp] theorem lstOf_list (ds : List D) : lstOf (.im (.list ds)) = some ds := rfl
@[simp] theorem lstOf_ml (ds : List D) : lstOf (.ml ds) = some ds := rfl
@[simp] theorem lstOf_br (ds : List D) : lstOf (.br ds) = some ds := rfl
@[simp] theorem lstOf_ro (ns : List Int) : lstOf (.ro ns) = some (ns.map PyData.int) := rfl
@[simp] theorem tupOf_tup (ds : List D) : tupOf (.im (.tuple ds)) = some ds := rfl
@[simp] theorem sWhile_def : sWhile n c b δ = wLoop c b n δ := rfl
/-! functions -/
def fnO : Out → Rs Sl
  | .nx _ => .ok (.im .none)
  | .rt s => .ok s
  | .rm d _ => .ok (.im d)
  | .er c _ => .er c
  | _ => .bad
@[simp] theorem fnM_def (as : List Sl) : fnM n a as = fnO (a (as.map some ++ List.replicate (n - as.length) none)) := by
  unfold fnM fnO initE; split <;> simp_all
@[simp] theorem fnO_nx : fnO (.nx δ) = .ok (.im .none) := rfl
@[simp] theorem fnO_rt (s : Sl) : fnO (.rt s) = .ok s := rfl
@[simp] theorem fnO_rm (d : D) : fnO (.rm d δ) = .ok (.im d) := rfl
@[simp] theorem fnO_er (c : Str) : fnO (.er c δ) = .er c := rfl
@[simp] theorem fnO_ite (P : Prop) [Decidable P] (x y : Out) : fnO (if P then x else y) = if P then fnO x else fnO y := by split <;> rfl
/-! operators on whole numbers -/
@[simp] theorem mInt_ii (g : Int → Int → D) (x y : Int) : mInt g (.im (.int x)) (.im (.int y)) = some (.im (g x y)) := Eq.trans rfl rfl
@[simp] theorem mAdd_ii (x y : Int) : mAdd (.im (.int x)) (.im (.int y)) = some (.im (.int (x + y))) := Eq.trans rfl rfl
@[simp] theorem mSub_ii (x y : Int) : mSub (.im (.int x)) (.im (.int y)) = some (.im (.int (x - y))) := Eq.trans rfl rfl
@[simp] theorem mMul_ii (x y : Int) : mMul (.im (.int x)) (.im (.int y)) = if mulOk x y = true then some (.im (.int (x * y))) else none := Eq.trans rfl rfl
@[simp] theorem mMulI_ii (x y : Int) : mMulI (.im (.int x)) (.im (.int y)) = if mulOk x y = true then some (.im (.int (x * y))) else none := Eq.trans rfl rfl
@[simp] theorem mMod_ii (x y : Int) : mMod (.im (.int x)) (.im (.int y)) = if 0 < y then some (.im (.int (x % y))) else none := by
  show (if decide (0 < y) = true then _ else _) = _; simp only [decide_eq_true_eq]
@[simp] theorem mFdiv_ii (x y : Int) : mFdiv (.im (.int x)) (.im (.int y)) = if fdivOk y = true then some (.im (.int (x / y))) else none := Eq.trans rfl rfl
@[simp] theorem mFdivI_ii (x y : Int) : mFdivI (.im (.int x)) (.im (.int y)) = if fdivOkI y = true then some (.im (.int (x / y))) else none := Eq.trans rfl rfl
@[simp] theorem mPow_ii (x y : Int) : mPow (.im (.int x)) (.im (.int y)) = if powOk x y = true then some (.im (.int (x ^ y.toNat))) else none := Eq.trans rfl rfl
@[simp] theorem mNeg_i (x : Int) : mNeg (.im (.int x)) = some (.im (.int (-x))) := Eq.trans rfl rfl
@[simp] theorem mLt_ii (x y : Int) : mLt (.im (.int x)) (.im (.int y)) = some (.im (.bool (decide (x < y)))) := Eq.trans rfl rfl
@[simp] theorem mLe_ii (x y : Int) : mLe (.im (.int x)) (.im (.int y)) = some (.im (.bool (decide (x ≤ y)))) := Eq.trans rfl rfl
@[simp] theorem mGt_ii (x y : Int) : mGt (.im (.int x)) (.im (.int y)) = some (.im (.bool (decide (y < x)))) := Eq.trans rfl rfl
@[simp] theorem mGe_ii (x y : Int) : mGe (.im (.int x)) (.im (.int y)) = some (.im (.bool (decide (y ≤ x)))) := Eq.trans rfl rfl
@[simp] theorem mEq_ii (x y : Int) : mEq (.im (.int x)) (.im (.int y)) = some (.im (.bool (decide (x = y)))) := Eq.trans rfl rfl
@[simp] theorem mNe_ii (x y : Int) : mNe (.im (.int x)) (.im (.int y)) = some (.im (.bool (!decide (x = y)))) := Eq.trans rfl rfl
@[simp] theorem mEq_ss (x y : Str) : mEq (.im (.str x)) (.im (.str y)) = some (.im (.bool (decide (x = y)))) := Eq.trans rfl rfl
@[simp] theorem mInt1_i (x : Int) : mInt1 [.im (.int x)] = some (.im (.int x)) := Eq.trans rfl rfl
theorem smI_of {n : Nat} {x : Int} (h : -(n : Int) < x ∧ x < n) : smI n x = true := smI_lt.mpr (by omega)
theorem mulOk_l {x y : Int} (h : -1000000000000 < x ∧ x < 1000000000000) : mulOk x y = true := by
  have : smI 18446744073709551616 x = true := smI_lt.mpr (by omega)
  unfold mulOk; rw [this]; rfl
theorem mulOk_r {x y : Int} (h : -1000000000000 < y ∧ y < 1000000000000) : mulOk x y = true := by
  have : smI 18446744073709551616 y = true := smI_lt.mpr (by omega)
  unfold mulOk; rw [this]; simp
@[simp] theorem rg1_i (j : Int) : rg1 [.im (.int j)] = if rgOk 0 j = true then some (rng 0 j.toNat) else none := Eq.trans rfl rfl
@[simp] theorem rg2_i (i j : Int) : rg2 [.im (.int i), .im (.int j)] = if rgOk i j = true then some (rng i (j - i).toNat) else none := Eq.trans rfl rfl
theorem rgOk_of {i j : Int} (h1 : -1000000000000 < i) (h2 : i < 1000000000000) (h3 : -1000000000000 < j) (h4 : j < 1000000000000) : rgOk i j = true := by
  have a1 : smI 4611686018427387904 i = true := smI_lt.mpr (by omega)
  have a2 : smI 4611686018427387904 j = true := smI_lt.mpr (by omega)
  unfold rgOk; rw [a1, a2]; rfl
@[simp] theorem mLen_list (ds : List D) : mLen [.im (.list ds)] = some (.im (.int (ds.length : Nat))) := Eq.trans rfl rfl
@[simp] theorem mLen_br (ds : List D) : mLen [.br ds] = some (.im (.int (ds.length : Nat))) := Eq.trans rfl rfl
@[simp] theorem mLen_ml (ds : List D) : mLen [.ml ds] = some (.im (.int (ds.length : Nat))) := Eq.trans rfl rfl
@[simp] theorem mLen_tup (ds : List D) : mLen [.im (.tuple ds)] = some (.im (.int (ds.length : Nat))) := Eq.trans rfl rfl
@[simp] theorem mIx_list (ds : List D) (i : Int) : mIx (.im (.list ds)) (.im (.int i)) = (atI ds i).map fun d => .im d := Eq.trans rfl rfl
@[simp] theorem mIx_ml (ds : List D) (i : Int) : mIx (.ml ds) (.im (.int i)) = (atI ds i).map fun d => .im d := Eq.trans rfl rfl
@[simp] theorem mIx_br (ds : List D) (i : Int) : mIx (.br ds) (.im (.int i)) = (atI ds i).map fun d => .im d := Eq.trans rfl rfl
@[simp] theorem mIx_tup (ds : List D) (i : Int) : mIx (.im (.tuple ds)) (.im (.int i)) = (atI ds i).map fun d => .im d := Eq.trans rfl rfl
@[simp] theorem mIsi_i (T : String) (x : Int) : mIsi T (.im (.int x)) = (kitB "int" T).map fun k => .im (.bool k) := Eq.trans rfl rfl
end
/-! ### loops by what stays true -/
/-- how a loop's body may end -/
@[irreducible] def Stp (o : Out) (N : En → Prop) (Q : Out → Prop) : Prop := match o with
  | .nx δ' => N δ'
  | .ct δ' => N δ'
  | .bk δ' => Q (.nx δ')
  | .rt s => Q (.rt s)
  | .rm d δ' => Q (.rm d δ')
  | .er c δ' => Q (.er c δ')
  | .bad => False
section
variable {δ : En} {N : En → Prop} {Q : Out → Prop}
@[simp] theorem stp_nx : Stp (.nx δ) N Q ↔ N δ := by unfold Stp; exact Iff.rfl
@[simp] theorem stp_ct : Stp (.ct δ) N Q ↔ N δ := by unfold Stp; exact Iff.rfl
@[simp] theorem stp_bk : Stp (.bk δ) N Q ↔ Q (.nx δ) := by unfold Stp; exact Iff.rfl
@[simp] theorem stp_rt (s : Sl) : Stp (.rt s) N Q ↔ Q (.rt s) := by unfold Stp; exact Iff.rfl
@[simp] theorem stp_rm (d : D) : Stp (.rm d δ) N Q ↔ Q (.rm d δ) := by unfold Stp; exact Iff.rfl
@[simp] theorem stp_er (s : Str) : Stp (.er s δ) N Q ↔ Q (.er s δ) := by unfold Stp; exact Iff.rfl
@[simp] theorem stp_bad : Stp .bad N Q ↔ False := by unfold Stp; exact Iff.rfl
theorem Stp.elim {o : Out} (h : Stp o N Q) {k : En → Out} (hk : ∀ δ, N δ → Q (k δ)) : Q (lpE o k) := by
  unfold Stp at h
  cases o with
  | nx δ => exact hk δ h
  | ct δ => exact hk δ h
  | bk δ => exact h
  | rt s => exact h
  | rm d δ => exact h
  | er c δ => exact h
  | bad => exact h.elim
end
theorem forL_rule {t : Tg} {b : En → Out} {ds : List D} (I : Nat → En → Prop) (Q : Out → Prop)
    (step : ∀ (i : Nat) (d : D) (δ : En), ds[i]? = some d → I i δ → ∃ δ1, t (.im d) δ = some δ1 ∧ Stp (b δ1) (I (i + 1)) Q)
    (fin : ∀ δ, I ds.length δ → Q (.nx δ)) {δ : En} (h0 : I 0 δ) : Q (forL t b ds δ) := by
  have key : ∀ (es : List D) (i : Nat) (δ : En), ds.drop i = es → I i δ → i + es.length = ds.length → Q (forL t b es δ) := by
    intro es
    induction es with
    | nil => intro i δ _ hI hl; exact fin δ (by simp at hl; rwa [hl] at hI)
    | cons d r ih =>
      intro i δ hd hI hl
      have hi : ds[i]? = some d := by
        have := congrArg (·[0]?) hd
        simpa using this
      obtain ⟨δ1, h1, h2⟩ := step i d δ hi hI
      show Q (match t (.im d) δ with | some δ1 => lpE (b δ1) (forL t b r) | none => .bad)
      rw [h1]
      show Q (lpE (b δ1) (forL t b r))
      have hr : ds.drop (i + 1) = r := by
        rw [← List.drop_drop, hd]; rfl
      have hl' : i + 1 + r.length = ds.length := by simp at hl; omega
      exact h2.elim fun δ' h3 => ih (i + 1) δ' hr h3 hl'
  exact key ds 0 δ rfl h0 (by simp)
/-- a loop over 0 .. n-1 (or lo ..) -/
theorem rng_length (lo : Int) (n : Nat) : (rng lo n).length = n := by simp [rng]
theorem rng_get {lo : Int} {n i : Nat} {d : D} (h : (rng lo n)[i]? = some d) : i < n ∧ d = .int (lo + (i : Nat)) := by
  unfold rng at h
  rw [List.getElem?_map] at h
  cases e : (List.range n)[i]? with
  | none => rw [e] at h; cases h
  | some k =>
    rw [e] at h
    have := List.getElem?_eq_some_iff.mp e
    obtain ⟨h1, h2⟩ := this
    simp at h1 h2
    subst h2
    exact ⟨h1, (Option.some.inj h).symm⟩
theorem wLoop_rule {c : En → Rs Bool} {b : En → Out} (I : Nat → En → Prop) (Q : Out → Prop)
    (step : ∀ (m : Nat) (δ : En), I m δ → (c δ = .ok false ∧ Q (.nx δ)) ∨ (c δ = .ok true ∧ Stp (b δ) (fun δ' => ∃ m' < m, I m' δ') Q)) :
    ∀ (n m : Nat) (δ : En), m < n → I m δ → Q (wLoop c b n δ) := by
  intro n
  induction n with
  | zero => intro m δ h; omega
  | succ n ih =>
    intro m δ h hI
    unfold wLoop
    rcases step m δ hI with ⟨h1, h2⟩ | ⟨h1, h2⟩
    · rw [h1]; exact h2
    · rw [h1]
      exact h2.elim fun δ' ⟨m', hm, hI'⟩ => ih m' δ' (by omega) hI'
end DM

namespace DM
/-! ### primes, powers -/
/-- prime, by trying -/
def Pr (p : Int) : Prop := 1 < p ∧ ∀ d : Int, 1 < d → d < p → p % d ≠ 0
def PrN (p : Nat) : Prop := 1 < p ∧ ∀ d : Nat, 1 < d → d < p → ¬ d ∣ p
theorem Pr.nat {p : Int} (h : Pr p) : PrN p.toNat := by
  refine ⟨by have := h.1; omega, fun d h1 h2 h3 => ?_⟩
  refine h.2 d (by omega) (by omega) ?_
  obtain ⟨k, hk⟩ := h3
  have : p = (d : Int) * k := by have := h.1; omega
  rw [this]
  exact Int.mul_emod_right _ _
theorem PrN.euclid {p a b : Nat} (h : PrN p) (hd : p ∣ a * b) : p ∣ a ∨ p ∣ b := by
  have hg : Nat.gcd p a ∣ p := Nat.gcd_dvd_left p a
  by_cases h1 : Nat.gcd p a = 1
  · exact .inr (Nat.Coprime.dvd_of_dvd_mul_left h1 hd)
  · by_cases h2 : Nat.gcd p a = p
    · exact .inl (h2 ▸ Nat.gcd_dvd_right p a)
    · have hp : 0 < p := by have := h.1; omega
      have h3 : Nat.gcd p a ≤ p := Nat.le_of_dvd hp hg
      have h4 : 0 < Nat.gcd p a := Nat.gcd_pos_of_pos_left _ hp
      exact absurd hg (h.2 _ (by omega) (by omega))
/-- Pascal's numbers -/
def C : Nat → Nat → Nat
  | _, 0 => 1
  | 0, _ + 1 => 0
  | n + 1, k + 1 => C n k + C n (k + 1)
theorem C_zero (n : Nat) : C n 0 = 1 := by cases n <;> rfl
theorem C_mul (n : Nat) : ∀ k, (k + 1) * C (n + 1) (k + 1) = (n + 1) * C n k := by
  induction n with
  | zero => intro k; cases k with
    | zero => rfl
    | succ k => simp [C]
  | succ n ih =>
    intro k
    cases k with
    | zero =>
      have := ih 0
      rw [C_zero] at this
      show (0 + 1) * (C (n + 1) 0 + C (n + 1) (0 + 1)) = (n + 1 + 1) * C (n + 1) 0
      rw [C_zero]
      omega
    | succ j =>
      have h1 := ih j
      have h2 := ih (j + 1)
      have h3 : C (n + 1) (j + 1) = C n j + C n (j + 1) := rfl
      show (j + 1 + 1) * (C (n + 1) (j + 1) + C (n + 1) (j + 1 + 1)) = (n + 1 + 1) * C (n + 1) (j + 1)
      rw [Nat.mul_add, h2, Nat.add_mul (j + 1) 1, h1, h3, Nat.add_mul (n + 1) 1, Nat.mul_add (n + 1)]
      omega
theorem C_big (n : Nat) : ∀ k, n < k → C n k = 0 := by
  induction n with
  | zero => intro k h; cases k with
    | zero => omega
    | succ k => rfl
  | succ n ih => intro k h; cases k with
    | zero => omega
    | succ k => show C n k + C n (k + 1) = 0; rw [ih k (by omega), ih (k + 1) (by omega)]
theorem C_self (n : Nat) : C n n = 1 := by
  induction n with
  | zero => rfl
  | succ n ih => show C n n + C n (n + 1) = 1; rw [ih, C_big n _ (by omega)]
def Sg (n a : Nat) : Nat → Nat
  | 0 => 0
  | m + 1 => Sg n a m + C n m * a ^ m
theorem Sg_step (n a : Nat) : ∀ m, Sg (n + 1) a (m + 1) = Sg n a (m + 1) + a * Sg n a m := by
  intro m
  induction m with
  | zero => simp [Sg, C_zero]
  | succ m ih =>
    show Sg (n + 1) a (m + 1) + (C n m + C n (m + 1)) * a ^ (m + 1) = Sg n a (m + 1) + C n (m + 1) * a ^ (m + 1) + a * (Sg n a m + C n m * a ^ m)
    rw [ih, Nat.add_mul, Nat.mul_add, Nat.pow_succ]
    have : C n m * (a ^ m * a) = a * (C n m * a ^ m) := by rw [← Nat.mul_assoc, Nat.mul_comm]
    omega
theorem binom (a : Nat) : ∀ n, (a + 1) ^ n = Sg n a (n + 1) := by
  intro n
  induction n with
  | zero => simp [Sg, C]
  | succ n ih =>
    rw [Sg_step, Nat.pow_succ, ih, Nat.mul_add, Nat.mul_one, Nat.mul_comm]
    show _ = Sg n a (n + 1) + C n (n + 1) * a ^ (n + 1) + _
    rw [C_big n (n + 1) (by omega)]
    omega
theorem C_prime {p : Nat} (h : PrN p) {k : Nat} (h1 : 0 < k) (h2 : k < p) : p ∣ C p k := by
  obtain ⟨n, rfl⟩ : ∃ n, p = n + 1 := ⟨p - 1, by omega⟩
  obtain ⟨j, rfl⟩ : ∃ j, k = j + 1 := ⟨k - 1, by omega⟩
  have hd : (n + 1) ∣ (j + 1) * C (n + 1) (j + 1) := ⟨_, C_mul n j⟩
  rcases h.euclid hd with h3 | h3
  · exact absurd (Nat.le_of_dvd h1 h3) (by omega)
  · exact h3
theorem Sg_prime {p : Nat} (h : PrN p) (a : Nat) : ∀ m, 0 < m → m ≤ p → Sg p a m % p = 1 := by
  intro m
  induction m with
  | zero => intro h; omega
  | succ m ih =>
    intro _ hm
    cases m with
    | zero => simp [Sg, C_zero]; exact Nat.mod_eq_of_lt h.1
    | succ m =>
      show (Sg p a (m + 1) + C p (m + 1) * a ^ (m + 1)) % p = 1
      obtain ⟨c, hc⟩ := C_prime h (k := m + 1) (by omega) (by omega)
      rw [hc, Nat.mul_assoc, Nat.add_mul_mod_self_left]
      exact ih (by omega) (by omega)
theorem fermatN {p : Nat} (h : PrN p) (a : Nat) : a ^ p % p = a % p := by
  induction a with
  | zero => rw [Nat.zero_pow (by have := h.1; omega)]
  | succ a ih =>
    rw [binom]
    show (Sg p a p + C p p * a ^ p) % p = _
    rw [C_self, Nat.one_mul, Nat.add_mod, Sg_prime h a p (by have := h.1; omega) (Nat.le_refl _), ih, Nat.add_mod a 1, Nat.mod_eq_of_lt h.1, Nat.add_comm]
/-! whole numbers -/
theorem emod_cast (p : Int) (hp : 0 < p) (a : Int) : ((a % p).toNat : Int) = a % p := Int.toNat_of_nonneg (Int.emod_nonneg _ (by omega))
theorem pow_emod (a p : Int) (n : Nat) : (a % p) ^ n % p = a ^ n % p := by
  induction n with
  | zero => rw [Int.pow_zero, Int.pow_zero]
  | succ n ih => rw [Int.pow_succ, Int.pow_succ, Int.mul_emod, ih, Int.emod_emod_of_dvd _ (Int.dvd_refl p), ← Int.mul_emod]
theorem Pr.pos {p : Int} (h : Pr p) : 0 < p := by have := h.1; omega
theorem Pr.fermat0 {p : Int} (h : Pr p) (a : Int) : a ^ p.toNat % p = a % p := by
  have hp := h.pos
  rw [← pow_emod, ← emod_cast p hp a]
  have e := fermatN h.nat (a % p).toNat
  have e2 : p = (p.toNat : Int) := by omega
  have hlt : ((a % p).toNat : Int) < p := by rw [emod_cast p hp a]; exact Int.emod_lt_of_pos _ hp
  generalize (a % p).toNat = b at *
  have : ((b : Int) ^ p.toNat % (p.toNat : Int)) = (b : Int) % (p.toNat : Int) := by exact_mod_cast congrArg (fun n : Nat => (n : Int)) e
  rw [← e2] at this
  rw [this]
  exact Int.emod_eq_of_lt (by omega) hlt
theorem Pr.euclid {p : Int} (h : Pr p) {a b : Int} (hd : a * b % p = 0) : a % p = 0 ∨ b % p = 0 := by
  have hp := h.pos
  have hd' : p.toNat ∣ a.natAbs * b.natAbs := by
    rw [← Int.natAbs_mul]
    have : p ∣ a * b := Int.dvd_of_emod_eq_zero hd
    have := Int.natAbs_dvd_natAbs.mpr this
    rwa [show p.natAbs = p.toNat by omega] at this
  have key : ∀ c : Int, p.toNat ∣ c.natAbs → c % p = 0 := by
    intro c hc
    refine Int.emod_eq_zero_of_dvd ?_
    apply Int.natAbs_dvd_natAbs.mp
    rwa [show p.natAbs = p.toNat by omega]
  rcases h.nat.euclid hd' with h1 | h1
  · exact .inl (key _ h1)
  · exact .inr (key _ h1)
theorem Pr.cancel {p : Int} (h : Pr p) {a x y : Int} (ha : a % p ≠ 0) (e : a * x % p = a * y % p) : x % p = y % p := by
  have h1 : a * (x - y) % p = 0 := by
    rw [Int.mul_sub]
    exact Int.emod_eq_emod_iff_emod_sub_eq_zero.mp e
  rcases h.euclid h1 with h2 | h2
  · exact absurd h2 ha
  · exact Int.emod_eq_emod_iff_emod_sub_eq_zero.mpr h2
theorem Pr.fermat {p : Int} (h : Pr p) {a : Int} (ha : a % p ≠ 0) : a ^ (p - 1).toNat % p = 1 := by
  have e := h.fermat0 a
  have hp := h.1
  rw [show p.toNat = (p - 1).toNat + 1 by omega, Int.pow_succ, Int.mul_comm] at e
  have e' : a * a ^ (p - 1).toNat % p = a * 1 % p := by rw [e, Int.mul_one]
  have := h.cancel ha e'
  rw [this]
  exact Int.emod_eq_of_lt (by omega) (by omega)
theorem Pr.pow_ne {p : Int} (h : Pr p) {a : Int} (ha : a % p ≠ 0) (n : Nat) : a ^ n % p ≠ 0 := by
  induction n with
  | zero => rw [Int.pow_zero, Int.emod_eq_of_lt (by omega) h.1]; omega
  | succ n ih =>
    intro e
    rw [Int.pow_succ] at e
    rcases h.euclid e with h1 | h1
    · exact ih h1
    · exact ha h1
/-- exponents count modulo q -/
theorem pow_mod_exp {p b : Int} {q : Nat} (hb : b ^ q % p = 1 % p) (n : Nat) : b ^ n % p = b ^ (n % q) % p := by
  have h : ∀ k, b ^ (q * k) % p = 1 % p := by
    intro k
    induction k with
    | zero => rw [Nat.mul_zero, Int.pow_zero]
    | succ k ih => rw [Nat.mul_succ, Int.pow_add, Int.mul_emod, ih, hb, ← Int.mul_emod, Int.mul_one]
  rw [← Nat.div_add_mod n q, Int.pow_add, Int.mul_emod, h, ← Int.mul_emod, Int.one_mul, Nat.mul_add_mod, Nat.mod_mod]
/-- q a prime, b to the q is 1, b is not 1: b to the k is 1 for multiples of q alone -/
theorem ord_dvd {p b : Int} {q : Nat} (hq : PrN q) (hp : 1 < p) (hb : b ^ q % p = 1) (hb1 : b % p ≠ 1) {k : Nat} (hk : b ^ k % p = 1) : q ∣ k := by
  -- the least exponent of 1
  have h1p : (1 : Int) % p = 1 := Int.emod_eq_of_lt (by omega) hp
  have hg : ∀ n m : Nat, b ^ n % p = 1 → b ^ m % p = 1 → b ^ (Nat.gcd n m) % p = 1 := by
    intro n m
    induction n, m using Nat.gcd.induction with
    | H0 m => intro _ h; rwa [Nat.gcd_zero_left]
    | H1 n m hn ih =>
      intro h1 h2
      rw [Nat.gcd_rec]
      refine ih ?_ h1
      rw [← pow_mod_exp (q := n) (by rw [h1, h1p]) m]
      exact h2
  have h := hg q k hb hk
  by_cases h1 : Nat.gcd q k = 1
  · rw [h1, Int.pow_one] at h
    exact absurd h hb1
  · by_cases h2 : Nat.gcd q k = q
    · rw [← h2]; exact Nat.gcd_dvd_right q k
    · have hq0 : 0 < q := by have := hq.1; omega
      have h3 : Nat.gcd q k ≤ q := Nat.le_of_dvd hq0 (Nat.gcd_dvd_left q k)
      have h4 : 0 < Nat.gcd q k := Nat.gcd_pos_of_pos_left _ hq0
      exact absurd (Nat.gcd_dvd_left q k) (hq.2 _ (by omega) (by omega))
theorem pow_inj {p b : Int} {q : Nat} (hq : PrN q) (hp : Pr p) (hb : b ^ q % p = 1) (hb1 : b % p ≠ 1) {i j : Nat} (hi : i < q) (hj : j < q) (e : b ^ i % p = b ^ j % p) : i = j := by
  have hb0 : b % p ≠ 0 := by
    intro h0
    have hq1 := hq.1
    obtain ⟨n, rfl⟩ : ∃ n, q = n + 1 := ⟨q - 1, by omega⟩
    rw [Int.pow_succ, Int.mul_emod, h0, Int.mul_zero, Int.zero_emod] at hb
    omega
  have key : ∀ i j : Nat, i ≤ j → j < q → b ^ i % p = b ^ j % p → i = j := by
    intro i j hij hj e
    obtain ⟨k, rfl⟩ : ∃ k, j = i + k := ⟨j - i, by omega⟩
    rw [Int.pow_add] at e
    have e' : b ^ i * 1 % p = b ^ i * b ^ k % p := by rw [Int.mul_one]; exact e
    have h1 := hp.cancel (hp.pow_ne hb0 i) e'
    rw [Int.emod_eq_of_lt (by omega) hp.1] at h1
    have h2 := ord_dvd hq hp.1 hb hb1 h1.symm
    rcases Nat.eq_zero_or_pos k with h3 | h3
    · omega
    · have := Nat.le_of_dvd h3 h2; omega
  rcases Nat.le_total i j with h | h
  · exact key i j h hj e
  · exact (key j i h hi e.symm).symm
end DM

namespace DM
open PySem PySem.Spec PyProof.Rows L2 DL
abbrev I (i : Int) : Sl := .im (.int i)
abbrev Bo (b : Bool) : Sl := .im (.bool b)
abbrev Li (xs : List Int) : D := .list (xs.map PyData.int)
abbrev Tu (xs : List Int) : D := .tuple (xs.map PyData.int)
/-! ### comprehensions -/
section
variable {δ : En} {t : Tg} {c : En → Rs Bool} {f : En → Rs Sl}
def compR (r : Rs (List D)) : Rs Sl := match r with
  | .ok ys => .ok (.ml ys)
  | _ => .bad
@[simp] theorem compR_ok (ys : List D) : compR (.ok ys) = .ok (.ml ys) := rfl
@[simp] theorem eComp_def (it : En → Rs (List D)) (vs : List Nat) : eComp it vs t c f δ = (it δ).bind fun ds => if ds.length ≤ 16777216 then compR (compL t c f (wipeE δ vs) ds) else .bad := by
  unfold eComp compR; rfl
@[simp] theorem wipeE_nil : wipeE δ [] = δ := rfl
@[simp] theorem wipeE_cons (v : Nat) (vs : List Nat) : wipeE δ (v :: vs) = (wipeE δ vs).set v none := rfl
@[simp] theorem cYes_def : cYes δ = .ok true := rfl
theorem compL_of {α : Type} (emb : α → D) (p : α → Bool) (e : α → D) : ∀ (xs : List α), (∀ x ∈ xs, ∃ δ1, t (.im (emb x)) δ = some δ1 ∧ c δ1 = .ok (p x) ∧ (p x = true → f δ1 = .ok (.im (e x)))) → compL t c f δ (xs.map emb) = .ok ((xs.filter p).map e)
  | [], _ => rfl
  | x :: xs, h => by
    obtain ⟨δ1, h1, h2, h3⟩ := h x (.head _)
    have ih := compL_of emb p e xs (fun y hy => h y (.tail _ hy))
    rw [List.map_cons]
    unfold compL
    rw [h1]
    simp only
    rw [h2]
    cases hp : p x with
    | false => simp only; rw [ih, List.filter_cons_of_neg (by simp [hp])]
    | true => simp only; rw [h3 hp, ih, List.filter_cons_of_pos hp]; rfl
theorem compL_map {α : Type} (emb : α → D) (e : α → D) (xs : List α) (h : ∀ x ∈ xs, ∃ δ1, t (.im (emb x)) δ = some δ1 ∧ c δ1 = .ok true ∧ f δ1 = .ok (.im (e x))) : compL t c f δ (xs.map emb) = .ok (xs.map e) := by
  have := compL_of (c := c) (f := f) (δ := δ) (t := t) emb (fun _ => true) e xs (fun x hx => by obtain ⟨δ1, h1, h2, h3⟩ := h x hx; exact ⟨δ1, h1, h2, fun _ => h3⟩)
  rwa [List.filter_eq_self.mpr (fun _ _ => rfl)] at this
/-- over lo, lo + 1, .. -/
theorem compL_rng {lo : Int} {n : Nat} (e : Nat → D) (h : ∀ k < n, ∃ δ1, t (I (lo + (k : Nat))) δ = some δ1 ∧ c δ1 = .ok true ∧ f δ1 = .ok (.im (e k))) : compL t c f δ (rng lo n) = .ok ((List.range n).map e) :=
  compL_map (fun k : Nat => PyData.int (lo + (k : Nat))) e (List.range n) (fun k hk => h k (List.mem_range.mp hk))
theorem compL_rngF {lo : Int} {n : Nat} (p : Nat → Bool) (e : Nat → D) (h : ∀ k < n, ∃ δ1, t (I (lo + (k : Nat))) δ = some δ1 ∧ c δ1 = .ok (p k) ∧ (p k = true → f δ1 = .ok (.im (e k)))) : compL t c f δ (rng lo n) = .ok (((List.range n).filter p).map e) :=
  compL_of (fun k : Nat => PyData.int (lo + (k : Nat))) p e (List.range n) (fun k hk => h k (List.mem_range.mp hk))
end
theorem filter_range_unique {n k : Nat} (hk : k < n) {p : Nat → Bool} (h : ∀ i < n, p i = true ↔ i = k) : (List.range n).filter p = [k] := by
  induction n with
  | zero => omega
  | succ n ih =>
    rw [List.range_succ, List.filter_append]
    by_cases e : k = n
    · subst e
      have h1 : (List.range k).filter p = [] := by
        rw [List.filter_eq_nil_iff]
        intro a ha hp
        have := List.mem_range.mp ha
        have := (h a (by omega)).mp hp
        omega
      rw [h1, List.filter_cons_of_pos ((h k (by omega)).mpr rfl)]
      rfl
    · rw [ih (by omega) (fun i hi => h i (by omega)), List.filter_cons_of_neg (fun hp => e ((h n (by omega)).mp hp).symm)]
      rfl
/-! ### what is equal -/
/-- data without truth values, of a bounded depth -/
def dt : Nat → D → Bool
  | _, .none => true
  | _, .int _ => true
  | _, .str x => PyData.strOk x
  | n + 1, .list xs => xs.all (dt n)
  | n + 1, .tuple xs => xs.all (dt n)
  | _, _ => false
theorem dt_can : ∀ (n : Nat) (d : D), dt n d = true → d.canLay0 = true ∧ d.depth ≤ n := by
  intro n
  have hs : ∀ m, (∀ d, dt m d = true → d.canLay0 = true ∧ d.depth ≤ m) → ∀ xs : List D, xs.all (dt m) = true → PyData.canLayAll0 xs = true ∧ PyData.depthAll xs ≤ m := by
    intro m ih xs
    induction xs with
    | nil => intro _; exact ⟨rfl, Nat.zero_le _⟩
    | cons x xs ih2 =>
      intro h
      rw [List.all_cons, Bool.and_eq_true] at h
      obtain ⟨a1, a2⟩ := ih x h.1
      obtain ⟨b1, b2⟩ := ih2 h.2
      exact ⟨by simp only [PyData.canLayAll0, a1, b1, Bool.and_self], by simp only [PyData.depthAll]; omega⟩
  induction n with
  | zero =>
    intro d h
    cases d with
    | none => exact ⟨by simp only [PyData.canLay0], by simp only [PyData.depth]; omega⟩
    | int i => exact ⟨by simp only [PyData.canLay0], by simp only [PyData.depth]; omega⟩
    | str x => exact ⟨by simp only [PyData.canLay0]; simpa [dt] using h, by simp only [PyData.depth]; omega⟩
    | bool _ => simp [dt] at h
    | list _ => simp [dt] at h
    | tuple _ => simp [dt] at h
    | dict _ => simp [dt] at h
  | succ n ih =>
    intro d h
    cases d with
    | none => exact ⟨by simp only [PyData.canLay0], by simp only [PyData.depth]; omega⟩
    | int i => exact ⟨by simp only [PyData.canLay0], by simp only [PyData.depth]; omega⟩
    | str x => exact ⟨by simp only [PyData.canLay0]; simpa [dt] using h, by simp only [PyData.depth]; omega⟩
    | bool _ => simp [dt] at h
    | list xs => obtain ⟨a, b⟩ := hs n ih xs (by simpa only [dt] using h); exact ⟨by simpa only [PyData.canLay0] using a, by simp only [PyData.depth]; omega⟩
    | tuple xs => obtain ⟨a, b⟩ := hs n ih xs (by simpa only [dt] using h); exact ⟨by simpa only [PyData.canLay0] using a, by simp only [PyData.depth]; omega⟩
    | dict _ => simp [dt] at h
theorem dt_shaped {n : Nat} {d : D} (h : dt n d = true) (hn : n ≤ 64) : SeqAt.shaped d = true := by
  obtain ⟨a, b⟩ := dt_can n d h
  unfold SeqAt.shaped
  rw [a, decide_eq_true (by omega)]
  rfl
theorem dt_eqv : ∀ (n : Nat) (d e : D), dt n d = true → dt n e = true → (PyData.eqv d e = true ↔ d = e) := by
  intro n
  have hs : ∀ m, (∀ d e, dt m d = true → dt m e = true → (PyData.eqv d e = true ↔ d = e)) → ∀ xs ys : List D, xs.all (dt m) = true → ys.all (dt m) = true → (PyData.eqvAll xs ys = true ↔ xs = ys) := by
    intro m ih xs
    induction xs with
    | nil => intro ys _ _; cases ys <;> simp [PyData.eqvAll]
    | cons x xs ih2 =>
      intro ys h1 h2
      cases ys with
      | nil => simp [PyData.eqvAll]
      | cons y ys =>
        rw [List.all_cons, Bool.and_eq_true] at h1 h2
        simp only [PyData.eqvAll, Bool.and_eq_true, ih x y h1.1 h2.1, ih2 ys h1.2 h2.2, List.cons.injEq]
  induction n with
  | zero => intro d e h1 h2; cases d <;> cases e <;> simp [dt, PyData.eqv] at h1 h2 ⊢
  | succ n ih =>
    intro d e h1 h2
    cases d <;> cases e <;> first
      | (simp [dt, PyData.eqv] at h1 h2 ⊢; done)
      | (simp only [dt] at h1 h2; simp only [PyData.eqv, PyData.list.injEq, PyData.tuple.injEq]; exact hs n ih _ _ h1 h2)
open Classical in
/-- equal data -/
noncomputable def eqP (d e : D) : Bool := decide (d = e)
theorem eqP_true {d e : D} : eqP d e = true ↔ d = e := by unfold eqP; simp
theorem eqP_eqv {n : Nat} {d e : D} (h1 : dt n d = true) (h2 : dt n e = true) : PyData.eqv d e = eqP d e := by
  rw [Bool.eq_iff_iff, eqP_true]; exact dt_eqv n d e h1 h2
theorem eqP_of {p : Prop} [Decidable p] {d e : D} (h : d = e ↔ p) : eqP d e = decide p := by
  rw [Bool.eq_iff_iff, eqP_true, decide_eq_true_iff]; exact h
theorem int_map_inj {xs ys : List Int} : xs.map PyData.int = ys.map PyData.int ↔ xs = ys :=
  ⟨fun h => by
    have := congrArg (List.map fun d : D => match d with | .int i => i | _ => 0) h
    simpa [List.map_map, Function.comp_def] using this, fun h => by rw [h]⟩
@[simp] theorem dt_int (n : Nat) (i : Int) : dt n (.int i) = true := by cases n <;> rfl
@[simp] theorem dt_none (n : Nat) : dt n .none = true := by cases n <;> rfl
@[simp] theorem dt_ints (n : Nat) (xs : List Int) : (xs.map PyData.int).all (dt n) = true := by
  rw [List.all_map, List.all_eq_true]; intro x _; simp
@[simp] theorem dt_list (n : Nat) (xs : List D) : dt (n + 1) (.list xs) = xs.all (dt n) := rfl
@[simp] theorem dt_tuple (n : Nat) (xs : List D) : dt (n + 1) (.tuple xs) = xs.all (dt n) := rfl
@[simp] theorem dt_str (n : Nat) (x : Str) : dt n (.str x) = PyData.strOk x := by cases n <;> rfl
theorem eqD_dat {a b : Sl} {d e : D} (ha : datOf a = some d) (hb : datOf b = some e) (h1 : dt 60 d = true) (h2 : dt 60 e = true) (hx : (match d with | .list _ => true | .tuple _ => true | _ => false) = true) : eqD a b = some (eqP d e) := by
  have s1 := dt_shaped h1 (by decide)
  have s2 := dt_shaped h2 (by decide)
  unfold eqD
  split <;> first
    | (cases ha; cases hx)
    | (rw [ha, hb]; simp only [s1, s2, Bool.and_self, if_true, eqP_eqv h1 h2])
/-- lists, tuples that are compared -/
@[simp] theorem datOf_im (d : D) : datOf (.im d) = some d := rfl
@[simp] theorem datOf_ml (ds : List D) : datOf (.ml ds) = some (.list ds) := rfl
@[simp] theorem datOf_br (ds : List D) : datOf (.br ds) = some (.list ds) := rfl
theorem mEq_dat {a b : Sl} {d e : D} (ha : datOf a = some d) (hb : datOf b = some e) (h1 : dt 60 d = true) (h2 : dt 60 e = true) (hx : (match d with | .list _ => true | .tuple _ => true | _ => false) = true) : mEq a b = some (Bo (eqP d e)) := by
  unfold mEq; rw [eqD_dat ha hb h1 h2 hx]; rfl
theorem mNe_dat {a b : Sl} {d e : D} (ha : datOf a = some d) (hb : datOf b = some e) (h1 : dt 60 d = true) (h2 : dt 60 e = true) (hx : (match d with | .list _ => true | .tuple _ => true | _ => false) = true) : mNe a b = some (Bo (!eqP d e)) := by
  unfold mNe; rw [eqD_dat ha hb h1 h2 hx]; rfl
@[simp] theorem eqP_list (xs ys : List D) : eqP (.list xs) (.list ys) = @decide (xs = ys) (Classical.propDecidable _) := @eqP_of (xs = ys) (Classical.propDecidable _) _ _ (by simp)
@[simp] theorem eqP_tuple (xs ys : List D) : eqP (.tuple xs) (.tuple ys) = @decide (xs = ys) (Classical.propDecidable _) := @eqP_of (xs = ys) (Classical.propDecidable _) _ _ (by simp)
@[simp] theorem eqP_self (d : D) : eqP d d = true := eqP_true.mpr rfl
theorem mEq_tt {xs ys : List D} (h1 : xs.all (dt 59) = true) (h2 : ys.all (dt 59) = true) : mEq (.im (.tuple xs)) (.im (.tuple ys)) = some (Bo (eqP (.tuple xs) (.tuple ys))) := mEq_dat rfl rfl h1 h2 rfl
theorem mNe_tt {xs ys : List D} (h1 : xs.all (dt 59) = true) (h2 : ys.all (dt 59) = true) : mNe (.im (.tuple xs)) (.im (.tuple ys)) = some (Bo (!eqP (.tuple xs) (.tuple ys))) := mNe_dat rfl rfl h1 h2 rfl
theorem mEq_ll {a b : Sl} {xs ys : List D} (ha : datOf a = some (.list xs)) (hb : datOf b = some (.list ys)) (h1 : xs.all (dt 59) = true) (h2 : ys.all (dt 59) = true) : mEq a b = some (Bo (eqP (.list xs) (.list ys))) := mEq_dat ha hb h1 h2 rfl
theorem mNe_ll {a b : Sl} {xs ys : List D} (ha : datOf a = some (.list xs)) (hb : datOf b = some (.list ys)) (h1 : xs.all (dt 59) = true) (h2 : ys.all (dt 59) = true) : mNe a b = some (Bo (!eqP (.list xs) (.list ys))) := mNe_dat ha hb h1 h2 rfl
/-! ### further statements -/
section
variable {δ δ' : En} {i : Nat} {b : En → Out} {t : Tg}
@[simp] theorem forL_nil : forL t b [] δ = .nx δ := rfl
def forS (o : Option En) (b : En → Out) (k : En → Out) : Out := match o with
  | some δ => lpE (b δ) k
  | none => .bad
theorem forL_cons (d : D) (r : List D) : forL t b (d :: r) δ = forS (t (.im d) δ) b (forL t b r) := rfl
@[simp] theorem forS_some (k : En → Out) : forS (some δ) b k = lpE (b δ) k := rfl
@[simp] theorem lpE_nx (k : En → Out) : lpE (.nx δ) k = k δ := Eq.trans rfl rfl
@[simp] theorem lpE_ct (k : En → Out) : lpE (.ct δ) k = k δ := Eq.trans rfl rfl
@[simp] theorem lpE_bk (k : En → Out) : lpE (.bk δ) k = .nx δ := rfl
@[simp] theorem lpE_rt (s : Sl) (k : En → Out) : lpE (.rt s) k = .rt s := rfl
@[simp] theorem lpE_rm (d : D) (k : En → Out) : lpE (.rm d δ) k = .rm d δ := rfl
@[simp] theorem lpE_er (c : Str) (k : En → Out) : lpE (.er c δ) k = .er c δ := rfl
@[simp] theorem gT_tup (n : Nat) (ds : List D) (u : List D → En → Option En) : gT n u (.im (.tuple ds)) δ = if ds.length = n then u ds δ else none := rfl
@[simp] theorem gsN_nil : gsN [] δ = some δ := rfl
@[simp] theorem gsC_cons (d : D) (r : List D) (u : List D → En → Option En) : gsC t u (d :: r) δ = (t (.im d) δ).bind fun δ' => u r δ' := rfl
def asgT (o : Option En) : Out := match o with
  | some δ' => .nx δ'
  | none => .bad
@[simp] theorem asg_ok (s : Sl) : asg (.ok s) t δ = asgT (t s δ) := rfl
@[simp] theorem asgT_some : asgT (some δ') = .nx δ' := rfl
def setIO (r : Rs Sl) (k : Rs Sl) (o : Option (Option Sl)) (i : Nat) (δ : En) : Out := match r with
  | .ok (.im d) => (match k with
    | .ok (.im (.int k)) => (match o with
      | some (some (.ml ds)) => (match ixN ds.length k with
        | some j => .nx (δ.set i (some (.ml (ds.set j d))))
        | none => .bad)
      | _ => .bad)
    | .er x => .bad
    | _ => .bad)
  | .er x => .er x δ
  | _ => .bad
@[simp] theorem sSetI_def (g f : En → Rs Sl) : sSetI i g f δ = setIO (f δ) (g δ) δ[i]? i δ := rfl
def setIX (o : Option Nat) (ds : List D) (d : D) (i : Nat) (δ : En) : Out := match o with
  | some j => .nx (δ.set i (some (.ml (ds.set j d))))
  | none => .bad
@[simp] theorem setIO_ok (d : D) (k : Int) (ds : List D) : setIO (.ok (.im d)) (.ok (.im (.int k))) (some (some (.ml ds))) i δ = setIX (ixN ds.length k) ds d i δ := rfl
@[simp] theorem setIX_some (j : Nat) (ds : List D) (d : D) : setIX (some j) ds d i δ = .nx (δ.set i (some (.ml (ds.set j d)))) := rfl
def extO (o : Option (Option Sl)) (r : Rs Sl) (i : Nat) (δ : En) : Out := match o with
  | some (some (.ml ds)) => (match r with
    | .ok s => (match lstOfM s with
      | some es => if ds.length + es.length ≤ 16777216 then .nx (δ.set i (some (.ml (ds ++ es)))) else .bad
      | none => .bad)
    | .er x => .er x δ
    | .bad => .bad)
  | _ => .bad
@[simp] theorem sExtend_def (f : En → Rs Sl) : sExtend i f δ = extO δ[i]? (f δ) i δ := rfl
def extX (o : Option (List D)) (ds : List D) (i : Nat) (δ : En) : Out := match o with
  | some es => if ds.length + es.length ≤ 16777216 then .nx (δ.set i (some (.ml (ds ++ es)))) else .bad
  | none => .bad
@[simp] theorem extO_ok (ds : List D) (s : Sl) : extO (some (some (.ml ds))) (.ok s) i δ = extX (lstOfM s) ds i δ := rfl
@[simp] theorem extX_some (ds es : List D) : extX (some es) ds i δ = if ds.length + es.length ≤ 16777216 then .nx (δ.set i (some (.ml (ds ++ es)))) else .bad := Eq.trans rfl rfl
@[simp] theorem lstOfM_list (ds : List D) : lstOfM (.im (.list ds)) = some ds := rfl
@[simp] theorem lstOfM_ml (ds : List D) : lstOfM (.ml ds) = some ds := rfl
@[simp] theorem lstOfM_br (ds : List D) : lstOfM (.br ds) = some ds := rfl
def fzO (o : Option (Option Sl)) (i : Nat) (δ : En) : En := match o with
  | some (some (.ml ds)) => δ.set i (some (.im (.list ds)))
  | _ => δ
@[simp] theorem fzS_def : fzS i δ = fzO δ[i]? i δ := rfl
@[simp] theorem fzO_ml (ds : List D) : fzO (some (some (.ml ds))) i δ = δ.set i (some (.im (.list ds))) := rfl
@[simp] theorem fzO_im (d : D) : fzO (some (some (.im d))) i δ = δ := rfl
@[simp] theorem fzO_none : fzO (some none) i δ = δ := rfl
@[simp] theorem sFz_def : sFz i b δ = b (fzS i δ) := Eq.trans rfl rfl
def thnFz (o : Out) (i : Nat) : Out := match o with
  | .nx δ' => .nx (fzS i δ')
  | o => o
@[simp] theorem sThenFz_def : sThenFz i b δ = thnFz (b δ) i := rfl
@[simp] theorem thnFz_nx : thnFz (.nx δ) i = .nx (fzS i δ) := rfl
end
/-! ### further calls of built-ins -/
@[simp] theorem mList_list (ds : List D) : mList [.im (.list ds)] = some (.ml ds) := rfl
@[simp] theorem mList_tup (ds : List D) : mList [.im (.tuple ds)] = some (.ml ds) := rfl
@[simp] theorem mList_ml (ds : List D) : mList [.ml ds] = some (.ml ds) := rfl
@[simp] theorem mList_br (ds : List D) : mList [.br ds] = some (.ml ds) := rfl
@[simp] theorem mTuple_list (ds : List D) : mTuple [.im (.list ds)] = some (.im (.tuple ds)) := rfl
@[simp] theorem mTuple_tup (ds : List D) : mTuple [.im (.tuple ds)] = some (.im (.tuple ds)) := rfl
@[simp] theorem mTuple_ml (ds : List D) : mTuple [.ml ds] = some (.im (.tuple ds)) := rfl
@[simp] theorem mTuple_br (ds : List D) : mTuple [.br ds] = some (.im (.tuple ds)) := rfl
theorem intsOf_map (xs : List Int) : intsOf (xs.map PyData.int) = some xs := by
  induction xs with
  | nil => rfl
  | cons x xs ih => show (intsOf (xs.map PyData.int)).map (x :: ·) = _; rw [ih]; rfl
theorem boolsOf_map (xs : List Bool) : boolsOf (xs.map PyData.bool) = some xs := by
  induction xs with
  | nil => rfl
  | cons x xs ih => show (boolsOf (xs.map PyData.bool)).map (x :: ·) = _; rw [ih]; rfl
@[simp] theorem intsOf_m (xs : List Int) : intsOf (xs.map PyData.int) = some xs := intsOf_map xs
@[simp] theorem intsOf_nil : intsOf [] = some [] := rfl
@[simp] theorem intsOf_cons (i : Int) (r : List D) : intsOf (.int i :: r) = (intsOf r).map (i :: ·) := rfl
@[simp] theorem boolsOf_m (xs : List Bool) : boolsOf (xs.map PyData.bool) = some xs := boolsOf_map xs
@[simp] theorem boolsOf_nil : boolsOf [] = some [] := rfl
@[simp] theorem boolsOf_cons (i : Bool) (r : List D) : boolsOf (.bool i :: r) = (boolsOf r).map (i :: ·) := rfl
@[simp] theorem mSum_ml (ds : List D) : mSum [.ml ds] = (intsOf ds).map fun xs => I xs.sum := rfl
@[simp] theorem mSum_br (ds : List D) : mSum [.br ds] = (intsOf ds).map fun xs => I xs.sum := rfl
@[simp] theorem mSum_li (ds : List D) : mSum [.im (.list ds)] = (intsOf ds).map fun xs => I xs.sum := rfl
@[simp] theorem mAll_ml (ds : List D) : mAll [.ml ds] = (boolsOf ds).map fun xs => Bo (xs.all id) := rfl
@[simp] theorem mAny_ml (ds : List D) : mAny [.ml ds] = (boolsOf ds).map fun xs => Bo (xs.any id) := rfl
@[simp] theorem mAbs_i (i : Int) : mAbs [I i] = some (I (if i < 0 then -i else i)) := Eq.trans rfl rfl
@[simp] theorem mMax2_ii (i j : Int) : mMax2 [I i, I j] = some (I (if j > i then j else i)) := Eq.trans rfl rfl
@[simp] theorem mMin2_ii (i j : Int) : mMin2 [I i, I j] = some (I (if j < i then j else i)) := Eq.trans rfl rfl
@[simp] theorem mLen_ro (ns : List Int) : mLen [.ro ns] = some (I (ns.length : Nat)) := by
  show some (I (((ns.map PyData.int).length : Nat) : Int)) = _; rw [List.length_map]
@[simp] theorem mIx_ro (ns : List Int) (i : Int) : mIx (.ro ns) (.im (.int i)) = (atI (ns.map PyData.int) i).map fun d => .im d := Eq.trans rfl rfl
@[simp] theorem mIsi_t (T : String) (x : List D) : mIsi T (.im (.tuple x)) = (kitB "tuple" T).map fun k => .im (.bool k) := Eq.trans rfl rfl
@[simp] theorem mIsi_l (T : String) (x : List D) : mIsi T (.im (.list x)) = (kitB "list" T).map fun k => .im (.bool k) := Eq.trans rfl rfl
@[simp] theorem mIsi_br (T : String) (x : List D) : mIsi T (.br x) = (kitB "list" T).map fun k => .im (.bool k) := Eq.trans rfl rfl
@[simp] theorem mIsi_ml (T : String) (x : List D) : mIsi T (.ml x) = (kitB "list" T).map fun k => .im (.bool k) := Eq.trans rfl rfl
@[simp] theorem mIsi_b (T : String) (x : Bool) : mIsi T (.im (.bool x)) = (kitB "bool" T).map fun k => .im (.bool k) := Eq.trans rfl rfl
@[simp] theorem mIsi_s (T : String) (x : Str) : mIsi T (.im (.str x)) = (kitB "str" T).map fun k => .im (.bool k) := Eq.trans rfl rfl
@[simp] theorem mIsi_n (T : String) : mIsi T (.im .none) = (kitB "NoneType" T).map fun k => .im (.bool k) := Eq.trans rfl rfl
@[simp] theorem kit_ib : kitB "int" "bool" = some false := by decide +kernel
@[simp] theorem kit_tt : kitB "tuple" "tuple" = some true := by decide +kernel
@[simp] theorem kit_ll : kitB "list" "list" = some true := by decide +kernel
@[simp] theorem kit_lt : kitB "list" "tuple" = some false := by decide +kernel
@[simp] theorem kit_tl : kitB "tuple" "list" = some false := by decide +kernel
@[simp] theorem kit_bb : kitB "bool" "bool" = some true := by decide +kernel
@[simp] theorem kit_bi : kitB "bool" "int" = some true := by decide +kernel
@[simp] theorem kit_ii : kitB "int" "int" = some true := by decide +kernel
@[simp] theorem kit_ss : kitB "str" "str" = some true := by decide +kernel
@[simp] theorem mInt1_b (b : Bool) : mInt1 [Bo b] = some (I (if b = true then 1 else 0)) := Eq.trans rfl rfl
/-! slices -/
@[simp] theorem oPart_def (f : En → Rs Sl) (δ : En) : oPart f δ = (f δ).bind fun s => match s with
  | .im (.int i) => .ok (some i)
  | _ => .bad := rfl
@[simp] theorem oNo_def (δ : En) : oNo δ = .ok none := rfl
@[simp] theorem eSl_def (f : En → Rs Sl) (lo hi : En → Rs (Option Int)) (δ : En) : eSl f lo hi δ = (f δ).bind fun a => (lo δ).bind fun l => (hi δ).bind fun u => ofO (mSl a l u) := rfl
@[simp] theorem mSl_ro (ns : List Int) (lo hi : Option Int) : mSl (.ro ns) lo hi = some (.ml (cutG (ns.map PyData.int) lo hi)) := rfl
@[simp] theorem mSl_list (ds : List D) (lo hi : Option Int) : mSl (.im (.list ds)) lo hi = some (.ml (cutG ds lo hi)) := rfl
@[simp] theorem mSl_ml (ds : List D) (lo hi : Option Int) : mSl (.ml ds) lo hi = some (.ml (cutG ds lo hi)) := rfl
@[simp] theorem mSl_br (ds : List D) (lo hi : Option Int) : mSl (.br ds) lo hi = some (.ml (cutG ds lo hi)) := rfl
@[simp] theorem mSl_tup (ds : List D) (lo hi : Option Int) : mSl (.im (.tuple ds)) lo hi = some (.im (.tuple (cutG ds lo hi))) := rfl
theorem cutG_map {α β : Type} (f : α → β) (xs : List α) (lo hi : Option Int) : cutG (xs.map f) lo hi = (cutG xs lo hi).map f := by
  unfold cutG; rw [List.length_map, ← List.map_drop, ← List.map_take]
theorem cutG_le {α : Type} (xs : List α) (lo hi : Option Int) : (cutG xs lo hi).length ≤ xs.length := by
  unfold cutG; simp only [List.length_take, List.length_drop]; omega
theorem cutG_hi {α : Type} (xs : List α) (n : Nat) : cutG xs none (some (n : Int)) = xs.take n := by
  unfold cutG
  rw [HT.sIx_none, HT.sIx_nat, Nat.sub_zero, List.drop_zero]
  rcases Nat.le_total n xs.length with h | h
  · rw [Nat.min_eq_left h]
  · rw [Nat.min_eq_right h, List.take_of_length_le h, List.take_of_length_le (Nat.le_refl _)]
theorem cutG_lo {α : Type} (xs : List α) (n : Nat) : cutG xs (some (n : Int)) none = xs.drop n := by
  unfold cutG
  rw [HT.sIx_none, HT.sIx_nat]
  rcases Nat.le_total n xs.length with h | h
  · rw [Nat.min_eq_left h, List.take_of_length_le (by rw [List.length_drop]; omega)]
  · rw [Nat.min_eq_right h, List.drop_of_length_le h, List.drop_length]; simp
theorem cutG_both {α : Type} (xs : List α) (m n : Nat) : cutG xs (some (m : Int)) (some (n : Int)) = (xs.drop m).take (n - m) := by
  unfold cutG
  rw [HT.sIx_nat, HT.sIx_nat]
  rcases Nat.le_total m xs.length with h | h
  · rw [Nat.min_eq_left h]
    rcases Nat.le_total n xs.length with h2 | h2
    · rw [Nat.min_eq_left h2]
    · rw [Nat.min_eq_right h2, List.take_of_length_le (by rw [List.length_drop]; omega), List.take_of_length_le (by rw [List.length_drop]; omega)]
  · rw [Nat.min_eq_right h, List.drop_of_length_le h, List.drop_length]; simp
/-! indexes -/
theorem atI_nat {α : Type} (xs : List α) (n : Nat) : atI xs (n : Int) = xs[n]? := by
  unfold atI ixN
  rw [if_pos (by omega)]
  by_cases h : n < xs.length
  · rw [if_pos (by omega), Option.bind_some, Int.toNat_natCast]
  · rw [if_neg (by omega), List.getElem?_eq_none (by omega)]; rfl
theorem atI_pos {α : Type} (xs : List α) {i : Int} (h : 0 ≤ i) : atI xs i = xs[i.toNat]? := by
  have := atI_nat xs i.toNat
  rwa [Int.toNat_of_nonneg h] at this
theorem atI_lit {n : Nat} {ds : List D} {d : D} (h : ds[n]? = some d) : atI ds (n : Int) = some d := by rw [atI_nat, h]
@[simp] theorem atI_zero {α : Type} (x : α) (r : List α) : atI (x :: r) 0 = some x := atI_nat (x :: r) 0
@[simp] theorem atI_one {α : Type} (x y : α) (r : List α) : atI (x :: y :: r) 1 = some y := atI_nat (x :: y :: r) 1
@[simp] theorem atI_two {α : Type} (x y z : α) (r : List α) : atI (x :: y :: z :: r) 2 = some z := atI_nat (x :: y :: z :: r) 2
@[simp] theorem atI_three {α : Type} (x y z u : α) (r : List α) : atI (x :: y :: z :: u :: r) 3 = some u := atI_nat (x :: y :: z :: u :: r) 3
@[simp] theorem atI_four {α : Type} (x y z u v : α) (r : List α) : atI (x :: y :: z :: u :: v :: r) 4 = some v := atI_nat (x :: y :: z :: u :: v :: r) 4
theorem ixN_nat {n k : Nat} (h : k < n) : ixN n (k : Int) = some k := by
  unfold ixN; rw [if_pos (by omega), if_pos (by omega), Int.toNat_natCast]
theorem ixN_pos {n : Nat} {i : Int} (h : 0 ≤ i) (h2 : i < n) : ixN n i = some i.toNat := by
  unfold ixN; rw [if_pos h, if_pos h2]
theorem atI_map {α β : Type} (f : α → β) (xs : List α) (i : Int) : atI (xs.map f) i = (atI xs i).map f := by
  unfold atI; rw [List.length_map]; cases ixN xs.length i with | none => rfl | some j => simp
theorem atI_mod {α : Type} [Inhabited α] (xs : List α) (h : xs ≠ []) (i : Int) : atI xs (i % (xs.length : Int)) = some (xs[(i % (xs.length : Int)).toNat]!) := by
  have hl : 0 < xs.length := List.length_pos_iff.mpr h
  have h1 := Int.emod_nonneg i (by omega : (xs.length : Int) ≠ 0)
  have h2 := Int.emod_lt_of_pos i (by omega : (0 : Int) < xs.length)
  rw [atI_pos _ h1, List.getElem!_eq_getElem?_getD, List.getElem?_eq_getElem (by omega)]; rfl
/-! zip -/
@[simp] theorem zpF_ll (xs ys : List D) : zpF [.im (.list xs), .im (.list ys)] = some (zipD xs ys) := rfl
@[simp] theorem zpF_tt (xs ys : List D) : zpF [.im (.tuple xs), .im (.tuple ys)] = some (zipD xs ys) := rfl
theorem zipD_map {α β : Type} (f : α → D) (g : β → D) (xs : List α) (ys : List β) : zipD (xs.map f) (ys.map g) = (xs.zip ys).map fun ab => .tuple [f ab.1, g ab.2] := by
  unfold zipD
  induction xs generalizing ys with
  | nil => rfl
  | cons x xs ih => cases ys with
    | nil => rfl
    | cons y ys => simp only [List.map_cons, List.zipWith_cons_cons, List.zip_cons_cons, ih]
/-! is, is not, in -/
@[simp] theorem mIs_n (d : D) : mIs' (.im d) (.im .none) = some (Bo (isNone (.im d))) := rfl
@[simp] theorem mIsNot_n (d : D) : mIsNot' (.im d) (.im .none) = some (Bo (!isNone (.im d))) := rfl
@[simp] theorem mIs_b (x y : Bool) : mIs' (Bo x) (Bo y) = some (Bo (decide (x = y))) := rfl
@[simp] theorem mIsNot_b (x y : Bool) : mIsNot' (Bo x) (Bo y) = some (Bo (!decide (x = y))) := rfl
@[simp] theorem isNone_n : isNone (.im .none) = true := rfl
@[simp] theorem isNone_i (i : Int) : isNone (I i) = false := rfl
@[simp] theorem isNone_t (i : List D) : isNone (.im (.tuple i)) = false := rfl
@[simp] theorem isNone_l (i : List D) : isNone (.im (.list i)) = false := rfl
@[simp] theorem isNone_s (i : Str) : isNone (.im (.str i)) = false := rfl
@[simp] theorem mEq_bb (x y : Bool) : mEq (Bo x) (Bo y) = some (Bo (decide (x = y))) := Eq.trans rfl rfl
@[simp] theorem mNe_bb (x y : Bool) : mNe (Bo x) (Bo y) = some (Bo (!decide (x = y))) := Eq.trans rfl rfl
@[simp] theorem mNe_ss (x y : Str) : mNe (.im (.str x)) (.im (.str y)) = some (Bo (!decide (x = y))) := Eq.trans rfl rfl
/-! try -/
section
variable {δ : En}
def tryO (o : Out) (h : Str → En → Option Out) : Out := match o with
  | .er c δ' => (match h c δ' with
    | some o => o
    | none => .er c δ')
  | o => o
@[simp] theorem sTry_def (a : En → Out) (h : Str → En → Option Out) : sTry a h δ = tryO (a δ) h := rfl
@[simp] theorem tryO_nx (h : Str → En → Option Out) : tryO (.nx δ) h = .nx δ := rfl
@[simp] theorem tryO_rt (s : Sl) (h : Str → En → Option Out) : tryO (.rt s) h = .rt s := rfl
def hO (o : Option Out) (c : Str) (δ : En) : Out := match o with
  | some o => o
  | none => .er c δ
@[simp] theorem hO_some (o : Out) (c : Str) : hO (some o) c δ = o := rfl
@[simp] theorem hO_none (c : Str) : hO none c δ = .er c δ := rfl
@[simp] theorem tryO_er (c : Str) (h : Str → En → Option Out) : tryO (.er c δ) h = hO (h c δ) c δ := rfl
@[simp] theorem hAs_def (cs : List Str) (i : Nat) (d : Str) (su : En → Out) (more : Str → En → Option Out) (c : Str) : hAs cs i d su more c δ = if c ∈ cs ∧ i < δ.length then (if isSub c d = true then some (offX i (su (δ.set i (some (.xc c))))) else more c δ) else some .bad := Eq.trans rfl rfl
@[simp] theorem hOnly_def (cs : List Str) (d : Str) (su : En → Out) (more : Str → En → Option Out) (c : Str) : hOnly cs d su more c δ = if c ∈ cs then (if isSub c d = true then some (noEr (su δ)) else more c δ) else some .bad := Eq.trans rfl rfl
@[simp] theorem noEr_rt (s : Sl) : noEr (.rt s) = .rt s := rfl
@[simp] theorem noEr_nx : noEr (.nx δ) = .nx δ := rfl
@[simp] theorem noEr_ct : noEr (.ct δ) = .ct δ := rfl
@[simp] theorem noEr_bk : noEr (.bk δ) = .bk δ := rfl
@[simp] theorem offX_rt (i : Nat) (s : Sl) : offX i (.rt s) = .rt s := rfl
@[simp] theorem offX_nx (i : Nat) : offX i (.nx δ) = .nx (δ.set i none) := rfl
@[simp] theorem hNil_def (c : Str) : hNil c δ = none := rfl
def isEO (cs : List Str) (C : Str) (o : Option (Option Sl)) : Rs Sl := match o with
  | some (some (.xc x)) => if x ∈ cs ∧ C ∈ cs then .ok (.im (.bool (isSub x C))) else .bad
  | _ => .bad
@[simp] theorem eIsE_def (cs : List Str) (i : Nat) (C : Str) : eIsE cs i C δ = isEO cs C δ[i]? := rfl
@[simp] theorem isEO_xc (cs : List Str) (C x : Str) : isEO cs C (some (some (.xc x))) = if x ∈ cs ∧ C ∈ cs then .ok (.im (.bool (isSub x C))) else .bad := Eq.trans rfl rfl
end
theorem isSub_CE (c : Str) : isSub c "CloakError" = true := by unfold isSub; simp
theorem isSub_ne {c d : Str} (h : c ≠ d) (h2 : d ≠ "CloakError") : isSub c d = false := by
  unfold isSub
  rw [Bool.or_eq_false_iff]
  exact ⟨beq_eq_false_iff_ne.mpr h, beq_eq_false_iff_ne.mpr h2⟩
/-! ### guards that omega sees -/
@[simp high] theorem get_zero {α : Type} (a : α) (l : List α) : (a :: l)[0]? = some a := rfl
@[simp high] theorem get_succ {α : Type} (a : α) (l : List α) (n : Nat) : (a :: l)[n + 1]? = l[n]? := rfl
@[simp] theorem rng_length_s (lo : Int) (n : Nat) : (rng lo n).length = n := rng_length lo n
@[simp high] theorem mMod_p {x y : Int} (h : 0 < y) : mMod (.im (.int x)) (.im (.int y)) = some (.im (.int (x % y))) := by rw [mMod_ii, if_pos h]
@[simp high] theorem mMul_l {x y : Int} (h : -1000000000000 < x ∧ x < 1000000000000) : mMul (.im (.int x)) (.im (.int y)) = some (.im (.int (x * y))) := by rw [mMul_ii, if_pos (mulOk_l h)]
@[simp high] theorem mMul_r {x y : Int} (h : -1000000000000 < y ∧ y < 1000000000000) : mMul (.im (.int x)) (.im (.int y)) = some (.im (.int (x * y))) := by rw [mMul_ii, if_pos (mulOk_r h)]
@[simp high] theorem mMulI_l {x y : Int} (h : -1000000000000 < x ∧ x < 1000000000000) : mMulI (.im (.int x)) (.im (.int y)) = some (.im (.int (x * y))) := by rw [mMulI_ii, if_pos (mulOk_l h)]
@[simp high] theorem mMulI_r {x y : Int} (h : -1000000000000 < y ∧ y < 1000000000000) : mMulI (.im (.int x)) (.im (.int y)) = some (.im (.int (x * y))) := by rw [mMulI_ii, if_pos (mulOk_r h)]
theorem fdivOk_of {j : Int} (h : 0 < j ∧ j < 1000000000000) : fdivOk j = true := by
  have h2 : j.natAbs.log2 < 40 := (Nat.log2_lt (by omega)).mpr (by
    have : (2 : Nat) ^ 40 = 1099511627776 := by decide
    omega)
  unfold fdivOk
  rw [decide_eq_true h.1, decide_eq_true (by omega)]; rfl
theorem fdivOkI_of {j : Int} (h : 0 < j ∧ j < 1000000000) : fdivOkI j = true := by
  have : smI 1073741824 j = true := smI_lt.mpr (by omega)
  unfold fdivOkI
  rw [decide_eq_true h.1, this]; rfl
@[simp high] theorem mFdiv_p {x y : Int} (h : 0 < y ∧ y < 1000000000000) : mFdiv (.im (.int x)) (.im (.int y)) = some (.im (.int (x / y))) := by rw [mFdiv_ii, if_pos (fdivOk_of h)]
@[simp high] theorem mFdivI_p {x y : Int} (h : 0 < y ∧ y < 1000000000) : mFdivI (.im (.int x)) (.im (.int y)) = some (.im (.int (x / y))) := by rw [mFdivI_ii, if_pos (fdivOkI_of h)]
@[simp high] theorem rg1_p {j : Int} (h : -1000000000000 < j ∧ j < 1000000000000) : rg1 [.im (.int j)] = some (rng 0 j.toNat) := by rw [rg1_i, if_pos (rgOk_of (by decide) (by decide) h.1 h.2)]
@[simp high] theorem rg2_p {i j : Int} (h : (-1000000000000 < i ∧ i < 1000000000000) ∧ (-1000000000000 < j ∧ j < 1000000000000)) : rg2 [.im (.int i), .im (.int j)] = some (rng i (j - i).toNat) := by rw [rg2_i, if_pos (rgOk_of h.1.1 h.1.2 h.2.1 h.2.2)]
@[simp] theorem mOrd_one (c : Nat) : mOrd [.im (.str ⟨#[c]⟩)] = some (I (c : Nat)) := Eq.trans rfl rfl
/-! ### loops that run through -/
abbrev Nx (o : Out) (N : En → Prop) : Prop := Stp o N (fun _ => False)
section
variable {t : Tg} {b : En → Out}
theorem forL_inv {α : Type} (emb : α → D) (xs : List α) (J : Nat → En → Prop)
    (step : ∀ (i : Nat) (x : α) (δ : En), xs[i]? = some x → J i δ → ∃ δ1, t (.im (emb x)) δ = some δ1 ∧ Nx (b δ1) (J (i + 1))) {δ : En} (h0 : J 0 δ) :
    ∃ δ', forL t b (xs.map emb) δ = .nx δ' ∧ J xs.length δ' := by
  refine forL_rule (ds := xs.map emb) (I := J) (Q := fun L => ∃ δ', L = .nx δ' ∧ J xs.length δ') ?_ ?_ h0
  · intro i d δ hd hJ
    rw [List.getElem?_map] at hd
    cases hx : xs[i]? with
    | none => rw [hx] at hd; cases hd
    | some x =>
      rw [hx] at hd
      cases hd
      obtain ⟨δ1, h1, h2⟩ := step i x δ hx hJ
      refine ⟨δ1, h1, ?_⟩
      cases e : b δ1 <;> rw [e] at h2 <;> simp at h2 ⊢ <;> assumption
  · intro δ hJ
    rw [List.length_map] at hJ
    exact ⟨δ, rfl, hJ⟩
theorem forL_rng {lo : Int} {n : Nat} (J : Nat → En → Prop)
    (step : ∀ (i : Nat) (δ : En), i < n → J i δ → ∃ δ1, t (I (lo + (i : Nat))) δ = some δ1 ∧ Nx (b δ1) (J (i + 1))) {δ : En} (h0 : J 0 δ) :
    ∃ δ', forL t b (rng lo n) δ = .nx δ' ∧ J n δ' := by
  have := forL_inv (t := t) (b := b) (fun k : Nat => PyData.int (lo + (k : Nat))) (List.range n) J (fun i x δ hx hJ => by
    obtain ⟨hi, e⟩ := List.getElem?_eq_some_iff.mp hx
    simp at hi e
    subst e
    exact step i δ hi hJ) h0
  rwa [List.length_range] at this
/-- by a state -/
theorem forL_fold {α σ : Type} (emb : α → D) (f : σ → α → σ) (st : σ → En → Prop) (xs : List α) (s : σ) {δ : En}
    (hs : ∀ (s : σ) (x : α) (δ : En), x ∈ xs → st s δ → ∃ δ1, t (.im (emb x)) δ = some δ1 ∧ Nx (b δ1) (st (f s x))) (h0 : st s δ) : ∃ δ', forL t b (xs.map emb) δ = .nx δ' ∧ st (xs.foldl f s) δ' := by
  induction xs generalizing s δ with
  | nil => exact ⟨δ, rfl, h0⟩
  | cons x xs ih =>
    obtain ⟨δ1, h1, h2⟩ := hs s x δ (.head _) h0
    rw [List.map_cons, forL_cons, h1, forS_some]
    cases e : b δ1 <;> rw [e] at h2 <;> simp at h2
    · exact ih (f s x) (fun s x δ hx => hs s x δ (.tail _ hx)) h2
    · exact ih (f s x) (fun s x δ hx => hs s x δ (.tail _ hx)) h2
end
/-! ### lists that are compared -/
@[simp high] theorem mNe_lm {xs ys : List D} (h : xs.all (dt 59) = true ∧ ys.all (dt 59) = true) : mNe (.im (.list xs)) (.ml ys) = some (Bo (!eqP (.list xs) (.list ys))) := mNe_ll rfl rfl h.1 h.2
@[simp high] theorem mNe_li {xs ys : List D} (h : xs.all (dt 59) = true ∧ ys.all (dt 59) = true) : mNe (.im (.list xs)) (.im (.list ys)) = some (Bo (!eqP (.list xs) (.list ys))) := mNe_ll rfl rfl h.1 h.2
@[simp high] theorem mNe_mi {xs ys : List D} (h : xs.all (dt 59) = true ∧ ys.all (dt 59) = true) : mNe (.ml xs) (.im (.list ys)) = some (Bo (!eqP (.list xs) (.list ys))) := mNe_ll rfl rfl h.1 h.2
@[simp high] theorem mNe_mm {xs ys : List D} (h : xs.all (dt 59) = true ∧ ys.all (dt 59) = true) : mNe (.ml xs) (.ml ys) = some (Bo (!eqP (.list xs) (.list ys))) := mNe_ll rfl rfl h.1 h.2
@[simp high] theorem mNe_bm {xs ys : List D} (h : xs.all (dt 59) = true ∧ ys.all (dt 59) = true) : mNe (.br xs) (.ml ys) = some (Bo (!eqP (.list xs) (.list ys))) := mNe_ll rfl rfl h.1 h.2
@[simp high] theorem mNe_tp {xs ys : List D} (h : xs.all (dt 59) = true ∧ ys.all (dt 59) = true) : mNe (.im (.tuple xs)) (.im (.tuple ys)) = some (Bo (!eqP (.tuple xs) (.tuple ys))) := mNe_dat rfl rfl h.1 h.2 rfl
@[simp high] theorem mEq_lm {xs ys : List D} (h : xs.all (dt 59) = true ∧ ys.all (dt 59) = true) : mEq (.im (.list xs)) (.ml ys) = some (Bo (eqP (.list xs) (.list ys))) := mEq_ll rfl rfl h.1 h.2
@[simp high] theorem mEq_li {xs ys : List D} (h : xs.all (dt 59) = true ∧ ys.all (dt 59) = true) : mEq (.im (.list xs)) (.im (.list ys)) = some (Bo (eqP (.list xs) (.list ys))) := mEq_ll rfl rfl h.1 h.2
@[simp high] theorem mEq_mi {xs ys : List D} (h : xs.all (dt 59) = true ∧ ys.all (dt 59) = true) : mEq (.ml xs) (.im (.list ys)) = some (Bo (eqP (.list xs) (.list ys))) := mEq_ll rfl rfl h.1 h.2
@[simp high] theorem mEq_mm {xs ys : List D} (h : xs.all (dt 59) = true ∧ ys.all (dt 59) = true) : mEq (.ml xs) (.ml ys) = some (Bo (eqP (.list xs) (.list ys))) := mEq_ll rfl rfl h.1 h.2
@[simp high] theorem mEq_bm {xs ys : List D} (h : xs.all (dt 59) = true ∧ ys.all (dt 59) = true) : mEq (.br xs) (.ml ys) = some (Bo (eqP (.list xs) (.list ys))) := mEq_ll rfl rfl h.1 h.2
@[simp high] theorem mEq_tp {xs ys : List D} (h : xs.all (dt 59) = true ∧ ys.all (dt 59) = true) : mEq (.im (.tuple xs)) (.im (.tuple ys)) = some (Bo (eqP (.tuple xs) (.tuple ys))) := mEq_dat rfl rfl h.1 h.2 rfl
theorem atI_ints {xs : List Int} {i : Int} (h : 0 ≤ i ∧ i < xs.length) : atI (xs.map PyData.int) i = some (.int (xs[i.toNat]!)) := by
  rw [atI_pos _ h.1, List.getElem?_map, List.getElem!_eq_getElem?_getD, List.getElem?_eq_getElem (by omega)]; rfl
theorem get_mem {xs : List Int} {i : Int} (h : 0 ≤ i ∧ i < xs.length) : xs[i.toNat]! ∈ xs := by
  rw [List.getElem!_eq_getElem?_getD, List.getElem?_eq_getElem (by omega)]; exact List.getElem_mem _
/-! ### short comprehensions, unrolled -/
section
variable {δ : En} {t : Tg} {c : En → Rs Bool} {f : En → Rs Sl}
def compU (r : Rs Sl) (k : Rs (List D)) : Rs (List D) := match r with
  | .ok (.im y) => k.bind fun ys => .ok (y :: ys)
  | _ => .bad
def compT (b : Rs Bool) (r : Rs Sl) (k : Rs (List D)) : Rs (List D) := match b with
  | .ok b => if b = true then compU r k else k
  | _ => .bad
def compS (o : Option En) (c : En → Rs Bool) (f : En → Rs Sl) (k : Rs (List D)) : Rs (List D) := match o with
  | none => .bad
  | some δ1 => compT (c δ1) (f δ1) k
@[simp] theorem compL_nil : compL t c f δ [] = .ok [] := rfl
theorem compL_cons (d : D) (r : List D) : compL t c f δ (d :: r) = compS (t (.im d) δ) c f (compL t c f δ r) := by
  show (match t (.im d) δ with | none => _ | some δ1 => _) = _
  cases t (.im d) δ with
  | none => rfl
  | some δ1 =>
    show (match c δ1 with | .ok true => _ | .ok false => _ | _ => _) = compT (c δ1) (f δ1) _
    cases c δ1 with
    | ok b => cases b with
      | true => show (match f δ1 with | .ok (.im y) => _ | _ => _) = compU (f δ1) _; cases f δ1 with
        | ok s => cases s <;> rfl
        | er _ => rfl
        | bad => rfl
      | false => rfl
    | er _ => rfl
    | bad => rfl
@[simp] theorem compS_some (k : Rs (List D)) : compS (some δ) c f k = compT (c δ) (f δ) k := rfl
@[simp] theorem compT_ok (b : Bool) (r : Rs Sl) (k : Rs (List D)) : compT (.ok b) r k = if b = true then compU r k else k := rfl
@[simp] theorem compU_im (y : D) (k : Rs (List D)) : compU (.ok (.im y)) k = k.bind fun ys => .ok (y :: ys) := rfl
theorem rng5 (lo : Int) : rng lo 5 = [.int (lo + (0 : Nat)), .int (lo + (1 : Nat)), .int (lo + (2 : Nat)), .int (lo + (3 : Nat)), .int (lo + (4 : Nat))] := rfl
end
/-! ### more lists -/
@[simp] theorem boolsOf_mapf {α : Type} (p : α → Bool) (xs : List α) : boolsOf (xs.map fun x => PyData.bool (p x)) = some (xs.map p) := by
  have := boolsOf_map (xs.map p)
  rwa [List.map_map] at this
@[simp] theorem intsOf_mapf {α : Type} (p : α → Int) (xs : List α) : intsOf (xs.map fun x => PyData.int (p x)) = some (xs.map p) := by
  have := intsOf_map (xs.map p)
  rwa [List.map_map] at this
theorem cutG_lo' {α : Type} (xs : List α) {n : Int} (h : 0 ≤ n) : cutG xs (some n) none = xs.drop n.toNat := by
  have := cutG_lo xs n.toNat
  rwa [Int.toNat_of_nonneg h] at this
theorem cutG_hi' {α : Type} (xs : List α) {n : Int} (h : 0 ≤ n) : cutG xs none (some n) = xs.take n.toNat := by
  have := cutG_hi xs n.toNat
  rwa [Int.toNat_of_nonneg h] at this
theorem cutG_both' {α : Type} (xs : List α) {m n : Int} (h : 0 ≤ m) (h2 : 0 ≤ n) : cutG xs (some m) (some n) = (xs.drop m.toNat).take (n.toNat - m.toNat) := by
  have := cutG_both xs m.toNat n.toNat
  rwa [Int.toNat_of_nonneg h, Int.toNat_of_nonneg h2] at this
theorem get_of {xs : List Int} {k : Nat} (h : k < xs.length) : xs[k]! ∈ xs := by
  rw [List.getElem!_eq_getElem?_getD, List.getElem?_eq_getElem h]; exact List.getElem_mem _
def nth (xs : List Int) (i : Int) : Int := xs[i.toNat]?.getD 0
theorem nth_mem {xs : List Int} {i : Int} (h : 0 ≤ i ∧ i < xs.length) : nth xs i ∈ xs := by
  unfold nth
  rw [List.getElem?_eq_getElem (by omega)]; exact List.getElem_mem _
theorem atI_nth {xs : List Int} {i : Int} (h : 0 ≤ i ∧ i < xs.length) : atI (xs.map PyData.int) i = some (.int (nth xs i)) := by
  unfold nth
  rw [atI_pos _ h.1, List.getElem?_map, List.getElem?_eq_getElem (by omega)]; rfl
theorem mod_range {xs : List Int} (h : xs ≠ []) (i : Int) : 0 ≤ i % (xs.length : Int) ∧ i % (xs.length : Int) < xs.length := by
  have hl : 0 < xs.length := List.length_pos_iff.mpr h
  exact ⟨Int.emod_nonneg _ (by omega), Int.emod_lt_of_pos _ (by omega)⟩
@[simp high] theorem mAdd_tp {xs ys : List D} (h : xs.length + ys.length ≤ 16777216) : mAdd (.im (.tuple xs)) (.im (.tuple ys)) = some (.im (.tuple (xs ++ ys))) := by
  show (if xs.length + ys.length ≤ 16777216 then _ else _) = _; rw [if_pos h]
@[simp high] theorem mAdd_st {x y : Str} (h : x.length + y.length ≤ 16777216) : mAdd (.im (.str x)) (.im (.str y)) = some (.im (.str (x ++ y))) := by
  show (if x.length + y.length ≤ 16777216 then _ else _) = _; rw [if_pos h]
theorem set_cutI {xs : List Int} {k : Nat} {y : Int} (h : k < xs.length) : (xs.map PyData.int).take k ++ (.int y :: (xs.map PyData.int).drop (k + 1)) = (xs.set k y).map PyData.int := by
  rw [List.map_set, List.set_eq_take_append_cons_drop, if_pos (by simpa using h)]
@[simp] theorem cut_lo0 {α : Type} (xs : List α) (n : Nat) : cutG xs (some (n : Int)) none = xs.drop n := cutG_lo xs n
@[simp] theorem cut_lo1 {α : Type} (xs : List α) (n : Nat) : cutG xs (some ((n : Int) + 1)) none = xs.drop (n + 1) := cutG_lo xs (n + 1)
@[simp] theorem cut_hi0 {α : Type} (xs : List α) (n : Nat) : cutG xs none (some (n : Int)) = xs.take n := cutG_hi xs n
theorem cut_loN {α : Type} (xs : List α) (n : Nat) : cutG xs (some (@OfNat.ofNat Int n _)) none = xs.drop (@OfNat.ofNat Nat n _) := cutG_lo xs n
theorem cut_hiN {α : Type} (xs : List α) (n : Nat) : cutG xs none (some (@OfNat.ofNat Int n _)) = xs.take (@OfNat.ofNat Nat n _) := cutG_hi xs n
theorem cut_one {α : Type} (xs : List α) : cutG xs (some (1 : Int)) none = xs.drop 1 := cutG_lo xs 1
theorem cut_hone {α : Type} (xs : List α) : cutG xs none (some (1 : Int)) = xs.take 1 := cutG_hi xs 1
/-! ### newer parts of the data layer -/
section
variable {δ : En} {i : Nat}
def exA (o : Option (Option Sl)) (r : Rs Sl) (i : Nat) (δ : En) : Out := match o with
  | some (some (.ml ds)) => (match r with
    | .ok s => (match seqM s with
      | some es => if ds.length + es.length ≤ 16777216 then .nx (δ.set i (some (.ml (ds ++ es)))) else .bad
      | none => .bad)
    | .er x => .er x δ
    | .bad => .bad)
  | _ => .bad
@[simp] theorem sExtA_def (f : En → Rs Sl) : sExtA i f δ = exA δ[i]? (f δ) i δ := rfl
@[simp] theorem exA_ok (ds : List D) (s : Sl) : exA (some (some (.ml ds))) (.ok s) i δ = extX (seqM s) ds i δ := rfl
@[simp] theorem seqM_tup (ds : List D) : seqM (.im (.tuple ds)) = some ds := rfl
@[simp] theorem seqM_list (ds : List D) : seqM (.im (.list ds)) = some ds := rfl
@[simp] theorem seqM_ml (ds : List D) : seqM (.ml ds) = some ds := rfl
@[simp] theorem seqM_br (ds : List D) : seqM (.br ds) = some ds := rfl
@[simp] theorem mMulT_ti (xs : List D) (k : Int) : mMulT (.im (.tuple xs)) (.im (.int k)) = if xs ≠ [] ∧ 2 ≤ k ∧ k ≤ 1000 ∧ xs.length ≤ 1000 then some (.im (.tuple (List.replicate k.toNat xs).flatten)) else none := Eq.trans rfl rfl
@[simp] theorem mMulA_t (xs : List D) (b : Sl) : mMulA (.im (.tuple xs)) b = mMulT (.im (.tuple xs)) b := rfl
@[simp] theorem mMulA_l (xs : List D) (b : Sl) : mMulA (.im (.list xs)) b = mMul (.im (.list xs)) b := rfl
@[simp] theorem mMulA_m (xs : List D) (b : Sl) : mMulA (.ml xs) b = mMul (.ml xs) b := rfl
def isET (cs : List Str) (A B : Str) (o : Option (Option Sl)) : Rs Sl := match o with
  | some (some (.xc x)) => if x ∈ cs ∧ A ∈ cs ∧ B ∈ cs then .ok (.im (.bool (isSub x A || isSub x B))) else .bad
  | _ => .bad
theorem eIsET_def (cs : List Str) (A B : Str) : eIsET cs i A B δ = isET cs A B δ[i]? := rfl
theorem isET_xc (cs : List Str) (A B x : Str) : isET cs A B (some (some (.xc x))) = if x ∈ cs ∧ A ∈ cs ∧ B ∈ cs then .ok (.im (.bool (isSub x A || isSub x B))) else .bad := Eq.trans rfl rfl
def isVO (cs : List Str) (o : Option (Option Sl)) : Rs Sl := match o with
  | some (some (.xc x)) => if x ∈ cs then .ok (.im (.bool true)) else .bad
  | _ => .bad
@[simp] theorem eIsV_def (cs : List Str) : eIsV cs i δ = isVO cs δ[i]? := rfl
@[simp] theorem isVO_xc (cs : List Str) (x : Str) : isVO cs (some (some (.xc x))) = if x ∈ cs then .ok (.im (.bool true)) else .bad := Eq.trans rfl rfl
@[simp] theorem enS_t (ds : List D) : enS [.im (.tuple ds)] = some (enumD 0 ds) := rfl
@[simp] theorem enS_l (ds : List D) : enS [.im (.list ds)] = some (enumD 0 ds) := rfl
theorem enumD_map {α : Type} (emb : α → D) (k : Nat) (xs : List α) : enumD k (xs.map emb) = (xs.zipIdx k).map fun p => .tuple [.int (p.2 : Nat), emb p.1] := by
  induction xs generalizing k with
  | nil => rfl
  | cons x xs ih =>
    show .tuple [.int (k : Nat), emb x] :: enumD (k + 1) (xs.map emb) = _
    rw [ih, List.zipIdx_cons]; rfl
@[simp] theorem iRev_def (f : En → Rs Sl) : iRev f δ = (f δ).bind fun s => ofD ((sqF s).map List.reverse) .ok := rfl
@[simp] theorem sqF_t (ds : List D) : sqF (.im (.tuple ds)) = some ds := rfl
@[simp] theorem sqF_l (ds : List D) : sqF (.im (.list ds)) = some ds := rfl
def rgE (a b : Sl) : Rs Sl := match a, b with
  | .im (.int i), .im (.int j) => if rgOk i j = true ∧ (j - i).toNat ≤ 16777216 then .ok (.ml (rng i (j - i).toNat)) else .bad
  | _, _ => .bad
@[simp] theorem eRg_def (f g : En → Rs Sl) : eRg f g δ = (f δ).bind fun a => (g δ).bind fun b => rgE a b := rfl
@[simp] theorem rgE_ii {i j : Int} (h : (-1000000000000 < i ∧ i < 1000000000000) ∧ (-1000000000000 < j ∧ j < 1000000000000) ∧ (j - i).toNat ≤ 16777216) : rgE (.im (.int i)) (.im (.int j)) = .ok (.ml (rng i (j - i).toNat)) := by
  show (if rgOk i j = true ∧ _ then _ else _) = _
  rw [if_pos ⟨rgOk_of h.1.1 h.1.2 h.2.1.1 h.2.1.2, h.2.2⟩]
@[simp] theorem mMax1_ml (ds : List D) : mMax1 [.ml ds] = (intsOf ds).bind fun ns => if ns ≠ [] then some (.im (.int (maxL ns))) else none := rfl
@[simp] theorem mMin1_ml (ds : List D) : mMin1 [.ml ds] = (intsOf ds).bind fun ns => if ns ≠ [] then some (.im (.int (minL ns))) else none := rfl
@[simp] theorem mMax1_im (ds : List D) : mMax1 [.im (.list ds)] = (intsOf ds).bind fun ns => if ns ≠ [] then some (.im (.int (maxL ns))) else none := rfl
@[simp] theorem mMin1_im (ds : List D) : mMin1 [.im (.list ds)] = (intsOf ds).bind fun ns => if ns ≠ [] then some (.im (.int (minL ns))) else none := rfl
def joinE (a : Sl) (b : Rs Sl) : Rs Sl := match a with
  | .im (.str x) => b.bind fun b => ofO (mJ x b)
  | _ => .bad
@[simp] theorem eJoin_def (f g : En → Rs Sl) : eJoin f g δ = (f δ).bind fun a => joinE a (g δ) := by
  unfold eJoin joinE; rfl
@[simp] theorem joinE_s (x : Str) (b : Rs Sl) : joinE (.im (.str x)) b = b.bind fun b => ofO (mJ x b) := rfl
def jo (x : Str) (o : Option (List Str)) : Option Sl := o.bind fun ys => if joinOk x ys = true then some (.im (.str (Txt.join x ys))) else none
@[simp] theorem mJ_ml (x : Str) (ds : List D) : mJ x (.ml ds) = jo x (strsOf ds) := rfl
@[simp] theorem mJ_br (x : Str) (ds : List D) : mJ x (.br ds) = jo x (strsOf ds) := rfl
@[simp] theorem mJ_li (x : Str) (ds : List D) : mJ x (.im (.list ds)) = jo x (strsOf ds) := rfl
@[simp] theorem jo_some (x : Str) (ys : List Str) : jo x (some ys) = if joinOk x ys = true then some (.im (.str (Txt.join x ys))) else none := rfl
@[simp] theorem strsOf_nil : strsOf [] = some [] := rfl
@[simp] theorem strsOf_cons (x : Str) (r : List D) : strsOf (.str x :: r) = (strsOf r).map (x :: ·) := rfl
@[simp] theorem strsOf_m (xs : List Str) : strsOf (xs.map PyData.str) = some xs := by
  induction xs with
  | nil => rfl
  | cons x xs ih => show (strsOf (xs.map PyData.str)).map (x :: ·) = _; rw [ih]; rfl
@[simp] theorem strsOf_mapf {α : Type} (p : α → Str) (xs : List α) : strsOf (xs.map fun x => PyData.str (p x)) = some (xs.map p) := by
  have := strsOf_m (xs.map p)
  rwa [List.map_map] at this
end
theorem atI_some {ds : List D} {i : Int} (h : 0 ≤ i ∧ i < ds.length) : ∃ d ∈ ds, atI ds i = some d := by
  rw [atI_pos _ h.1, List.getElem?_eq_getElem (by omega)]
  exact ⟨_, List.getElem_mem _, rfl⟩
@[simp high] theorem mAdd_li_li {xs ys : List D} (h : xs.length + ys.length ≤ 16777216) : mAdd (.im (.list xs)) (.im (.list ys)) = some (.ml (xs ++ ys)) := by
  show (if xs.length + ys.length ≤ 16777216 then _ else _) = _; rw [if_pos h]
@[simp high] theorem mAdd_li_m {xs ys : List D} (h : xs.length + ys.length ≤ 16777216) : mAdd (.im (.list xs)) (.ml ys) = some (.ml (xs ++ ys)) := by
  show (if xs.length + ys.length ≤ 16777216 then _ else _) = _; rw [if_pos h]
@[simp high] theorem mAdd_li_b {xs ys : List D} (h : xs.length + ys.length ≤ 16777216) : mAdd (.im (.list xs)) (.br ys) = some (.ml (xs ++ ys)) := by
  show (if xs.length + ys.length ≤ 16777216 then _ else _) = _; rw [if_pos h]
@[simp high] theorem mAdd_m_li {xs ys : List D} (h : xs.length + ys.length ≤ 16777216) : mAdd (.ml xs) (.im (.list ys)) = some (.ml (xs ++ ys)) := by
  show (if xs.length + ys.length ≤ 16777216 then _ else _) = _; rw [if_pos h]
@[simp high] theorem mAdd_m_m {xs ys : List D} (h : xs.length + ys.length ≤ 16777216) : mAdd (.ml xs) (.ml ys) = some (.ml (xs ++ ys)) := by
  show (if xs.length + ys.length ≤ 16777216 then _ else _) = _; rw [if_pos h]
@[simp high] theorem mAdd_m_b {xs ys : List D} (h : xs.length + ys.length ≤ 16777216) : mAdd (.ml xs) (.br ys) = some (.ml (xs ++ ys)) := by
  show (if xs.length + ys.length ≤ 16777216 then _ else _) = _; rw [if_pos h]
@[simp high] theorem mAdd_b_li {xs ys : List D} (h : xs.length + ys.length ≤ 16777216) : mAdd (.br xs) (.im (.list ys)) = some (.ml (xs ++ ys)) := by
  show (if xs.length + ys.length ≤ 16777216 then _ else _) = _; rw [if_pos h]
@[simp high] theorem mAdd_b_m {xs ys : List D} (h : xs.length + ys.length ≤ 16777216) : mAdd (.br xs) (.ml ys) = some (.ml (xs ++ ys)) := by
  show (if xs.length + ys.length ≤ 16777216 then _ else _) = _; rw [if_pos h]
@[simp high] theorem mAdd_b_b {xs ys : List D} (h : xs.length + ys.length ≤ 16777216) : mAdd (.br xs) (.br ys) = some (.ml (xs ++ ys)) := by
  show (if xs.length + ys.length ≤ 16777216 then _ else _) = _; rw [if_pos h]
@[simp] theorem strsOf_mapc {α : Type} (p : α → Str) (xs : List α) : strsOf (xs.map (PyData.str ∘ p)) = some (xs.map p) := strsOf_mapf p xs
@[simp] theorem intsOf_mapc {α : Type} (p : α → Int) (xs : List α) : intsOf (xs.map (PyData.int ∘ p)) = some (xs.map p) := intsOf_mapf p xs
@[simp] theorem boolsOf_mapc {α : Type} (p : α → Bool) (xs : List α) : boolsOf (xs.map (PyData.bool ∘ p)) = some (xs.map p) := boolsOf_mapf p xs
@[simp] theorem mSumA_ml (ds : List D) : mSumA [.ml ds] = mSum [.ml ds] := rfl
@[simp] theorem mSumA_br (ds : List D) : mSumA [.br ds] = mSum [.br ds] := rfl
@[simp] theorem mSumA_li (ds : List D) : mSumA [.im (.list ds)] = mSum [.im (.list ds)] := rfl
@[simp] theorem mSumA_t (ds : List D) : mSumA [.im (.tuple ds)] = (intsOf ds).map fun ns => .im (.int ns.sum) := rfl
@[simp] theorem mLenSet_ml (xs : List Int) : mLenSet (.ml (xs.map PyData.int)) = if xs.length ≤ 4000 then some (I ((ddN xs).length : Nat)) else none := by
  show ((lstOf (.ml (xs.map PyData.int))).bind _) = _; simp
@[simp] theorem mLenSet_br (xs : List Int) : mLenSet (.br (xs.map PyData.int)) = if xs.length ≤ 4000 then some (I ((ddN xs).length : Nat)) else none := by
  show ((lstOf (.br (xs.map PyData.int))).bind _) = _; simp
@[simp] theorem mLenSet_li (xs : List Int) : mLenSet (.im (Li xs)) = if xs.length ≤ 4000 then some (I ((ddN xs).length : Nat)) else none := by
  show ((lstOf (.im (.list (xs.map PyData.int)))).bind _) = _; simp
section
variable {δ : En} {i j : Nat}
def popO (r : Rs (D × List D)) (i j : Nat) (δ : En) : Out := match r with
  | .ok (d, ds) => .nx ((δ.set j (some (.ml ds))).set i (some (.im d)))
  | .er x => .er x δ
  | .bad => .bad
theorem sPop_def (g : En → Rs Sl) : sPop i j g δ = popO (popG δ[j]? (g δ)) i j δ := rfl
@[simp] theorem popO_ok (d : D) (ds : List D) : popO (.ok (d, ds)) i j δ = .nx ((δ.set j (some (.ml ds))).set i (some (.im d))) := rfl
def appPopO (o : Option (Option Sl)) (r : Rs (D × List D)) (i j : Nat) (δ : En) : Out := match o with
  | some (some (.ml as)) => (match r with
    | .ok (d, ds) => if as.length < 16777216 ∧ i ≠ j then .nx ((δ.set j (some (.ml ds))).set i (some (.ml (as ++ [d])))) else .bad
    | .er x => .er x δ
    | .bad => .bad)
  | _ => .bad
theorem sAppPop_def (g : En → Rs Sl) : sAppPop i j g δ = appPopO δ[i]? (popG δ[j]? (g δ)) i j δ := rfl
@[simp] theorem appPopO_ok (as : List D) (d : D) (ds : List D) : appPopO (some (some (.ml as))) (.ok (d, ds)) i j δ = if as.length < 16777216 ∧ i ≠ j then .nx ((δ.set j (some (.ml ds))).set i (some (.ml (as ++ [d])))) else .bad := Eq.trans rfl rfl
theorem popG_at {ds : List D} {k : Nat} {d : D} (h : ds[k]? = some d) (hk : k < 1000000000) : popG (some (some (.ml ds))) (.ok (I (k : Nat))) = .ok (d, ds.eraseIdx k) := by
  have hl : k < ds.length := (List.getElem?_eq_some_iff.mp h).1
  have e : ixN ds.length (k : Int) = some k := by
    unfold ixN
    rw [if_pos (by omega), if_pos (by omega), Int.toNat_natCast]
  have e2 : smI 4611686018427387904 (k : Int) = true := smI_lt.mpr (by omega)
  show (match ixN ds.length (k : Int) with | some m => _ | none => _) = _
  rw [e]
  show (match ds[k]? with | some d => _ | none => _) = _
  rw [h]
  show (if smI 4611686018427387904 (k : Int) = true then _ else _) = _
  rw [if_pos e2]
end
theorem mSortedA_li {s : Sl} {xs : List Int} (h : lstOf s = some (xs.map PyData.int)) : mSortedA [s] = some (.ml ((sortI xs).map PyData.int)) := by
  show (lstOf s).bind _ = _
  rw [h]
  simp
theorem mSortedA_tri {s : Sl} {ts : List Tri} (h : lstOf s = some (ts.map triD)) (hc : ts.all rg3 = true ∧ (ts.map (·.1)).Nodup ∧ ts.length < 64) : mSortedA [s] = some (.ml ((sort3 ts).map triD)) := by
  unfold mSortedA
  dsimp only
  rw [h]
  simp only [Option.bind_some]
  cases ts with
  | nil => rfl
  | cons t ts =>
    rw [show intsOf ((t :: ts).map triD) = none from rfl]
    dsimp only
    rw [trisOf_map]
    simp only [Option.bind_some]
    rw [if_pos hc]
/-- what a passing list gives back -/
def tmpR : Rs Sl → Rs Sl
  | .ok (.im d) => if flatD d = true then .ok (.im d) else .bad
  | .er c => .er c
  | _ => .bad
@[simp] theorem eTmp_def (i : Nat) (f : En → Rs Sl) (δ : En) : eTmp i f δ = tmpR (f (fzS i δ)) := by unfold eTmp tmpR; rfl
@[simp] theorem tmpR_int (i : Int) : tmpR (.ok (I i)) = .ok (I i) := Eq.trans rfl rfl
@[simp] theorem tmpR_str (i : Str) : tmpR (.ok (.im (.str i))) = .ok (.im (.str i)) := Eq.trans rfl rfl
@[simp] theorem tmpR_bool (i : Bool) : tmpR (.ok (Bo i)) = .ok (Bo i) := Eq.trans rfl rfl
@[simp] theorem tmpR_none : tmpR (.ok (.im .none)) = .ok (.im .none) := Eq.trans rfl rfl
@[simp] theorem tmpR_er (c : Str) : tmpR (.er c) = .er c := Eq.trans rfl rfl
end DM

namespace DM
open PySem PySem.Spec PyProof.Rows L2 DL
/-! ### orders, elements, powers: no program here -/
def Od (q : Int) : Prop := 11 ≤ q ∧ q ≤ 1013 ∧ Pr q ∧ Pr (2 * q + 1)
def El (q v : Int) : Prop := 0 < v ∧ v < 2 * q + 1 ∧ v ^ q.toNat % (2 * q + 1) = 1
instance (q v : Int) : Decidable (El q v) := by unfold El; infer_instance
theorem mul_mod_l (a b p : Int) : a % p * b % p = a * b % p := by rw [Int.mul_emod, Int.emod_emod_of_dvd _ (Int.dvd_refl p), ← Int.mul_emod]
theorem mul_mod_r (a b p : Int) : a * (b % p) % p = a * b % p := by rw [Int.mul_emod, Int.emod_emod_of_dvd _ (Int.dvd_refl p), ← Int.mul_emod]
theorem mod_mod (a p : Int) : a % p % p = a % p := Int.emod_emod_of_dvd _ (Int.dvd_refl p)
theorem sq_pow (s : Int) (k : Nat) : s ^ (2 * k) = (s * s) ^ k := by
  induction k with
  | zero => rw [Nat.mul_zero, Int.pow_zero, Int.pow_zero]
  | succ k ih => rw [Nat.mul_succ, Int.pow_add, ih, Int.pow_succ (s * s)]; congr 1; rw [Int.pow_succ, Int.pow_succ, Int.pow_zero, Int.one_mul]
theorem mul_powI (a b : Int) (n : Nat) : (a * b) ^ n = a ^ n * b ^ n := by
  induction n with
  | zero => simp
  | succ n ih => rw [Int.pow_succ, Int.pow_succ, Int.pow_succ, ih, Int.mul_assoc, Int.mul_assoc, Int.mul_left_comm (b ^ n)]
theorem Od.qN {q : Int} (hq : Od q) : PrN q.toNat := hq.2.2.1.nat
theorem Od.odd {q : Int} (hq : Od q) : q % 2 = 1 := by
  have := hq.2.2.1.2 2 (by decide) (by have := hq.1; omega)
  omega
/-- the numbers up to j have been tried -/
theorem pr_of_tried {n : Int} (h2 : 2 ≤ n) {k : Int} (hk : ∀ d, 2 ≤ d → d < k → n % d ≠ 0) (hkk : k * k > n) (hk0 : 0 < k) : Pr n := by
  refine ⟨by omega, fun d h1 h3 h4 => ?_⟩
  obtain ⟨c, hc⟩ := Int.dvd_of_emod_eq_zero h4
  have hcn : n % c = 0 := by rw [hc]; exact Int.mul_emod_left _ _
  have hc0 : 0 < c := by
    rcases Int.lt_or_le 0 c with h | h
    · exact h
    · exfalso
      have : d * c ≤ d * 0 := Int.mul_le_mul_of_nonneg_left h (by omega)
      omega
  have hc1 : 2 ≤ c := by
    rcases Int.lt_or_le c 2 with h | h
    · have : c = 1 := by omega
      rw [this] at hc; omega
    · exact h
  have a1 : k ≤ d := by
    rcases Int.lt_or_le d k with h | h
    · exact absurd h4 (hk d (by omega) h)
    · exact h
  have a2 : k ≤ c := by
    rcases Int.lt_or_le c k with h | h
    · exact absurd hcn (hk c hc1 h)
    · exact h
  have : k * k ≤ d * c := Int.mul_le_mul a1 a2 (by omega) (by omega)
  omega
theorem ord11 : Od 11 := by
  refine ⟨by decide, by decide, pr_of_tried (k := 4) (by decide) ?_ (by decide) (by decide), pr_of_tried (k := 5) (by decide) ?_ (by decide) (by decide)⟩
  · intro d h1 h2
    have : d = 2 ∨ d = 3 := by omega
    rcases this with rfl | rfl <;> decide
  · intro d h1 h2
    have : d = 2 ∨ d = 3 ∨ d = 4 := by omega
    rcases this with rfl | rfl | rfl <;> decide
/-- what is p minus a square is no element -/
theorem not_El_neg {q r : Int} (hq : Od q) (hr1 : 0 < r) (hr2 : r < 2 * q + 1) : ¬ El q (2 * q + 1 - r * r % (2 * q + 1)) := by
  have hodd := hq.odd
  obtain ⟨h1, h2, hpq, hpp⟩ := hq
  rintro ⟨_, _, h⟩
  have hr0 : r % (2 * q + 1) ≠ 0 := by rw [Int.emod_eq_of_lt (by omega) hr2]; omega
  have hf := hpp.fermat hr0
  rw [show (2 * q + 1 - 1).toNat = 2 * q.toNat by omega, sq_pow] at hf
  have e1 : (2 * q + 1 - r * r % (2 * q + 1)) % (2 * q + 1) = (-(r * r)) % (2 * q + 1) := by
    refine Int.emod_eq_emod_iff_emod_sub_eq_zero.mpr ?_
    generalize 2 * q + 1 = p
    generalize r * r = x
    have h3 := Int.mul_ediv_add_emod x p
    have : p - x % p - -x = p * (1 + x / p) := by rw [Int.mul_add, Int.mul_one]; omega
    rw [this, Int.mul_emod_right]
  rw [← pow_emod, e1, pow_emod] at h
  have e2 : ∀ k : Nat, (-(r * r)) ^ (2 * k + 1) = -((r * r) ^ (2 * k + 1)) := by
    intro k
    rw [Int.pow_succ, sq_pow, Int.pow_succ, sq_pow, Int.neg_mul_neg, Int.mul_neg]
  obtain ⟨k, hk⟩ : ∃ k, q.toNat = 2 * k + 1 := ⟨(q / 2).toNat, by omega⟩
  rw [hk, e2] at h
  rw [hk] at hf
  generalize (r * r) ^ (2 * k + 1) = z at *
  have : (-z + z) % (2 * q + 1) = (1 + 1) % (2 * q + 1) := by
    rw [Int.add_emod, h, hf]
  rw [Int.add_left_neg, Int.zero_emod, Int.emod_eq_of_lt (by omega) (by omega)] at this
  omega
theorem El_sq {q r : Int} (hq : Od q) (hr1 : 0 < r) (hr2 : r < 2 * q + 1) : El q (r * r % (2 * q + 1)) := by
  obtain ⟨h1, h2, hpq, hpp⟩ := hq
  have hr0 : r % (2 * q + 1) ≠ 0 := by rw [Int.emod_eq_of_lt (by omega) hr2]; omega
  have hn : r * r % (2 * q + 1) ≠ 0 := fun h => by rcases hpp.euclid h with h | h <;> exact hr0 h
  have h0 := Int.emod_nonneg (r * r) (by omega : 2 * q + 1 ≠ 0)
  refine ⟨by omega, Int.emod_lt_of_pos _ (by omega), ?_⟩
  have hf := hpp.fermat hr0
  rw [show (2 * q + 1 - 1).toNat = 2 * q.toNat by omega, sq_pow] at hf
  rw [pow_emod, hf]
theorem El.ne0 {q b : Int} (hq : Od q) (hb : El q b) : b % (2 * q + 1) ≠ 0 := by
  rw [Int.emod_eq_of_lt (by have := hb.1; omega) hb.2.1]; have := hb.1; omega
theorem El.self {q b : Int} (hb : El q b) : b % (2 * q + 1) = b := Int.emod_eq_of_lt (by have := hb.1; omega) hb.2.1
theorem El_pow {q b : Int} (hq : Od q) (hb : El q b) (k : Nat) : El q (b ^ k % (2 * q + 1)) := by
  have hb0 := hb.ne0 hq
  obtain ⟨h1, h2, hpq, hpp⟩ := hq
  have hn := hpp.pow_ne hb0 k
  have h0 := Int.emod_nonneg (b ^ k) (by omega : 2 * q + 1 ≠ 0)
  refine ⟨by omega, Int.emod_lt_of_pos _ (by omega), ?_⟩
  rw [pow_emod, ← Int.pow_mul, Nat.mul_comm, Int.pow_mul, ← pow_emod, hb.2.2, Int.one_pow, Int.emod_eq_of_lt (by decide) (by omega)]
theorem El_one {q : Int} (hq : Od q) : El q 1 := ⟨by decide, by have := hq.1; omega, by rw [Int.one_pow, Int.emod_eq_of_lt (by decide) (by have := hq.1; omega)]⟩
theorem El_four {q : Int} (hq : Od q) : El q 4 := by
  have := El_sq hq (r := 2) (by omega) (by have := hq.1; omega)
  rwa [Int.emod_eq_of_lt (by decide) (by have := hq.1; omega)] at this
theorem El_mul {q a b : Int} (hq : Od q) (ha : El q a) (hb : El q b) : El q (a * b % (2 * q + 1)) := by
  have ha0 := ha.ne0 hq
  have hb0 := hb.ne0 hq
  obtain ⟨h1, h2, hpq, hpp⟩ := hq
  have hn : a * b % (2 * q + 1) ≠ 0 := fun h => by rcases hpp.euclid h with h | h; exact ha0 h; exact hb0 h
  have h0 := Int.emod_nonneg (a * b) (by omega : 2 * q + 1 ≠ 0)
  refine ⟨by omega, Int.emod_lt_of_pos _ (by omega), ?_⟩
  rw [pow_emod, mul_powI, Int.mul_emod, ha.2.2, hb.2.2, Int.mul_one, Int.emod_eq_of_lt (by decide) (by omega)]
/-! ### every element is a power -/
theorem nodup_le {α : Type} [BEq α] [LawfulBEq α] : ∀ (l1 l2 : List α), l1.Nodup → (∀ x ∈ l1, x ∈ l2) → l1.length ≤ l2.length := by
  intro l1
  induction l1 with
  | nil => intro l2 _ _; simp
  | cons a l ih =>
    intro l2 hn hs
    obtain ⟨h1, h2⟩ := List.nodup_cons.mp hn
    have ha := hs a (.head _)
    have := ih (l2.erase a) h2 (fun x hx => (List.mem_erase_of_ne (by rintro rfl; exact h1 hx)).mpr (hs x (.tail _ hx)))
    rw [List.length_erase_of_mem ha] at this
    have hpos := List.length_pos_of_mem ha
    simp only [List.length_cons]
    omega
theorem pigeon {α : Type} [BEq α] [LawfulBEq α] (l1 l2 : List α) (hn : l1.Nodup) (hs : ∀ x ∈ l1, x ∈ l2) (hl : l2.length ≤ l1.length) : ∀ x ∈ l2, x ∈ l1 := by
  intro x hx
  by_cases h : x ∈ l1
  · exact h
  · have := nodup_le l1 (l2.erase x) hn (fun y hy => (List.mem_erase_of_ne (by rintro rfl; exact h hy)).mpr (hs y hy))
    rw [List.length_erase_of_mem hx] at this
    have hpos := List.length_pos_of_mem hx
    omega
/-- an element is the square of a number from 1 to q -/
theorem El_root {q v : Int} (hq : Od q) (hv : El q v) : ∃ r : Int, 1 ≤ r ∧ r ≤ q ∧ v = r * r % (2 * q + 1) := by
  have hodd := hq.odd
  obtain ⟨h1, h2, hpq, hpp⟩ := hq
  obtain ⟨hv0, hv1, hv2⟩ := hv
  have hp : 0 < 2 * q + 1 := by omega
  generalize hr : v ^ ((q + 1) / 2).toNat % (2 * q + 1) = r
  have hrr : r * r % (2 * q + 1) = v := by
    rw [← hr, Int.mul_emod, Int.emod_emod_of_dvd _ (Int.dvd_refl _), ← Int.mul_emod, ← Int.pow_add, show ((q + 1) / 2).toNat + ((q + 1) / 2).toNat = q.toNat + 1 by omega, Int.pow_succ, Int.mul_emod, hv2, Int.one_mul, Int.emod_emod_of_dvd _ (Int.dvd_refl _), Int.emod_eq_of_lt (by omega) hv1]
  have r0 : 0 ≤ r := by rw [← hr]; exact Int.emod_nonneg _ (by omega)
  have r1 : r < 2 * q + 1 := by rw [← hr]; exact Int.emod_lt_of_pos _ hp
  have rn : r ≠ 0 := by
    rintro rfl
    rw [Int.zero_mul, Int.zero_emod] at hrr
    omega
  by_cases h : r ≤ q
  · exact ⟨r, by omega, h, hrr.symm⟩
  · refine ⟨2 * q + 1 - r, by omega, by omega, ?_⟩
    rw [← hrr]
    refine Int.emod_eq_emod_iff_emod_sub_eq_zero.mpr ?_
    generalize 2 * q + 1 = p
    have : r * r - (p - r) * (p - r) = p * (2 * r - p) := by
      rw [Int.sub_mul, Int.mul_sub, Int.mul_sub, Int.mul_sub, Int.mul_comm r p, Int.mul_comm p (2 * r), Int.mul_assoc, Int.mul_comm r p]
      omega
    rw [this, Int.mul_emod_right]
def powers (q b : Int) : List Int := (List.range q.toNat).map fun k => b ^ k % (2 * q + 1)
theorem powers_nodup {q b : Int} (hq : Od q) (hb : El q b) (hb1 : b ≠ 1) : (powers q b).Nodup := by
  have hbp : b % (2 * q + 1) = b := Int.emod_eq_of_lt (by have := hb.1; omega) hb.2.1
  unfold powers
  refine List.pairwise_map.mpr ?_
  refine List.Pairwise.imp_of_mem ?_ List.nodup_range
  intro i j hi hj hne e
  exact hne (pow_inj hq.qN hq.2.2.2 hb.2.2 (by rw [hbp]; exact hb1) (List.mem_range.mp hi) (List.mem_range.mp hj) e)
/-- the one exponent -/
theorem dlog {q b v : Int} (hq : Od q) (hb : El q b) (hb1 : b ≠ 1) (hv : El q v) : ∃ k : Nat, k < q.toNat ∧ v = b ^ k % (2 * q + 1) := by
  have h := pigeon (powers q b) ((List.range q.toNat).map fun k => (((k : Nat) : Int) + 1) * (((k : Nat) : Int) + 1) % (2 * q + 1)) (powers_nodup hq hb hb1) ?_ (by simp [powers]) v ?_
  · unfold powers at h
    obtain ⟨k, hk, e⟩ := List.mem_map.mp h
    exact ⟨k, List.mem_range.mp hk, e.symm⟩
  · intro x hx
    unfold powers at hx
    obtain ⟨k, hk, e⟩ := List.mem_map.mp hx
    obtain ⟨r, r1, r2, e2⟩ := El_root hq (El_pow hq hb k)
    refine List.mem_map.mpr ⟨(r - 1).toNat, List.mem_range.mpr (by omega), ?_⟩
    rw [← e, e2, show (((r - 1).toNat : Nat) : Int) + 1 = r by omega]
  · obtain ⟨r, r1, r2, e2⟩ := El_root hq hv
    refine List.mem_map.mpr ⟨(r - 1).toNat, List.mem_range.mpr (by omega), ?_⟩
    rw [e2, show (((r - 1).toNat : Nat) : Int) + 1 = r by omega]
theorem pow_q {q b : Int} (hq : Od q) (hb : El q b) (n : Nat) : b ^ n % (2 * q + 1) = b ^ (n % q.toNat) % (2 * q + 1) :=
  pow_mod_exp (by rw [hb.2.2, Int.emod_eq_of_lt (by decide) (by have := hq.1; omega)]) n
/-! ### pw: powers with whole exponents -/
def pw (q b e : Int) : Int := b ^ (e % q).toNat % (2 * q + 1)
section
variable {q a b c v : Int}
theorem Od.pos (hq : Od q) : 0 < q := by have := hq.1; omega
theorem pw_El (hq : Od q) (hb : El q b) (e : Int) : El q (pw q b e) := El_pow hq hb _
theorem pw_mod (q b e : Int) : pw q b (e % q) = pw q b e := by unfold pw; rw [mod_mod]
theorem pw_zero (hq : Od q) : pw q b 0 = 1 := by
  unfold pw; rw [Int.zero_emod]; show b ^ 0 % _ = 1; rw [Int.pow_zero, Int.emod_eq_of_lt (by decide) (by have := hq.1; omega)]
theorem pw_one (hq : Od q) (hb : El q b) : pw q b 1 = b := by
  have e : (1 : Int) % q = 1 := Int.emod_eq_of_lt (by decide) (by have := hq.1; omega)
  unfold pw; rw [e]; show b ^ 1 % _ = b; rw [Int.pow_succ, Int.pow_zero, Int.one_mul, hb.self]
theorem pw_base1 (hq : Od q) (e : Int) : pw q 1 e = 1 := by
  unfold pw; rw [Int.one_pow, Int.emod_eq_of_lt (by decide) (by have := hq.1; omega)]
theorem pw_eq (hq : Od q) {e : Int} (h1 : 0 ≤ e) (h2 : e < q) : pw q b e = b ^ e.toNat % (2 * q + 1) := by
  unfold pw; rw [Int.emod_eq_of_lt h1 h2]
/-- exponents that differ by a multiple of q -/
theorem pw_nat (hq : Od q) (hb : El q b) (n : Nat) : pw q b (n : Int) = b ^ n % (2 * q + 1) := by
  unfold pw
  rw [pow_q hq hb n]
  have := hq.pos
  have : ((n : Int) % q).toNat = n % q.toNat := by
    have e : q = (q.toNat : Int) := by omega
    rw [e, ← Int.natCast_emod, Int.toNat_natCast, Int.toNat_natCast]
  rw [this]
theorem pw_congr {i j : Int} (h : i % q = j % q) : pw q b i = pw q b j := by unfold pw; rw [h]
theorem nat_of (hq : Od q) (i : Int) : ∃ n : Nat, i % q = (n : Int) % q :=
  ⟨(i % q).toNat, by rw [Int.toNat_of_nonneg (Int.emod_nonneg i (by have := hq.pos; omega)), mod_mod]⟩
theorem pw_add (hq : Od q) (hb : El q b) (i j : Int) : pw q b i * pw q b j % (2 * q + 1) = pw q b (i + j) := by
  obtain ⟨m, hm⟩ := nat_of hq i
  obtain ⟨n, hn⟩ := nat_of hq j
  rw [pw_congr hm, pw_congr hn, pw_congr (show (i + j) % q = ((m + n : Nat) : Int) % q by rw [Int.natCast_add, Int.add_emod, hm, hn, ← Int.add_emod]), pw_nat hq hb, pw_nat hq hb, pw_nat hq hb, ← Int.mul_emod, ← Int.pow_add]
theorem pw_mul (hq : Od q) (hb : El q b) (i j : Int) : pw q (pw q b i) j = pw q b (i * j) := by
  obtain ⟨m, hm⟩ := nat_of hq i
  obtain ⟨n, hn⟩ := nat_of hq j
  rw [pw_congr (b := b) hm, pw_congr hn, pw_congr (show (i * j) % q = ((m * n : Nat) : Int) % q by rw [Int.natCast_mul, Int.mul_emod, hm, hn, ← Int.mul_emod]), pw_nat hq (pw_El hq hb _), pw_nat hq hb, pw_nat hq hb, pow_emod, ← Int.pow_mul]
theorem pw_prod (hq : Od q) (e : Int) : pw q (a * b % (2 * q + 1)) e = pw q a e * pw q b e % (2 * q + 1) := by
  unfold pw
  rw [pow_emod, mul_powI, Int.mul_emod]
theorem pw_inv (hq : Od q) (hb : El q b) (e : Int) : pw q b e * pw q b (-e) % (2 * q + 1) = 1 := by
  rw [pw_add hq hb, Int.add_right_neg, pw_zero hq]
theorem pw_inj (hq : Od q) (hb : El q b) (hb1 : b ≠ 1) {i j : Int} (e : pw q b i = pw q b j) : i % q = j % q := by
  have h0 := hq.pos
  have h1 := Int.emod_nonneg i (by omega : q ≠ 0)
  have h2 := Int.emod_nonneg j (by omega : q ≠ 0)
  have h3 := Int.emod_lt_of_pos i h0
  have h4 := Int.emod_lt_of_pos j h0
  have := pow_inj hq.qN hq.2.2.2 hb.2.2 (by rw [hb.self]; exact hb1) (i := (i % q).toNat) (j := (j % q).toNat) (by omega) (by omega) e
  omega
theorem pw_ne_one (hq : Od q) (hb : El q b) (hb1 : b ≠ 1) {i : Int} (hi : i % q ≠ 0) : pw q b i ≠ 1 := by
  intro h
  rw [← pw_zero (b := b) hq] at h
  have := pw_inj hq hb hb1 h
  rw [Int.zero_emod] at this
  exact hi this
open Classical in
/-- the logarithm -/
noncomputable def lg (q b v : Int) : Int := if h : ∃ k : Nat, k < q.toNat ∧ v = b ^ k % (2 * q + 1) then (h.choose : Int) else 0
theorem lg_spec (hq : Od q) (hb : El q b) (hb1 : b ≠ 1) (hv : El q v) : 0 ≤ lg q b v ∧ lg q b v < q ∧ pw q b (lg q b v) = v := by
  have h := dlog hq hb hb1 hv
  have h0 := hq.pos
  unfold lg
  rw [dif_pos h]
  have hs := h.choose_spec
  exact ⟨by omega, by omega, by rw [pw_nat hq hb]; exact hs.2.symm⟩
theorem lg_uniq (hq : Od q) (hb : El q b) (hb1 : b ≠ 1) (hv : El q v) {x : Int} (h1 : 0 ≤ x) (h2 : x < q) (e : pw q b x = v) : lg q b v = x := by
  obtain ⟨a1, a2, a3⟩ := lg_spec hq hb hb1 hv
  have := pw_inj hq hb hb1 (a3.trans e.symm)
  rwa [Int.emod_eq_of_lt a1 a2, Int.emod_eq_of_lt h1 h2] at this
theorem lg_mod (hq : Od q) (hb : El q b) (hb1 : b ≠ 1) (e : Int) : lg q b (pw q b e) = e % q :=
  lg_uniq hq hb hb1 (pw_El hq hb e) (Int.emod_nonneg _ (by have := hq.pos; omega)) (Int.emod_lt_of_pos _ hq.pos) (pw_mod q b e)
/-! products of powers -/
def pp (q : Int) : List Int → List Int → Int → Int
  | b :: bs, e :: es, v => pp q bs es (v * pw q b e % (2 * q + 1))
  | _, _, v => v
theorem pp_El (hq : Od q) : ∀ (bs es : List Int) (v : Int), (∀ b ∈ bs, El q b) → El q v → El q (pp q bs es v)
  | [], _, v, _, hv => by unfold pp; exact hv
  | _ :: _, [], v, _, hv => by unfold pp; exact hv
  | b :: bs, e :: es, v, h, hv => by
    unfold pp
    exact pp_El hq bs es _ (fun x hx => h x (.tail _ hx)) (El_mul hq hv (pw_El hq (h b (.head _)) e))
theorem pp_mul (q : Int) : ∀ (bs es : List Int) (v : Int), 0 < 2 * q + 1 → pp q bs es v % (2 * q + 1) = v * pp q bs es 1 % (2 * q + 1)
  | [], _, v, _ => by unfold pp; rw [Int.mul_one]
  | _ :: _, [], v, _ => by unfold pp; rw [Int.mul_one]
  | b :: bs, e :: es, v, h => by
    have a1 := pp_mul q bs es (v * pw q b e % (2 * q + 1)) h
    have a2 := pp_mul q bs es (1 * pw q b e % (2 * q + 1)) h
    unfold pp
    rw [a1, mul_mod_l, ← mul_mod_r v (pp q bs es _), a2, Int.one_mul, mul_mod_l, mul_mod_r, Int.mul_assoc]
end
/-! ### coins -/
def cnT (h : Int) (cs : List Nat) : Int := cs.foldl (fun h c => (h * 263 + ((c : Nat) : Int) + 1) % 2147483647) h
def cn3 (h : Int) : Int := (((h * 48271 + 12345) % 2147483647 * 48271 + 12345) % 2147483647 * 48271 + 12345) % 2147483647
def cn (seed n : Int) (x : Str) : Int := cn3 (cnT ((seed * 31 + n * 1009 + 11) % 2147483647) x.cps.toList) / 1000 % 1000000
theorem cn_nonneg (seed n : Int) (x : Str) : 0 ≤ cn seed n x := Int.emod_nonneg _ (by decide)
theorem cn_lt (seed n : Int) (x : Str) : cn seed n x < 1000000 := Int.emod_lt_of_pos _ (by decide)
/-! ### quotients -/
def qt (q a b : Int) : Int := a * (b ^ (q - 2).toNat % q) % q
theorem qt_range {q : Int} (hq : Od q) (a b : Int) : 0 ≤ qt q a b ∧ qt q a b < q := ⟨Int.emod_nonneg _ (by have := hq.1; omega), Int.emod_lt_of_pos _ hq.pos⟩
theorem qt_mul {q a b : Int} (hq : Od q) (hb : b % q ≠ 0) : qt q a b * b % q = a % q := by
  obtain ⟨h1, h2, hpq, hpp⟩ := hq
  have hf := hpq.fermat hb
  rw [show (q - 1).toNat = (q - 2).toNat + 1 by omega, Int.pow_succ] at hf
  unfold qt
  rw [mul_mod_l, Int.mul_assoc, ← mul_mod_r, mul_mod_l, hf, Int.mul_one]
theorem qt_uniq {q a b x : Int} (hq : Od q) (hb : b % q ≠ 0) (h0 : 0 ≤ x) (h1 : x < q) (e : x * b % q = a % q) : qt q a b = x := by
  have h2 := qt_range hq a b
  have h3 : b * qt q a b % q = b * x % q := by rw [Int.mul_comm, qt_mul hq hb, Int.mul_comm, e]
  have := hq.2.2.1.cancel hb h3
  rwa [Int.emod_eq_of_lt h2.1 h2.2, Int.emod_eq_of_lt h0 h1] at this
/-! ### elements divide -/
theorem el_div {q a x h : Int} (hq : Od q) (ha : El q a) (hx : El q x) (hh : El q h) : a * x % (2 * q + 1) = h ↔ x = h * pw q a (-1) % (2 * q + 1) := by
  have e1 : a * pw q a (-1) % (2 * q + 1) = 1 := by
    have := pw_inv hq ha 1
    rwa [pw_one hq ha] at this
  constructor
  · rintro rfl
    rw [mul_mod_l, Int.mul_comm a x, Int.mul_assoc, ← mul_mod_r, e1, Int.mul_one, hx.self]
  · rintro rfl
    rw [mul_mod_r, Int.mul_left_comm, ← mul_mod_r, e1, Int.mul_one, hh.self]
/-- a product of powers, by logarithms -/
theorem pp_lg {q g : Int} (hq : Od q) (hg : El q g) (hg1 : g ≠ 1) : ∀ (bs es : List Int) (s : Int), (∀ b ∈ bs, El q b) → pp q bs es (pw q g s) = pw q g (s + (List.zipWith (fun b e => e * lg q g b) bs es).sum)
  | [], _, s, _ => by simp [pp]
  | _ :: _, [], s, _ => by simp [pp]
  | b :: bs, e :: es, s, h => by
    have hb := h b (.head _)
    have e1 : pw q b e = pw q g (e * lg q g b) := by
      have := (lg_spec hq hg hg1 hb).2.2
      rw [Int.mul_comm, ← pw_mul hq hg, this]
    unfold pp
    rw [e1, pw_add hq hg, pp_lg hq hg hg1 bs es _ (fun x hx => h x (.tail _ hx))]
    simp only [List.zipWith_cons_cons, List.sum_cons, Int.add_assoc]
/-! ### claims -/
abbrev eqn (e : Int × List Int) : D := .tuple [.int e.1, Tu e.2]
abbrev clD (n : Int) (es : List (Int × List Int)) : D := .tuple [.int n, .tuple (es.map eqn)]
def Clm (q : Int) (n : Nat) (es : List (Int × List Int)) : Prop := ∀ e ∈ es, El q e.1 ∧ e.2.length = n ∧ ∀ b ∈ e.2, El q b
def Val (q : Int) (n : Nat) (vs : List Int) : Prop := vs.length = n ∧ ∀ v ∈ vs, 0 ≤ v ∧ v < q
theorem foldl_and {α : Type} (p : α → Bool) (xs : List α) (b : Bool) : xs.foldl (fun b x => b && p x) b = (b && xs.all p) := by
  induction xs generalizing b with
  | nil => simp
  | cons x xs ih => rw [List.foldl_cons, ih, List.all_cons, Bool.and_assoc]
theorem set_cut {α : Type} (xs : List α) (k : Nat) (y : α) (h : k < xs.length) : xs.take k ++ (y :: xs.drop (k + 1)) = xs.set k y := (List.set_eq_take_append_cons_drop.trans (if_pos h)).symm
theorem dt_tu (n : Nat) (xs : List Int) : dt (n + 1) (Tu xs) = true := dt_ints n xs
/-! ### traces -/
def tr (q : Int) (es : List (Int × List Int)) (c : Int) (as : List Int) : List Int := es.map fun e => pp q e.2 as 1 * pw q e.1 (-c) % (2 * q + 1)
def kv (q c d : Int) (as bs : List Int) : List Int := List.zipWith (fun a b => qt q ((a - b) % q) ((c - d) % q)) as bs
def mk (q c : Int) (ns xs : List Int) : List Int := List.zipWith (fun n x => (n + c * x) % q) ns xs
noncomputable def sd (q g : Int) (bs es : List Int) : Int := (List.zipWith (fun b e => e * lg q g b) bs es).sum
theorem pp_sd {q : Int} (hq : Od q) (bs es : List Int) (h : ∀ b ∈ bs, El q b) : pp q bs es 1 = pw q 4 (sd q 4 bs es) := by
  have := pp_lg hq (El_four hq) (by decide) bs es 0 h
  rwa [pw_zero hq, Int.zero_add] at this
theorem el_lg {q y : Int} (hq : Od q) (h : El q y) : pw q 4 (lg q 4 y) = y := (lg_spec hq (El_four hq) (by decide) h).2.2
theorem el_pw {q y : Int} (hq : Od q) (h : El q y) (c : Int) : pw q y c = pw q 4 (lg q 4 y * c) := by rw [← pw_mul hq (El_four hq), el_lg hq h]
/-- what is told of the exponents, part by part -/
theorem sd_lin {q g m k l : Int} : ∀ (bs xs as cs : List Int), xs.length = bs.length → as.length = bs.length → cs.length = bs.length →
    (∀ i x a c : Int, ∀ j : Nat, xs[j]? = some x → as[j]? = some a → cs[j]? = some c → (x * m) % q = (k * a + l * c) % q) → (sd q g bs xs * m) % q = (k * sd q g bs as + l * sd q g bs cs) % q
  | [], [], [], [], _, _, _, _ => by simp [sd]
  | b :: bs, x :: xs, a :: as, c :: cs, h1, h2, h3, h => by
    have ih := sd_lin (q := q) (g := g) bs xs as cs (by simpa using h1) (by simpa using h2) (by simpa using h3) (fun i x a c j e1 e2 e3 => h i x a c (j + 1) e1 e2 e3)
    have h0 := h 0 x a c 0 rfl rfl rfl
    have e : ∀ (y : Int) (ys : List Int), sd q g (b :: bs) (y :: ys) = y * lg q g b + sd q g bs ys := fun y ys => rfl
    rw [e, e, e]
    generalize sd q g bs xs = X at *
    generalize sd q g bs as = A at *
    generalize sd q g bs cs = C at *
    generalize lg q g b = L at *
    have e1 : (x * L + X) * m = L * (x * m) + X * m := by rw [Int.add_mul, Int.mul_comm x L, Int.mul_assoc]
    have e2 : k * (a * L + A) + l * (c * L + C) = L * (k * a + l * c) + (k * A + l * C) := by
      rw [Int.mul_add, Int.mul_add, Int.mul_add L, ← Int.mul_assoc k a, ← Int.mul_assoc l c, Int.mul_comm L (k * a), Int.mul_comm L (l * c)]; omega
    rw [e1, e2, Int.add_emod, Int.mul_emod L, h0, ih, ← Int.mul_emod, ← Int.add_emod]
  | [], _ :: _, _, _, h, _, _, _ => by simp at h
  | [], [], _ :: _, _, _, h, _, _ => by simp at h
  | [], [], [], _ :: _, _, _, h, _ => by simp at h
  | _ :: _, [], _, _, h, _, _, _ => by simp at h
  | _ :: _, _ :: _, [], _, _, h, _, _ => by simp at h
  | _ :: _, _ :: _, _ :: _, [], _, _, h, _ => by simp at h
theorem kv_len {q c d : Int} {as bs : List Int} (h : as.length = bs.length) : (kv q c d as bs).length = as.length := by simp [kv]; omega
theorem kv_val {q c d : Int} {as bs : List Int} {n : Nat} (hq : Od q) (h1 : as.length = n) (h2 : bs.length = n) : Val q n (kv q c d as bs) := by
  refine ⟨by rw [kv_len (by omega), h1], fun v hv => ?_⟩
  unfold kv at hv
  obtain ⟨i, hi, rfl⟩ := List.mem_iff_getElem.mp hv
  rw [List.getElem_zipWith]
  exact qt_range hq _ _
/-- two pairs with the same traces tell values -/
theorem tr_known {q c d : Int} {n : Nat} {es : List (Int × List Int)} {as bs : List Int} (hq : Od q) (hc : Clm q n es) (ha : as.length = n) (hb : bs.length = n) (hcd : (c - d) % q ≠ 0) (h : tr q es c as = tr q es d bs) :
    ∀ e ∈ es, pp q e.2 (kv q c d as bs) 1 = e.1 := by
  intro e he
  obtain ⟨c1, c2, c3⟩ := hc e he
  have h4 := El_four hq
  have ht : pp q e.2 as 1 * pw q e.1 (-c) % (2 * q + 1) = pp q e.2 bs 1 * pw q e.1 (-d) % (2 * q + 1) := by
    unfold tr at h
    exact List.map_inj_left.mp h e he
  rw [pp_sd hq _ _ c3, pp_sd hq _ _ c3, el_pw hq c1, el_pw hq c1, pw_add hq h4, pw_add hq h4] at ht
  have h1 := pw_inj hq h4 (by decide) ht
  rw [pp_sd hq _ _ c3, ← el_lg hq c1]
  refine pw_congr ?_
  have h2 := sd_lin (q := q) (g := 4) (m := c - d) (k := 1) (l := -1) e.2 (kv q c d as bs) as bs (by rw [kv_len (by omega)]; omega) (by omega) (by omega) (fun i x a b j e1 e2 e3 => by
    unfold kv at e1
    rw [List.getElem?_zipWith, e2, e3] at e1
    cases e1
    have := qt_mul hq (a := (a - b) % q) (b := (c - d) % q) (by rw [mod_mod]; exact hcd)
    rw [mul_mod_r, mod_mod] at this
    rw [this]
    congr 1
    omega)
  generalize sd q 4 e.2 (kv q c d as bs) = X at *
  generalize sd q 4 e.2 as = A at *
  generalize sd q 4 e.2 bs = B at *
  generalize lg q 4 e.1 = Y at *
  have h3 : (c - d) * X % q = (c - d) * Y % q := by
    rw [Int.mul_comm, h2]
    have : (c - d) * Y = (1 * A + -1 * B) - ((A + Y * -c) - (B + Y * -d)) := by
      rw [Int.sub_mul, Int.mul_neg, Int.mul_neg, Int.mul_comm c, Int.mul_comm d]; omega
    rw [this, Int.sub_emod, Int.emod_eq_emod_iff_emod_sub_eq_zero.mp h1, Int.sub_zero, mod_mod]
  exact hq.2.2.1.cancel hcd h3
theorem mk_len {q c : Int} {ns xs : List Int} (h : ns.length = xs.length) : (mk q c ns xs).length = xs.length := by simp [mk]; omega
theorem mk_val {q c : Int} {ns xs : List Int} {n : Nat} (hq : Od q) (h1 : ns.length = n) (h2 : xs.length = n) : Val q n (mk q c ns xs) := by
  refine ⟨by rw [mk_len (by omega), h2], fun v hv => ?_⟩
  unfold mk at hv
  obtain ⟨i, hi, rfl⟩ := List.mem_iff_getElem.mp hv
  rw [List.getElem_zipWith]
  exact ⟨Int.emod_nonneg _ (by have := hq.1; omega), Int.emod_lt_of_pos _ hq.pos⟩
/-- the traces of what is made of noise are those of the noise -/
theorem tr_made {q c : Int} {n : Nat} {es : List (Int × List Int)} {ns xs : List Int} (hq : Od q) (hc : Clm q n es) (h1 : ns.length = n) (h2 : xs.length = n) (hp : ∀ e ∈ es, e.1 = pp q e.2 xs 1) : tr q es c (mk q c ns xs) = tr q es 0 ns := by
  unfold tr
  refine List.map_inj_left.mpr fun e he => ?_
  obtain ⟨c1, c2, c3⟩ := hc e he
  have h4 := El_four hq
  have hy := hp e he
  have h5 := sd_lin (q := q) (g := 4) (m := 1) (k := 1) (l := c) e.2 (mk q c ns xs) ns xs (by rw [mk_len (by omega)]; omega) (by omega) (by omega) (fun i x a b j e1 e2 e3 => by
    unfold mk at e1
    rw [List.getElem?_zipWith, e2, e3] at e1
    cases e1
    rw [Int.mul_one, mod_mod, Int.one_mul])
  rw [pp_sd hq _ _ c3] at hy
  have h6 : lg q 4 e.1 % q = sd q 4 e.2 xs % q := by rw [hy, lg_mod hq h4 (by decide), mod_mod]
  rw [pp_sd hq _ _ c3, pp_sd hq _ _ c3, el_pw hq c1, el_pw hq c1, pw_add hq h4, pw_add hq h4]
  refine pw_congr ?_
  generalize sd q 4 e.2 (mk q c ns xs) = M at *
  generalize sd q 4 e.2 ns = N at *
  generalize sd q 4 e.2 xs = X at *
  generalize lg q 4 e.1 = Y at *
  have e1 : M + Y * -c = M * 1 - c * Y := by rw [Int.mul_neg, Int.mul_comm c]; omega
  have e2 : N + Y * -0 = (1 * N + c * X) - c * X := by omega
  rw [e1, e2, Int.sub_emod, h5, Int.mul_emod c Y, h6, ← Int.mul_emod c X, ← Int.sub_emod]
/-- .. and two of them tell the values -/
theorem kv_made {q c d : Int} {n : Nat} {ns xs : List Int} (hq : Od q) (h1 : ns.length = n) (hx : Val q n xs) (hcd : (c - d) % q ≠ 0) : kv q c d (mk q c ns xs) (mk q d ns xs) = xs := by
  refine List.ext_getElem? fun i => ?_
  unfold kv mk
  rw [List.getElem?_zipWith, List.getElem?_zipWith, List.getElem?_zipWith]
  by_cases hi : i < n
  · obtain ⟨x, e1⟩ : ∃ x, xs[i]? = some x := ⟨_, List.getElem?_eq_getElem (by rw [hx.1]; exact hi)⟩
    obtain ⟨a, e2⟩ : ∃ x, ns[i]? = some x := ⟨_, List.getElem?_eq_getElem (by rw [h1]; exact hi)⟩
    have hv := hx.2 _ (List.mem_of_getElem? e1)
    rw [e1, e2]
    simp only
    congr 1
    refine qt_uniq hq (by rw [mod_mod]; exact hcd) hv.1 hv.2 ?_
    rw [mul_mod_r, mod_mod, ← Int.sub_emod]
    congr 1
    rw [Int.mul_sub, Int.mul_comm x, Int.mul_comm x]; omega
  · have e1 : xs[i]? = none := List.getElem?_eq_none (by rw [hx.1]; omega)
    have e2 : ns[i]? = none := List.getElem?_eq_none (by omega)
    rw [e1, e2]
theorem tr_snoc (q c : Int) (as : List Int) {es : List (Int × List Int)} {i : Nat} {x : Int × List Int} (h : es[i]? = some x) : tr q (es.take (i + 1)) c as = tr q (es.take i) c as ++ [pp q x.2 as 1 * pw q x.1 (-c) % (2 * q + 1)] := by
  unfold tr; rw [List.take_succ, h, List.map_append]; rfl
theorem pp_snoc (q : Int) : ∀ (bs es : List Int) (b e v : Int), bs.length = es.length → pp q (bs ++ [b]) (es ++ [e]) v = pp q bs es v * pw q b e % (2 * q + 1)
  | [], [], b, e, v, _ => rfl
  | [], _ :: _, _, _, _, h => by simp at h
  | _ :: _, [], _, _, _, h => by simp at h
  | x :: bs, y :: es, b, e, v, h => pp_snoc q bs es b e _ (by simpa using h)
theorem takeI_snoc {xs : List Int} {i : Nat} (h : i < xs.length) : xs.take (i + 1) = xs.take i ++ [xs[i]!] := by
  rw [List.take_succ, List.getElem!_eq_getElem?_getD, List.getElem?_eq_getElem h]; rfl
theorem mk_range (q c : Int) (ns vs : List Int) (h : ns.length = vs.length) : (List.range vs.length).map (fun k => PyData.int ((nth ns (k : Nat) + c * nth vs (k : Nat)) % q)) = (mk q c ns vs).map PyData.int := by
  refine List.ext_getElem? fun i => ?_
  unfold mk nth
  rw [List.getElem?_map, List.getElem?_map, List.getElem?_zipWith]
  by_cases hi : i < vs.length
  · obtain ⟨x, e1⟩ : ∃ x, vs[i]? = some x := ⟨_, List.getElem?_eq_getElem hi⟩
    obtain ⟨a, e2⟩ : ∃ x, ns[i]? = some x := ⟨_, List.getElem?_eq_getElem (h ▸ hi)⟩
    rw [List.getElem?_range hi]
    simp [e1, e2]
  · rw [List.getElem?_eq_none (by simpa using hi), List.getElem?_eq_none (by omega : ns.length ≤ i), List.getElem?_eq_none (by omega : vs.length ≤ i)]; rfl
theorem other_ne {q c m : Int} (hq : Od q) (h0 : 0 ≤ c) (h1 : c < q) : c ≠ (c + 1 + m % (q - 1)) % q := by
  have hq1 := hq.1
  have i0 := Int.emod_nonneg m (by omega : q - 1 ≠ 0)
  have i1 := Int.emod_lt_of_pos m (by omega : (0 : Int) < q - 1)
  generalize m % (q - 1) = r at *
  rcases Int.lt_or_le (c + 1 + r) q with h | h
  · rw [Int.emod_eq_of_lt (by omega) h]; omega
  · rw [← Int.sub_emod_right, Int.emod_eq_of_lt (by omega) (by omega)]; omega
end DM

namespace DM
open PySem PySem.Spec PyProof.Rows L2 DL
/-! ### texts of numbers, joined texts, challenges -/
def strI (i : Int) : Str := Str.ofString (toString i)
theorem ofs_len (s : String) : (Str.ofString s).length = s.length := by
  rw [Str.ofString_eq_toList]
  show ((s.toList.map Char.toNat).toArray).size = _
  rw [List.size_toArray, List.length_map]
  first | rfl | exact String.length_toList | exact (String.length_toList ..)
theorem strI_len {i : Int} (h : -1000000000000 < i ∧ i < 1000000000000) : (strI i).length ≤ 13 := by
  unfold strI
  rw [ofs_len]
  cases i with
  | ofNat n =>
    show (Nat.repr n).length ≤ 13
    have : (Nat.repr n).length ≤ 12 := (Nat.length_repr_le_iff (by decide)).mpr (by have := h.2; simp at this; omega)
    omega
  | negSucc n =>
    show ("-" ++ Nat.repr (n + 1)).length ≤ 13
    rw [String.length_append]
    have : (Nat.repr (n + 1)).length ≤ 12 := (Nat.length_repr_le_iff (by decide)).mpr (by have := h.1; omega)
    have e : ("-" : String).length = 1 := by decide
    omega
def Sml (i : Int) : Prop := -1000000000000 < i ∧ i < 1000000000000
@[simp] theorem mStr_i {i : Int} (h : Sml i) : mStr [.im (.int i)] = some (.im (.str (strI i))) := by
  have h1 := h.1
  have h2 := h.2
  have : i.natAbs.log2 < 1920 := by
    by_cases h0 : i.natAbs = 0
    · rw [h0]; decide
    · have : i.natAbs.log2 < 40 := (Nat.log2_lt h0).mpr (by
        have : (2 : Nat) ^ 40 = 1099511627776 := by decide
        omega)
      omega
  show (if i.natAbs.log2 < 1920 then _ else _) = _
  rw [if_pos this]; rfl
/-- the joined text -/
def jt (w : Str) (ns : List Int) : Str := Txt.join (" " : Str) (w :: ns.map strI)
theorem sum_le {α : Type} (f : α → Nat) (b : Nat) : ∀ xs : List α, (∀ x ∈ xs, f x ≤ b) → (xs.map f).sum ≤ xs.length * b
  | [], _ => by simp
  | x :: xs, h => by
    have := sum_le f b xs (fun y hy => h y (.tail _ hy))
    have := h x (.head _)
    simp only [List.map_cons, List.sum_cons, List.length_cons, Nat.add_mul]
    omega
theorem join_ok {w : Str} {ns : List Int} (hw : w.length ≤ 1000) (hl : ns.length ≤ 100000) (hs : ∀ n ∈ ns, Sml n) : joinOk (" " : Str) (w :: ns.map strI) = true := by
  unfold joinOk
  refine decide_eq_true ?_
  have h1 := sum_le (fun i => (strI i).length) 13 ns (fun x hx => strI_len (hs x hx))
  have h2 : (" " : Str).length = 1 := by rw [ofs_len]; decide
  rw [h2]
  simp only [List.map_cons, List.map_map, List.sum_cons, List.length_cons, List.length_map, Function.comp_def]
  omega
/-- the challenge of a joined text -/
def chal (q : Int) (w : Str) (ns : List Int) : Int := 1 + cn 0 q (jt w ns) % (q - 1)
theorem chal_range {q : Int} (hq : Od q) (w : Str) (ns : List Int) : 1 ≤ chal q w ns ∧ chal q w ns < q := by
  have h1 := hq.1
  have i0 := Int.emod_nonneg (cn 0 q (jt w ns)) (by omega : q - 1 ≠ 0)
  have i1 := Int.emod_lt_of_pos (cn 0 q (jt w ns)) (by omega : (0 : Int) < q - 1)
  unfold chal
  omega
/-! ### choices, papers -/
abbrev Clai := Nat × List (Int × List Int)
abbrev cld (c : Clai) : D := clD (c.1 : Nat) c.2
abbrev chD (C : List Clai) : D := .tuple (C.map cld)
abbrev paD (P : List (Int × List Int)) : D := .tuple (P.map eqn)
def Cho (q : Int) (C : List Clai) : Prop := ∀ c ∈ C, Clm q c.1 c.2 ∧ c.1 ≤ 8 ∧ 1 ≤ c.2.length ∧ c.2.length ≤ 6
/-- the numbers of a claim -/
def cnum (n : Int) (es : List (Int × List Int)) : List Int := n :: (es.length : Nat) :: es.flatMap fun e => e.1 :: e.2
def chnum (C : List Clai) : List Int := (C.length : Nat) :: C.flatMap fun c => cnum (c.1 : Nat) c.2
def trs (q : Int) (C : List Clai) (P : List (Int × List Int)) : List Int := (C.zip P).flatMap fun cp => tr q cp.1.2 cp.2.1 cp.2.2
def okP (q : Int) (c : Clai) (p : Int × List Int) : Prop := (0 ≤ p.1 ∧ p.1 < q) ∧ Val q c.1 p.2
def Form (q : Int) (C : List Clai) (P : List (Int × List Int)) : Prop := P.length = C.length ∧ ∀ cp ∈ C.zip P, okP q cp.1 cp.2
def cal (q : Int) (x : Str) (C : List Clai) (P : List (Int × List Int)) : Int := chal q (("paper " : Str) ++ x) (chnum C ++ trs q C P)
theorem flat_le {α : Type} (f : α → List Int) (b : Nat) : ∀ xs : List α, (∀ x ∈ xs, (f x).length ≤ b) → (xs.flatMap f).length ≤ xs.length * b
  | [], _ => by simp
  | x :: xs, h => by
    have := flat_le f b xs (fun y hy => h y (.tail _ hy))
    have := h x (.head _)
    simp only [List.flatMap_cons, List.length_append, List.length_cons, Nat.add_mul]
    omega
theorem cnum_len {q : Int} {c : Clai} (h : Clm q c.1 c.2 ∧ c.1 ≤ 8 ∧ 1 ≤ c.2.length ∧ c.2.length ≤ 6) : (cnum (c.1 : Nat) c.2).length ≤ 60 := by
  obtain ⟨h1, h2, h3, h4⟩ := h
  have := flat_le (fun e : Int × List Int => e.1 :: e.2) 9 c.2 (fun e he => by have := (h1 e he).2.1; simp; omega)
  simp only [cnum, List.length_cons]
  omega
theorem El_sml {q v : Int} (hq : Od q) (h : El q v) : Sml v := by
  have := hq.2.1
  exact ⟨by have := h.1; omega, by have := h.2.1; omega⟩
theorem cnum_sml {q : Int} {c : Clai} (hq : Od q) (h : Clm q c.1 c.2 ∧ c.1 ≤ 8 ∧ 1 ≤ c.2.length ∧ c.2.length ≤ 6) : ∀ n ∈ cnum (c.1 : Nat) c.2, Sml n := by
  obtain ⟨h1, h2, h3, h4⟩ := h
  intro n hn
  simp only [cnum, List.mem_cons, List.mem_flatMap] at hn
  rcases hn with rfl | rfl | ⟨e, he, rfl | hn⟩
  · exact ⟨by omega, by omega⟩
  · exact ⟨by omega, by omega⟩
  · exact El_sml hq (h1 e he).1
  · exact El_sml hq ((h1 e he).2.2 n hn)
theorem chnum_len {q : Int} {C : List Clai} (h : Cho q C) (hl : C.length ≤ 25) : (chnum C).length ≤ 1600 := by
  have := flat_le (fun c : Clai => cnum (c.1 : Nat) c.2) 60 C (fun c hc => cnum_len (h c hc))
  simp only [chnum, List.length_cons]
  omega
theorem chnum_sml {q : Int} {C : List Clai} (hq : Od q) (h : Cho q C) (hl : C.length ≤ 25) : ∀ n ∈ chnum C, Sml n := by
  intro n hn
  simp only [chnum, List.mem_cons, List.mem_flatMap] at hn
  rcases hn with rfl | ⟨c, hc, hn⟩
  · exact ⟨by omega, by omega⟩
  · exact cnum_sml hq (h c hc) n hn
theorem tr_El {q : Int} {n : Nat} {es : List (Int × List Int)} (hq : Od q) (hc : Clm q n es) (c : Int) (as : List Int) : ∀ v ∈ tr q es c as, El q v := by
  intro v hv
  obtain ⟨e, he, rfl⟩ := List.mem_map.mp hv
  obtain ⟨c1, c2, c3⟩ := hc e he
  exact El_mul hq (pp_El hq e.2 as 1 c3 (El_one hq)) (pw_El hq c1 _)
theorem trs_len {q : Int} {C : List Clai} (P : List (Int × List Int)) (h : Cho q C) (hl : C.length ≤ 25) : (trs q C P).length ≤ 200 := by
  have := flat_le (fun cp : Clai × (Int × List Int) => tr q cp.1.2 cp.2.1 cp.2.2) 6 (C.zip P) (fun cp hc => by
    have := (h cp.1 (List.of_mem_zip hc).1).2.2.2
    simp [tr]; omega)
  have hz : (C.zip P).length ≤ C.length := by rw [List.length_zip]; omega
  unfold trs
  omega
theorem trs_sml {q : Int} {C : List Clai} (P : List (Int × List Int)) (hq : Od q) (h : Cho q C) : ∀ n ∈ trs q C P, Sml n := by
  intro n hn
  obtain ⟨cp, hc, hn⟩ := List.mem_flatMap.mp hn
  exact El_sml hq (tr_El hq (h cp.1 (List.of_mem_zip hc).1).1 _ _ n hn)
/-- the sum of the others -/
def so (P : List (Int × List Int)) (i : Int) : Int := ((P.zipIdx.filter fun p => decide ((p.2 : Int) ≠ i)).map fun p => p.1.1).sum
def tot (P : List (Int × List Int)) : Int := (P.map fun p => p.1).sum
theorem so_gen : ∀ (P : List (Int × List Int)) (k : Nat) (i : Int), (((P.zipIdx k).filter fun p => decide ((p.2 : Int) ≠ i)).map fun p => p.1.1).sum = tot P - (if (k : Int) ≤ i ∧ i < k + P.length then (P[(i - k).toNat]?.map fun p => p.1).getD 0 else 0)
  | [], k, i => by
    have : ¬ ((k : Int) ≤ i ∧ i < k + (0 : Nat)) := by omega
    simp [tot]
  | p :: P, k, i => by
    have ih := so_gen P (k + 1) i
    have et : tot (p :: P) = p.1 + tot P := by simp [tot]
    rw [List.zipIdx_cons, List.filter_cons, et]
    by_cases h : (k : Int) = i
    · have hc : decide ((k : Int) ≠ i) = false := by simp [h]
      have h1 : ¬ (((k + 1 : Nat) : Int) ≤ i ∧ i < (k + 1 : Nat) + (P.length : Nat)) := by omega
      have h2 : (k : Int) ≤ i ∧ i < k + ((p :: P).length : Nat) := by simp; omega
      simp only [hc, Bool.false_eq_true, if_false]
      rw [ih, if_neg h1, if_pos h2, show (i - (k : Int)).toNat = 0 by omega]
      simp
      omega
    · have hc : decide ((k : Int) ≠ i) = true := by simp [h]
      simp only [hc, if_true, List.map_cons, List.sum_cons]
      rw [ih]
      by_cases h1 : ((k + 1 : Nat) : Int) ≤ i ∧ i < (k + 1 : Nat) + (P.length : Nat)
      · have h2 : (k : Int) ≤ i ∧ i < k + ((p :: P).length : Nat) := by simp; omega
        rw [if_pos h1, if_pos h2, show (i - (k : Int)).toNat = (i - ((k + 1 : Nat) : Int)).toNat + 1 by omega, List.getElem?_cons_succ]
        omega
      · have h2 : ¬ ((k : Int) ≤ i ∧ i < k + ((p :: P).length : Nat)) := by simp; omega
        rw [if_neg h1, if_neg h2]
        omega
theorem so_all (P : List (Int × List Int)) : so P (-1) = tot P := by
  have := so_gen P 0 (-1)
  unfold so
  rw [this, if_neg (by omega)]
  omega
theorem so_at {P : List (Int × List Int)} {i : Nat} {p : Int × List Int} (h : P[i]? = some p) : so P i = tot P - p.1 := by
  have := so_gen P 0 i
  have hl := (List.getElem?_eq_some_iff.mp h).1
  unfold so
  rw [this, if_pos (by omega), show ((i : Int) - ((0 : Nat) : Int)).toNat = i by omega, h]; rfl
theorem tot_set : ∀ {P : List (Int × List Int)} {i : Nat} {p p' : Int × List Int}, P[i]? = some p → tot (P.set i p') = tot P - p.1 + p'.1
  | [], i, p, p', h => by simp at h
  | x :: P, 0, p, p', h => by
    simp at h; subst h
    simp [tot]; omega
  | x :: P, i + 1, p, p', h => by
    have := tot_set (P := P) (i := i) (p' := p') (by simpa using h)
    simp only [tot, List.set_cons_succ, List.map_cons, List.sum_cons] at this ⊢
    omega
/-- exchanging a pair for one with the same traces -/
theorem trs_set {q : Int} : ∀ {C : List Clai} {P : List (Int × List Int)} {i : Nat} {c : Clai} {p p' : Int × List Int}, C[i]? = some c → P[i]? = some p → tr q c.2 p'.1 p'.2 = tr q c.2 p.1 p.2 → trs q C (P.set i p') = trs q C P
  | [], _, _, _, _, _, h, _, _ => by simp at h
  | _ :: _, [], _, _, _, _, _, h, _ => by simp at h
  | a :: C, x :: P, 0, c, p, p', h1, h2, h3 => by
    simp at h1 h2; subst h1 h2
    simp only [trs, List.set_cons_zero, List.zip_cons_cons, List.flatMap_cons, h3]
  | a :: C, x :: P, i + 1, c, p, p', h1, h2, h3 => by
    have := trs_set (q := q) (C := C) (P := P) (i := i) (by simpa using h1) (by simpa using h2) h3
    simp only [trs, List.set_cons_succ, List.zip_cons_cons, List.flatMap_cons] at this ⊢
    rw [this]
theorem form_get {q : Int} {C : List Clai} {P : List (Int × List Int)} (h : Form q C P) {i : Nat} {c : Clai} {p : Int × List Int} (h1 : C[i]? = some c) (h2 : P[i]? = some p) : okP q c p :=
  h.2 (c, p) (List.mem_of_getElem? (i := i) (by rw [List.getElem?_zip_eq_some]; exact ⟨h1, h2⟩))
theorem form_of {q : Int} {C : List Clai} {P : List (Int × List Int)} (hl : P.length = C.length) (h : ∀ (i : Nat) (c : Clai) (p : Int × List Int), C[i]? = some c → P[i]? = some p → okP q c p) : Form q C P := by
  refine ⟨hl, fun cp hcp => ?_⟩
  obtain ⟨i, hi⟩ := List.getElem?_of_mem hcp
  rw [List.getElem?_zip_eq_some] at hi
  exact h i cp.1 cp.2 hi.1 hi.2
theorem form_set {q : Int} {C : List Clai} {P : List (Int × List Int)} (h : Form q C P) {i : Nat} {c : Clai} {p' : Int × List Int} (h1 : C[i]? = some c) (h2 : okP q c p') : Form q C (P.set i p') := by
  refine form_of (by rw [List.length_set]; exact h.1) fun j d p e1 e2 => ?_
  by_cases hij : i = j
  · subst hij
    rw [h1] at e1; cases e1
    have hl : i < P.length := by rw [h.1]; exact (List.getElem?_eq_some_iff.mp h1).1
    rw [List.getElem?_set_self hl] at e2; cases e2
    exact h2
  · rw [List.getElem?_set_ne hij] at e2
    exact form_get h e1 e2
end DM

namespace DM
open PySem PySem.Spec PyProof.Rows DL
open L2 hiding nth
section
variable {f : En → Rs Sl} {δ : En}
@[simp] theorem iSeqT_def : iSeqT f δ = (f δ).bind fun s => sqO (tupOf s) (itL s) := rfl
@[simp] theorem iStrD_def : iStrD f δ = (f δ).bind fun s => ofD ((strOf s).map signsD) .ok := rfl
@[simp] theorem tupOf_li (ds : List D) : tupOf (.im (.list ds)) = none := rfl
@[simp] theorem tupOf_m (ds : List D) : tupOf (.ml ds) = none := rfl
@[simp] theorem strOf_s (x : Str) : strOf (.im (.str x)) = some x := rfl
@[simp] theorem iAny_ml {ds : List D} (h : f δ = .ok (.ml ds)) : iAny f δ = .ok ds := by unfold iAny; rw [h]; rfl
def idxO (o : Option (List D)) (m : List D → Sl → Option Sl) (r : Rs Sl) : Rs Sl := match o with
  | some ds => r.bind fun b => ofO (m ds b)
  | none => .bad
@[simp] theorem idxO_some (ds : List D) (m : List D → Sl → Option Sl) (r : Rs Sl) : idxO (some ds) m r = r.bind fun b => ofO (m ds b) := rfl
@[simp] theorem eIdxB_def (g : En → Rs Sl) : eIdxB f g δ = (f δ).bind fun a => idxO (lstOf a) mIdxB (g δ) := by unfold eIdxB idxO; rfl
@[simp] theorem eIdxD_def (g : En → Rs Sl) : eIdxD f g δ = (f δ).bind fun a => idxO (lstOf a) mIdxD (g δ) := by unfold eIdxD idxO; rfl
end
@[simp] theorem mSumB_ml (ds : List D) : mSumB [.ml ds] = mSum [.ml ds] := rfl
@[simp] theorem mSumB_br (ds : List D) : mSumB [.br ds] = mSum [.br ds] := rfl
@[simp] theorem mSumB_li (ds : List D) : mSumB [.im (.list ds)] = mSum [.im (.list ds)] := rfl
@[simp] theorem mSumB_t (ds : List D) : mSumB [.im (.tuple ds)] = (intsOf ds).map fun ns => .im (.int ns.sum) := rfl
@[simp] theorem mMaxB_ml (ds : List D) : mMaxB [.ml ds] = (intsOf ds).bind fun ns => if ns ≠ [] then some (.im (.int (maxL ns))) else none := rfl
@[simp] theorem mMinB_ml (ds : List D) : mMinB [.ml ds] = (intsOf ds).bind fun ns => if ns ≠ [] then some (.im (.int (minL ns))) else none := rfl
@[simp] theorem mMaxB_br (ds : List D) : mMaxB [.br ds] = (intsOf ds).bind fun ns => if ns ≠ [] then some (.im (.int (maxL ns))) else none := rfl
@[simp] theorem mMinB_br (ds : List D) : mMinB [.br ds] = (intsOf ds).bind fun ns => if ns ≠ [] then some (.im (.int (minL ns))) else none := rfl
@[simp] theorem mMaxB_li (ds : List D) : mMaxB [.im (.list ds)] = (intsOf ds).bind fun ns => if ns ≠ [] then some (.im (.int (maxL ns))) else none := rfl
@[simp] theorem mMinB_li (ds : List D) : mMinB [.im (.list ds)] = (intsOf ds).bind fun ns => if ns ≠ [] then some (.im (.int (minL ns))) else none := rfl
@[simp] theorem mMaxB_t (ds : List D) : mMaxB [.im (.tuple ds)] = (intsOf ds).bind fun ns => if ns ≠ [] then some (.im (.int (maxL ns))) else none := rfl
@[simp] theorem mMinB_t (ds : List D) : mMinB [.im (.tuple ds)] = (intsOf ds).bind fun ns => if ns ≠ [] then some (.im (.int (minL ns))) else none := rfl
section
variable {α : Type} {a0 a1 a2 a3 a4 a5 a6 a7 a8 a9 : α} {r : List α}
@[simp] theorem atc5 : atI (a0 :: a1 :: a2 :: a3 :: a4 :: a5 :: r) 5 = some a5 := by rw [atI_pos _ (by decide)]; rfl
@[simp] theorem atc6 : atI (a0 :: a1 :: a2 :: a3 :: a4 :: a5 :: a6 :: r) 6 = some a6 := by rw [atI_pos _ (by decide)]; rfl
@[simp] theorem atc7 : atI (a0 :: a1 :: a2 :: a3 :: a4 :: a5 :: a6 :: a7 :: r) 7 = some a7 := by rw [atI_pos _ (by decide)]; rfl
@[simp] theorem atc8 : atI (a0 :: a1 :: a2 :: a3 :: a4 :: a5 :: a6 :: a7 :: a8 :: r) 8 = some a8 := by rw [atI_pos _ (by decide)]; rfl
@[simp] theorem atc9 : atI (a0 :: a1 :: a2 :: a3 :: a4 :: a5 :: a6 :: a7 :: a8 :: a9 :: r) 9 = some a9 := by rw [atI_pos _ (by decide)]; rfl
end
theorem at_last {α : Type} (xs : List α) (x : α) : atI (xs ++ [x]) (-1) = some x := by
  have h : ixN (xs ++ [x]).length (-1) = some xs.length := by
    unfold ixN
    rw [if_neg (by decide), if_pos (by simp; omega)]
    simp
    omega
  unfold atI
  rw [h]
  simp
theorem cut_init {α : Type} (xs : List α) (x : α) : cutG (xs ++ [x]) none (some (-1)) = xs := by
  have e : HT.sIx (xs ++ [x]).length (xs ++ [x]).length (some (-1)) = xs.length := by
    unfold HT.sIx
    simp
    omega
  unfold cutG
  rw [e]
  simp [HT.sIx]
theorem cutG_mem {α : Type} {xs : List α} {lo hi : Option Int} {x : α} (h : x ∈ cutG xs lo hi) : x ∈ xs := by
  unfold cutG at h
  exact List.mem_of_mem_drop (List.mem_of_mem_take h)
/-! ### comprehensions whose element may raise -/
section
variable {t : Tg} {c : En → Rs Bool} {f : En → Rs Sl} {δ : En}
def compRX (r : Rs (List D)) : Rs Sl := match r with
  | .ok ys => .ok (.ml ys)
  | .er x => .er x
  | .bad => .bad
@[simp] theorem compRX_ok (ys : List D) : compRX (.ok ys) = .ok (.ml ys) := rfl
@[simp] theorem compRX_er (x : Str) : compRX (.er x) = .er x := rfl
@[simp] theorem eCompX_def (it : En → Rs (List D)) (vs : List Nat) : eCompX it vs t c f δ = (it δ).bind fun ds => if ds.length ≤ 16777216 then compRX (compLX t c f (wipeE δ vs) ds) else .bad := by
  unfold eCompX compRX; rfl
theorem compLX_ok : ∀ (ds ys : List D), compL t c f δ ds = .ok ys → compLX t c f δ ds = .ok ys
  | [], ys, h => by cases h; rfl
  | d :: r, ys, h => by
    unfold compL at h
    unfold compLX
    cases e1 : t (.im d) δ with
    | none => rw [e1] at h; cases h
    | some δ1 =>
      rw [e1] at h
      simp only at h ⊢
      cases e2 : c δ1 with
      | ok b =>
        rw [e2] at h
        cases b with
        | true =>
          simp only at h ⊢
          cases e3 : f δ1 with
          | ok s =>
            rw [e3] at h
            cases s with
            | im y =>
              simp only at h ⊢
              cases e4 : compL t c f δ r with
              | ok zs =>
                rw [e4] at h
                rw [compLX_ok r zs e4]
                exact h
              | er x => rw [e4] at h; cases h
              | bad => rw [e4] at h; cases h
            | _ => cases h
          | er x => rw [e3] at h; cases h
          | bad => rw [e3] at h; cases h
        | false =>
          simp only at h ⊢
          exact compLX_ok r ys h
      | er x => rw [e2] at h; cases h
      | bad => rw [e2] at h; cases h
end
/-! ### more about loops -/
section
variable {t : Tg} {b : En → Out}
/-- a loop that goes on while p, and stops with Q at the first one that is not p -/
theorem forL_all {α : Type} (emb : α → D) (xs : List α) (J : En → Prop) (p : α → Prop) (Q : Out → Prop)
    (step : ∀ (x : α) (δ : En), x ∈ xs → J δ → ∃ δ1, t (.im (emb x)) δ = some δ1 ∧ Stp (b δ1) (fun δ' => p x ∧ J δ') (fun o => ¬ p x ∧ Q o)) {δ : En} (h0 : J δ) :
    ((∀ x ∈ xs, p x) ∧ ∃ δ', forL t b (xs.map emb) δ = .nx δ' ∧ J δ') ∨ ((¬ ∀ x ∈ xs, p x) ∧ Q (forL t b (xs.map emb) δ)) := by
  induction xs generalizing δ with
  | nil => exact .inl ⟨fun _ h => by simp at h, δ, rfl, h0⟩
  | cons x xs ih =>
    obtain ⟨δ1, h1, h2⟩ := step x δ (.head _) h0
    have go : ∀ δ', p x → J δ' → ((∀ y ∈ x :: xs, p y) ∧ ∃ δ'', forL t b (xs.map emb) δ' = .nx δ'' ∧ J δ'') ∨ ((¬ ∀ y ∈ x :: xs, p y) ∧ Q (forL t b (xs.map emb) δ')) := by
      intro δ' hp hJ
      rcases ih (fun x δ hx => step x δ (.tail _ hx)) hJ with ⟨a, c⟩ | ⟨a, c⟩
      · exact .inl ⟨fun y hy => by rcases List.mem_cons.mp hy with rfl | hy; exact hp; exact a y hy, c⟩
      · exact .inr ⟨fun k => a fun y hy => k y (.tail _ hy), c⟩
    rw [List.map_cons, forL_cons, h1, forS_some]
    cases e : b δ1 with
    | nx δ' => rw [e, stp_nx] at h2; exact go δ' h2.1 h2.2
    | ct δ' => rw [e, stp_ct] at h2; exact go δ' h2.1 h2.2
    | bk δ' => rw [e, stp_bk] at h2; exact .inr ⟨fun k => h2.1 (k x (.head _)), h2.2⟩
    | rt s => rw [e, stp_rt] at h2; exact .inr ⟨fun k => h2.1 (k x (.head _)), h2.2⟩
    | rm d δ' => rw [e, stp_rm] at h2; exact .inr ⟨fun k => h2.1 (k x (.head _)), h2.2⟩
    | er c δ' => rw [e, stp_er] at h2; exact .inr ⟨fun k => h2.1 (k x (.head _)), h2.2⟩
    | bad => rw [e] at h2; simp at h2
end
section
variable {t : Tg} {c : En → Rs Bool} {f : En → Rs Sl} {δ : En}
/-- a comprehension over a range, each item such that P -/
theorem compL_ex {α : Type} (emb : α → D) (P : Nat → α → Prop) {lo : Int} (n : Nat) (h : ∀ k, k < n → ∃ x, P k x ∧ ∃ δ1, t (I (lo + (k : Nat))) δ = some δ1 ∧ c δ1 = .ok true ∧ f δ1 = .ok (.im (emb x))) :
    ∃ xs : List α, compL t c f δ (rng lo n) = .ok (xs.map emb) ∧ xs.length = n ∧ ∀ k x, xs[k]? = some x → P k x := by
  cases n with
  | zero => exact ⟨[], rfl, rfl, fun k x e => by simp at e⟩
  | succ n =>
    obtain ⟨x0, _⟩ := h 0 (by omega)
    have hg : ∀ k, ∃ x, k < n + 1 → P k x ∧ ∃ δ1, t (I (lo + (k : Nat))) δ = some δ1 ∧ c δ1 = .ok true ∧ f δ1 = .ok (.im (emb x)) := fun k => by
      by_cases hk : k < n + 1
      · obtain ⟨x, hx⟩ := h k hk
        exact ⟨x, fun _ => hx⟩
      · exact ⟨x0, fun z => absurd z hk⟩
    refine ⟨(List.range (n + 1)).map fun k => (hg k).choose, ?_, by simp, fun k x e => ?_⟩
    · rw [List.map_map]
      exact compL_rng _ fun k hk => ((hg k).choose_spec hk).2
    · rw [List.getElem?_map] at e
      cases hk : (List.range (n + 1))[k]? with
      | none => rw [hk] at e; cases e
      | some j =>
        rw [hk] at e
        obtain ⟨h1, h2⟩ := List.getElem?_eq_some_iff.mp hk
        simp at h1 h2
        subst h2
        cases e
        exact ((hg k).choose_spec h1).1
end
section
variable {f g : En → Rs Sl} {fs : En → Rs (List Sl)} {δ : En}
@[simp] theorem imS_s (x : Str) (g : Str → Rs Sl) : imS (.im (.str x)) g = g x := rfl
@[simp] theorem eSplit_def : eSplit f g δ = (f δ).bind fun a => imS a fun x => (g δ).bind fun b => ofO (mSplit x b) := by
  unfold eSplit
  refine congrArg _ (funext fun a => ?_)
  cases a with
  | im d => cases d <;> rfl
  | _ => rfl
@[simp] theorem eSplitM_def : eSplitM f fs δ = (f δ).bind fun a => imS a fun x => (fs δ).bind fun b => ofO (mSplitM x b) := by
  unfold eSplitM
  refine congrArg _ (funext fun a => ?_)
  cases a with
  | im d => cases d <;> rfl
  | _ => rfl
def tabO : Option Str → Rs Sl
  | some y => .ok (.im (.str y))
  | none => .bad
@[simp] theorem tabO_some (y : Str) : tabO (some y) = .ok (.im (.str y)) := rfl
@[simp] theorem eTabIx_def (kvs : List (Str × Str)) : eTabIx kvs f δ = (f δ).bind fun s => imS s fun x => tabO (kvs.lookup x) := by
  unfold eTabIx
  refine congrArg _ (funext fun a => congrArg _ (funext fun x => ?_))
  cases kvs.lookup x <;> rfl
@[simp] theorem eTabIn_def (neg : Bool) (kvs : List (Str × Str)) : eTabIn neg kvs f δ = (f δ).bind fun s => imS s fun x => .ok (.im (.bool (xor neg (kvs.lookup x).isSome))) := rfl
theorem mSplit_ok {x z : Str} (h1 : (z.length == 0) = false) (h : x.length ≤ 1000000) : mSplit x (.im (.str z)) = some (.ml ((Txt.split x z).map PyData.str)) := by
  show (if (z.length == 0) = false ∧ x.length + 2 ≤ 16777216 then _ else none) = _
  rw [if_pos ⟨h1, by omega⟩]
theorem mSplitM_ok {x z : Str} {k : Int} (h1 : (z.length == 0) = false) (hk : 0 ≤ k ∧ k < 1000000) (h : x.length ≤ 1000000) : mSplitM x [.im (.str z), .im (.int k)] = some (.ml ((Txt.splitMax x z k).map PyData.str)) := by
  show (if (z.length == 0) = false ∧ (0 ≤ k ∧ k < 1000000) ∧ x.length + 2 ≤ 16777216 then _ else none) = _
  rw [if_pos ⟨h1, hk, by omega⟩]
@[simp] theorem mUpper_s {x : Str} (h : x.length ≤ 1000000) : mUpper (.im (.str x)) = some (.im (.str (Txt.upper x))) := by
  show (if x.length ≤ 1000000 then _ else none) = _
  rw [if_pos h]
@[simp] theorem mStrT_s (x : Str) : mStrT [.im (.str x)] = some (.im (.str x)) := rfl
@[simp] theorem mStrT_i {i : Int} (h : Sml i) : mStrT [.im (.int i)] = some (.im (.str (strI i))) := mStr_i h
theorem mSl_st {z : Str} {lo hi : Option Int} (h : z.length ≤ 1000000) : mSl (.im (.str z)) lo hi = some (.im (.str (cutS z lo hi))) := by
  show (if z.length ≤ 16777216 then _ else none) = _
  rw [if_pos (by omega)]
theorem mLen_st {x : Str} (h : x.length ≤ 1000000) : mLen [.im (.str x)] = some (.im (.int (x.length : Nat))) := by
  show (if x.length ≤ 16777216 then some x.length else none).map (fun (n : Nat) => Sl.im (.int (n : Int))) = _
  rw [if_pos (by omega)]; rfl
@[simp] theorem eRep1_def (y z : Str) : eRep1 f y z δ = (f δ).bind fun s => imS s fun x => if x.length + z.length ≤ 16777216 then .ok (.im (.str (rep1 x y z))) else .bad := rfl
@[simp] theorem eSIdx_def : eSIdx f g δ = (f δ).bind fun a => imS a fun x => (g δ).bind fun b => imS b fun y => sidxO (occ1 x y) := rfl
end
end DM

namespace DM
open PySem PySem.Spec PyProof.Rows DL
open L2 hiding nth
/-! ### bits, dicts -/
@[simp] theorem mBOr_ii (x y : Int) : mBOr (.im (.int x)) (.im (.int y)) = some (.im (.int (Builtin.bitOr x y))) := Eq.trans rfl rfl
@[simp] theorem mBAnd_ii (x y : Int) : mBAnd (.im (.int x)) (.im (.int y)) = some (.im (.int (Builtin.bitAnd x y))) := Eq.trans rfl rfl
@[simp] theorem mShl_ii (x y : Int) : mShl (.im (.int x)) (.im (.int y)) = if powOk x y = true then some (.im (.int (x * 2 ^ y.toNat))) else none := Eq.trans rfl rfl
@[simp] theorem mShr_ii (x y : Int) (h : 0 ≤ y) : mShr (.im (.int x)) (.im (.int y)) = some (.im (.int (x / 2 ^ y.toNat))) := by
  show (if decide (0 ≤ y) = true then some (Sl.im (.int (x / 2 ^ y.toNat))) else none) = _
  rw [if_pos (decide_eq_true h)]
@[simp] theorem mInv_i (x : Int) : mInv (.im (.int x)) = some (.im (.int (Builtin.bitNot x))) := Eq.trans rfl rfl
theorem powOk_one (n : Nat) (h : n ≤ 1000) : powOk 1 (n : Int) = true := by
  unfold powOk
  simp only [Bool.and_eq_true, decide_eq_true_eq]
  exact ⟨⟨by omega, smI_lt.mpr (by omega)⟩, smI_lt.mpr (by decide)⟩
def dgO (o : Option (Option Sl)) (f : List (Key × D) → Rs Sl) : Rs Sl := match o with
  | some (some (.dc kvs)) => f kvs
  | _ => .bad
@[simp] theorem dgO_dc (kvs : List (Key × D)) (f : List (Key × D) → Rs Sl) : dgO (some (some (.dc kvs))) f = f kvs := rfl
def kyO (kd : D) (f : Key → Rs Sl) : Rs Sl := match keyD kd with
  | some k => f k
  | none => .bad
@[simp] theorem kyO_int (i : Int) (f : Key → Rs Sl) : kyO (.int i) f = f (.inl i) := Eq.trans rfl rfl
@[simp] theorem imK_im (d : D) (g : D → Rs Sl) : imK (.im d) g = g d := rfl
@[simp] theorem eDGet2_def (i : Nat) (f g : En → Rs Sl) (δ : En) : eDGet2 i f g δ = dgO δ[i]? fun kvs => (f δ).bind fun s => imK s fun kd => kyO kd fun k => (g δ).bind fun t => imK t fun e => .ok (.im (getD' kvs k e)) := by
  unfold eDGet2 dgO kyO; rfl
@[simp] theorem eDisp1_def (f g : En → Rs Sl) (δ : En) : eDisp1 f g δ = (f δ).bind fun s => imK s fun kd => kyO kd fun k => (g δ).bind fun t => imK t fun e => .ok (.dc [(k, e)]) := by
  unfold eDisp1 kyO; rfl
@[simp] theorem eDNew_def (δ : En) : eDNew δ = .ok (.dc []) := rfl
@[simp] theorem imO_im (d : D) (δ : En) (g : D → Out) : imO (.ok (.im d)) δ g = g d := rfl
@[simp] theorem dcO_dc (kvs : List (Key × D)) (g : List (Key × D) → Out) : dcO (some (some (.dc kvs))) g = g kvs := rfl
@[simp] theorem sDPutM_def (i : Nat) (g f : En → Rs Sl) (δ : En) : sDPutM i g f δ = dcO δ[i]? fun kvs => imO (f δ) δ fun d => imO (g δ) δ fun kd => dcPut kvs i kd d δ := rfl
@[simp] theorem dcPut_int (kvs : List (Key × D)) (i : Nat) (k : Int) (d : D) (δ : En) : dcPut kvs i (.int k) d δ = if kvs.length < 16777216 then .nx (δ.set i (some (.dc (putD kvs (.inl k) d)))) else .bad := Eq.trans rfl rfl
def mvO (o : Option (Option Sl)) (i j : Nat) (δ : En) : Out := match o with
  | some (some (.dc kvs)) => if i = j then .bad else .nx ((δ.set i (some (.dc kvs))).set j none)
  | _ => .bad
@[simp] theorem mvO_dc (kvs : List (Key × D)) (i j : Nat) (δ : En) : mvO (some (some (.dc kvs))) i j δ = if i = j then .bad else .nx ((δ.set i (some (.dc kvs))).set j none) := Eq.trans rfl rfl
@[simp] theorem sMvD_def (i j : Nat) (δ : En) : sMvD i j δ = mvO δ[j]? i j δ := rfl
def itO (o : Option (Option Sl)) (i : Nat) (t : Tg) (b : En → Out) (δ : En) : Out := match o with
  | some (some (.dc kvs)) => noX (forL t b (kvs.map itD) (δ.set i none))
  | _ => .bad
@[simp] theorem itO_dc (kvs : List (Key × D)) (i : Nat) (t : Tg) (b : En → Out) (δ : En) : itO (some (some (.dc kvs))) i t b δ = noX (forL t b (kvs.map itD) (δ.set i none)) := Eq.trans rfl rfl
@[simp] theorem sForIt_def (i : Nat) (t : Tg) (b : En → Out) (δ : En) : sForIt i t b δ = itO δ[i]? i t b δ := rfl
@[simp] theorem noX_nx (δ : En) : noX (.nx δ) = .nx δ := rfl
@[simp] theorem slot_dc (kvs : List (Key × D)) : (Sl.dc kvs).slot = true := rfl
def tstRN (r : Rs Sl) : Rs Bool := r.bind fun a => match tstN a with
  | some b => .ok b
  | none => .bad
@[simp] theorem cTestN_def (f : En → Rs Sl) (δ : En) : cTestN f δ = tstRN (f δ) := rfl
@[simp] theorem tstRN_i (i : Int) : tstRN (.ok (.im (.int i))) = .ok (i != 0) := rfl
end DM

namespace DM
open PySem PySem.Spec PyProof.Rows DL
open L2 hiding nth
/-! ### objects -/
section
variable {δ : En} {i : Nat} {c n x : Str} {f g : En → Rs Sl} {o : List (Str × Fv)} {b : Bool}
@[simp] theorem fldO_ob (h : List (Str × Fv) → Rs Sl) : fldO (some (some (.ob b c o))) c h = h o := if_pos rfl
@[simp] theorem obT_ob (h : List (Str × Fv) → Out) : obT (some (some (.ob true c o))) c h = h o := if_pos rfl
@[simp] theorem eFld_def : eFld i c n δ = fldO δ[i]? c fun fs => fvS (fs.lookup n) := Eq.trans rfl rfl
@[simp] theorem fvS_im (d : D) : fvS (some (.im d)) = .ok (.im d) := rfl
@[simp] theorem fvS_ml (ds : List D) : fvS (some (.ml ds)) = .ok (.br ds) := rfl
@[simp] theorem eFDIn_def : eFDIn i c n f δ = (f δ).bind fun s => imK s fun d => fldO δ[i]? c fun fs => fvIn (fs.lookup n) d := rfl
@[simp] theorem fvIn_int (kvs : List (Key × D)) (k : Int) : fvIn (some (.dc kvs)) (.int k) = .ok (.im (.bool (hasD kvs (.inl k)))) := rfl
def fsetO (s : Sl) (o : List (Str × Fv)) (n : Str) (i : Nat) (c : Str) (δ : En) : Out := match fvOf s with
  | some fv => if o.length < 1000 then .nx (δ.set i (some (.ob true c (putFv n fv o)))) else .bad
  | none => .bad
def fsetR (r : Rs Sl) (i : Nat) (c n : Str) (δ : En) : Out := match r with
  | .ok s => obT δ[i]? c fun o => fsetO s o n i c δ
  | .er x => .er x δ
  | .bad => .bad
@[simp] theorem sFSet_def : sFSet i c n f δ = fsetR (f δ) i c n δ := by
  unfold sFSet fsetR fsetO
  cases f δ with
  | ok s => rfl
  | er x => rfl
  | bad => rfl
@[simp] theorem fsetR_ok (s : Sl) : fsetR (.ok s) i c n δ = obT δ[i]? c fun o => fsetO s o n i c δ := rfl
@[simp] theorem fsetO_im (d : D) : fsetO (.im d) o n i c δ = if o.length < 1000 then .nx (δ.set i (some (.ob true c (putFv n (.im d) o)))) else .bad := Eq.trans rfl rfl
@[simp] theorem fsetO_ml (ds : List D) : fsetO (.ml ds) o n i c δ = if o.length < 1000 then .nx (δ.set i (some (.ob true c (putFv n (.ml ds) o)))) else .bad := Eq.trans rfl rfl
@[simp] theorem fsetO_dc (kvs : List (Key × D)) : fsetO (.dc kvs) o n i c δ = if o.length < 1000 then .nx (δ.set i (some (.ob true c (putFv n (.dc kvs) o)))) else .bad := Eq.trans rfl rfl
def fdpX (l : Option Fv) (k : Option Key) (d : D) (o : List (Str × Fv)) (i : Nat) (c n : Str) (δ : En) : Out := match l, k with
  | some (.dc kvs), some k => if kvs.length < 16777216 then .nx (δ.set i (some (.ob true c (putFv n (.dc (putD kvs k d)) o)))) else .bad
  | _, _ => .bad
def fdpR (r : Rs Sl) (i : Nat) (c n : Str) (d : D) (δ : En) : Out := match r with
  | .ok (.im kd) => obT δ[i]? c fun o => fdpX (o.lookup n) (keyD kd) d o i c n δ
  | _ => .bad
@[simp] theorem sFDPut_def : sFDPut i c n g f δ = imO (f δ) δ fun d => fdpR (g δ) i c n d δ := rfl
@[simp] theorem fdpR_int (k : Int) (d : D) : fdpR (.ok (.im (.int k))) i c n d δ = obT δ[i]? c fun o => fdpX (o.lookup n) (some (.inl k)) d o i c n δ := rfl
@[simp] theorem fdpX_dc (kvs : List (Key × D)) (k : Key) (d : D) : fdpX (some (.dc kvs)) (some k) d o i c n δ = if kvs.length < 16777216 then .nx (δ.set i (some (.ob true c (putFv n (.dc (putD kvs k d)) o)))) else .bad := Eq.trans rfl rfl
def fsiX (j : Option Nat) (ds : List D) (d : D) (o : List (Str × Fv)) (i : Nat) (c n : Str) (δ : En) : Out := match j with
  | some j => .nx (δ.set i (some (.ob true c (putFv n (.ml (ds.set j d)) o))))
  | none => .bad
def fsiL (l : Option Fv) (k : Int) (d : D) (o : List (Str × Fv)) (i : Nat) (c n : Str) (δ : En) : Out := match l with
  | some (.ml ds) => fsiX (ixN ds.length k) ds d o i c n δ
  | _ => .bad
def fsiR (r : Rs Sl) (i : Nat) (c n : Str) (d : D) (δ : En) : Out := match r with
  | .ok (.im (.int k)) => obT δ[i]? c fun o => fsiL (o.lookup n) k d o i c n δ
  | _ => .bad
@[simp] theorem sFSetI_def : sFSetI i c n g f δ = imO (f δ) δ fun d => fsiR (g δ) i c n d δ := rfl
@[simp] theorem fsiR_int (k : Int) (d : D) : fsiR (.ok (.im (.int k))) i c n d δ = obT δ[i]? c fun o => fsiL (o.lookup n) k d o i c n δ := rfl
@[simp] theorem fsiL_ml (ds : List D) (k : Int) (d : D) : fsiL (some (.ml ds)) k d o i c n δ = fsiX (ixN ds.length k) ds d o i c n δ := rfl
@[simp] theorem fsiX_some (j : Nat) (ds : List D) (d : D) : fsiX (some j) ds d o i c n δ = .nx (δ.set i (some (.ob true c (putFv n (.ml (ds.set j d)) o)))) := rfl
def retM (r : Rs Sl) (δ : En) : Out := match r with
  | .ok (.im d) => .rm d δ
  | .er x => .er x δ
  | _ => .bad
@[simp] theorem sRetM_def : sRetM f δ = retM (f δ) δ := rfl
@[simp] theorem retM_im (d : D) : retM (.ok (.im d)) δ = .rm d δ := rfl
@[simp] theorem retM_er (x : Str) : retM (.er x) δ = .er x δ := rfl
def metB (r : Rs (List Sl)) (o : Option (Option Sl)) (c x : Str) (m : List Sl → Rs Sl) : Rs Sl := match r with
  | .ok as => fldO o c fun o => if as.all froz = true ∧ o.lookup x = none then okR (m (.ob false c o :: as)) else .bad
  | _ => .bad
@[simp] theorem eMethB_def (m : List Sl → Rs Sl) (fs : En → Rs (List Sl)) : eMethB i c x m fs δ = metB (fs δ) δ[i]? c x m := rfl
@[simp] theorem metB_ok (as : List Sl) (m : List Sl → Rs Sl) : metB (.ok as) (some (some (.ob b c o))) c x m = if as.all froz = true ∧ o.lookup x = none then okR (m (.ob false c o :: as)) else .bad := if_pos rfl
@[simp] theorem okR_ok (s : Sl) : okR (.ok s) = .ok s := rfl
def ifOX (r : RsO) (neg : Bool) (i : Nat) (c : Str) (a b : En → Out) (δ : En) : Out := match r with
  | .ok (.bool k) o' => if (k != neg) = true then a (δ.set i (some (.ob true c o'))) else b (δ.set i (some (.ob true c o')))
  | _ => .bad
@[simp] theorem sIfO_def (neg : Bool) (m : List (Str × Fv) → List Sl → RsO) (fs : En → Rs (List Sl)) (a b : En → Out) : sIfO neg i c x m fs a b δ = neO (fs δ) fun as => obT δ[i]? c fun o => if o.lookup x = none then ifOX (m o as) neg i c a b δ else .bad := rfl
@[simp] theorem neO_ok (as : List Sl) (h : List Sl → Out) : neO (.ok as) h = if as.all froz = true then h as else .bad := rfl
@[simp] theorem ifOX_ok (k neg : Bool) (o' : List (Str × Fv)) (a b : En → Out) : ifOX (.ok (.bool k) o') neg i c a b δ = if (k != neg) = true then a (δ.set i (some (.ob true c o'))) else b (δ.set i (some (.ob true c o'))) := rfl
def endR (c : Str) (r : Out) : RsO := match r with
  | .nx δ => endO c δ[0]? fun fs' => .ok .none fs'
  | .rm d δ => endO c δ[0]? fun fs' => .ok d fs'
  | .er x δ => endO c δ[0]? fun fs' => .er x fs'
  | _ => .bad
@[simp] theorem endO_ob (h : List (Str × Fv) → RsO) : endO c (some (some (.ob true c o))) h = h o := if_pos rfl
theorem fnMO_def (k : Nat) (m : En → Out) (fs : List (Str × Fv)) (as : List Sl) : fnMO k c m fs as = endR c (m (initE k (.ob true c fs :: as))) := rfl
@[simp] theorem endR_nx (r : List (Option Sl)) : endR c (.nx (some (.ob true c o) :: r)) = .ok .none o := if_pos rfl
@[simp] theorem endR_rm (d : D) (r : List (Option Sl)) : endR c (.rm d (some (.ob true c o) :: r)) = .ok d o := if_pos rfl
@[simp] theorem endR_er (y : Str) (r : List (Option Sl)) : endR c (.er y (some (.ob true c o) :: r)) = .er y o := if_pos rfl
@[simp] theorem eTmpO_def (mi m : List (Str × Fv) → List Sl → RsO) (fs : En → Rs (List Sl)) : eTmpO mi x m fs δ = (fs δ).bind fun as => match newO mi as with
  | some o => if o.lookup x = none then resO (m o []) else .bad
  | none => .bad := rfl
@[simp] theorem resO_ok (d : D) : resO (.ok d o) = .ok (.im d) := rfl
@[simp] theorem enH_br (ds : List D) : enH [.br ds] = some (enumD 0 ds) := rfl
theorem newO_ok {mi : List (Str × Fv) → List Sl → RsO} {as : List Sl} (h : mi [] as = .ok .none o) (hf : as.all froz = true) : newO mi as = some o := by
  unfold newO
  rw [if_pos hf, h]
end
end DM

namespace DM
open PySem PySem.Spec PyProof.Rows DL
open L2 hiding nth
/-! ### dicts whose keys are walked, objects made and used -/
section
variable {δ : En} {i j : Nat} {c n x : Str} {f g : En → Rs Sl} {o : List (Str × Fv)} {b : Bool} {t : Tg}
@[simp] theorem noR_im (d : D) : noR (.ok (.im d)) = .ok (.im d) := rfl
@[simp] theorem noR_ml (ds : List D) : noR (.ok (.ml ds)) = .ok (.ml ds) := rfl
@[simp] theorem eCompK_def (vs : List Nat) (p : En → Rs Bool) : eCompK i vs t p f δ = dgO δ[i]? fun kvs => noR (eComp (fun _ => .ok (keysD kvs)) vs t p f (δ.set i none)) := Eq.trans rfl rfl
def revR (r : Rs Sl) : Rs Sl := r.bind fun s => match lstOf s with
  | some ds => .ok (.ml ds.reverse)
  | none => .bad
@[simp] theorem eRevL_def : eRevL f δ = revR (f δ) := rfl
@[simp] theorem revR_im (ds : List D) : revR (.ok (.im (.list ds))) = .ok (.ml ds.reverse) := rfl
@[simp] theorem revR_ml (ds : List D) : revR (.ok (.ml ds)) = .ok (.ml ds.reverse) := rfl
def ffk (l : Option Fv) (i : Nat) (c n : Str) (t : Tg) (s : En → Out) (o : List (Str × Fv)) (δ : En) : Out := match l with
  | some (.dc kvs) => noX (forL t s (keysD kvs) (δ.set i (some (.ob true c (putFv n .un o)))))
  | _ => .bad
@[simp] theorem sForFK_def (s : En → Out) : sForFK i c n t s δ = obT δ[i]? c fun o => ffk (o.lookup n) i c n t s o δ := rfl
@[simp] theorem ffk_dc (kvs : List (Key × D)) (s : En → Out) : ffk (some (.dc kvs)) i c n t s o δ = noX (forL t s (keysD kvs) (δ.set i (some (.ob true c (putFv n .un o))))) := Eq.trans rfl rfl
def asgOX (r : RsO) (j i : Nat) (c : Str) (δ : En) : Out := match r with
  | .ok d o' => .nx ((δ.set i (some (.ob true c o'))).set j (some (.im d)))
  | _ => .bad
@[simp] theorem sAsgO_def (m : List (Str × Fv) → List Sl → RsO) : sAsgO j i c x m δ = obT δ[i]? c fun o => if o.lookup x = none then asgOX (m o []) j i c δ else .bad := rfl
@[simp] theorem asgOX_ok (d : D) (o' : List (Str × Fv)) : asgOX (.ok d o') j i c δ = .nx ((δ.set i (some (.ob true c o'))).set j (some (.im d))) := rfl
def newOR (c : Str) (r : Option (List (Str × Fv))) : Rs Sl := match r with
  | some o => .ok (.ob true c o)
  | none => .bad
@[simp] theorem eNewO_def (mi : List (Str × Fv) → List Sl → RsO) (fs : En → Rs (List Sl)) : eNewO c mi fs δ = (fs δ).bind fun as => newOR c (newO mi as) := rfl
@[simp] theorem newOR_some : newOR c (some o) = .ok (.ob true c o) := rfl
@[simp] theorem slot_ob : (Sl.ob true c o).slot = true := rfl
@[simp] theorem keyV_inl (k : Int) : keyV (.inl k) = .int k := rfl
end
end DM

namespace DM
open PySem PySem.Spec PyProof.Rows DL
open L2 hiding nth
/-! ### objects that change, and may raise -/
section
variable {δ : En} {i j : Nat} {c n x : Str} {f g : En → Rs Sl} {o : List (Str × Fv)} {b : Bool}
def metE (r : Rs (List Sl)) (o : Option (Option Sl)) (c x : Str) (m : List Sl → Rs Sl) : Rs Sl := match r with
  | .ok as => fldO o c fun o => if as.all froz = true ∧ o.lookup x = none then m (.ob false c o :: as) else .bad
  | _ => .bad
@[simp] theorem eMethE_def (m : List Sl → Rs Sl) (fs : En → Rs (List Sl)) : eMethE i c x m fs δ = metE (fs δ) δ[i]? c x m := rfl
@[simp] theorem metE_ok (as : List Sl) (m : List Sl → Rs Sl) : metE (.ok as) (some (some (.ob b c o))) c x m = if as.all froz = true ∧ o.lookup x = none then m (.ob false c o :: as) else .bad := if_pos rfl
@[simp] theorem retOb_ok (d : D) : retOb (.ok d o) i c δ = .rm d (δ.set i (some (.ob true c o))) := rfl
@[simp] theorem retOb_er (e : Str) : retOb (.er e o) i c δ = .er e (δ.set i (some (.ob true c o))) := rfl
@[simp] theorem sRetMO_def (m : List (Str × Fv) → List Sl → RsO) (fs : En → Rs (List Sl)) : sRetMO i c x m fs δ = neO (fs δ) fun as => obT δ[i]? c fun o => if o.lookup x = none then retOb (m o as) i c δ else .bad := rfl
@[simp] theorem eNewO0_def (mi : List (Str × Fv) → List Sl → RsO) : eNewO0 c mi δ = newOR c (newO mi []) := rfl
@[simp] theorem faugX_im (d : D) : faugX (some (.im d)) i c n o δ = if o.length < 1000 then .nx (δ.set i (some (.ob true c (putFv n (.im d) o)))) else .bad := Eq.trans rfl rfl
def faugR (r : Rs Sl) (d0 : D) (m : Sl → Sl → Option Sl) (i : Nat) (c n : Str) (o : List (Str × Fv)) (δ : En) : Out := match r with
  | .ok (.im d) => faugX (m (.im d0) (.im d)) i c n o δ
  | .er x => .er x δ
  | _ => .bad
@[simp] theorem faugR_ok (d0 d : D) (m : Sl → Sl → Option Sl) : faugR (.ok (.im d)) d0 m i c n o δ = faugX (m (.im d0) (.im d)) i c n o δ := rfl
@[simp] theorem faugL_im (d0 : D) (m : Sl → Sl → Option Sl) : faugL (some (.im d0)) m i c n f o δ = faugR (f δ) d0 m i c n o δ := rfl
@[simp] theorem sFAug_def (m : Sl → Sl → Option Sl) : sFAug m i c n f δ = obT δ[i]? c fun fs => faugL (fs.lookup n) m i c n f fs δ := rfl
def nefK (r : Option Sl) (a b : En → Out) (δ : En) : Out := match r with
  | some (.im (.bool k)) => if k = true then a δ else b δ
  | _ => .bad
@[simp] theorem nefK_b (k : Bool) (a b : En → Out) : nefK (some (.im (.bool k))) a b δ = if k = true then a δ else b δ := rfl
@[simp] theorem neFX_ok (d : D) (s : Sl) (a b : En → Out) : neFX d (.ok s) a b δ = nefK (mNe (.im d) s) a b δ := rfl
@[simp] theorem neFO_ok (d : D) (a b : En → Out) : neFO (.ok d o) i c g a b δ = neFX d (g (δ.set i (some (.ob true c o)))) a b (δ.set i (some (.ob true c o))) := rfl
@[simp] theorem sIfNeF_def (m : List (Str × Fv) → List Sl → RsO) (fs : En → Rs (List Sl)) (a b : En → Out) : sIfNeF i c m fs g a b δ = neO (fs δ) fun as => obT δ[i]? c fun o => neFO (m o as) i c g a b δ := rfl
@[simp] theorem offX_rm (d : D) : offX i (.rm d δ) = .rm d (δ.set i none) := rfl
@[simp] theorem tryO_rm (d : D) (m : Str → En → Option Out) : tryO (.rm d δ) m = .rm d δ := rfl
end
end DM

namespace WL
open PySem PySem.Spec PyProof.Rows
open L2 hiding nth
open DL DM
section
/-! ### the text -/
def topS (i : Nat) : Stmt := PySem.Challenge.pw_cloak_k56_registers.main.body.getD i (.Pass ⟨0, 0, 0, 0⟩)
def exs : List Str := ["CloakError", "NotAllowed", "Down"]
abbrev st_check_epoch : Stmt := topS 6
abbrev N_check_epoch : List Str := ["epoch"]
theorem sc_check_epoch : FnScope N_check_epoch ["epoch"] (defScope st_check_epoch) := ⟨rfl, rfl, rfl, by decide +kernel, rfl, by decide +kernel, by decide +kernel⟩
abbrev st__law_row : Stmt := topS 9
abbrev N__law_row : List Str := ["_law_script", "_law_row_here", "_law_k", "_law_cell", "_law_turn", "_law_mixed"]
theorem sc__law_row : FnScope N__law_row ["_law_script"] (defScope st__law_row) := ⟨rfl, rfl, rfl, by decide +kernel, rfl, by decide +kernel, by decide +kernel⟩
abbrev st__law_at : Stmt := topS 10
abbrev N__law_at : List Str := ["_law_row_here", "_law_at_here"]
theorem sc__law_at : FnScope N__law_at ["_law_row_here", "_law_at_here"] (defScope st__law_at) := ⟨rfl, rfl, rfl, by decide +kernel, rfl, by decide +kernel, by decide +kernel⟩
abbrev st_Register___init__ : Stmt := clsS (topS 7) 0
abbrev N_Register___init__ : List Str := ["self", "_"]
theorem sc_Register___init__ : FnScope N_Register___init__ ["self"] (defScope st_Register___init__) := ⟨rfl, rfl, rfl, by decide +kernel, rfl, by decide +kernel, by decide +kernel⟩
abbrev st_Register_supply : Stmt := clsS (topS 7) 3
abbrev N_Register_supply : List Str := ["self", "raises"]
theorem sc_Register_supply : FnScope N_Register_supply ["self", "raises"] (defScope st_Register_supply) := ⟨rfl, rfl, rfl, by decide +kernel, rfl, by decide +kernel, by decide +kernel⟩
abbrev st_Register_count : Stmt := clsS (topS 7) 1
abbrev N_Register_count : List Str := ["self", "epoch"]
theorem sc_Register_count : FnScope N_Register_count ["self", "epoch"] (defScope st_Register_count) := ⟨rfl, rfl, rfl, by decide +kernel, rfl, by decide +kernel, by decide +kernel⟩
abbrev st_Register_raise_to : Stmt := clsS (topS 7) 2
abbrev N_Register_raise_to : List Str := ["self", "epoch", "count"]
theorem sc_Register_raise_to : FnScope N_Register_raise_to ["self", "epoch", "count"] (defScope st_Register_raise_to) := ⟨rfl, rfl, rfl, by decide +kernel, rfl, by decide +kernel, by decide +kernel⟩
abbrev st__law_told : Stmt := topS 11
abbrev N__law_told : List Str := ["_law_counter", "_law_kind", "_law_epoch", "_law_number", "why"]
theorem sc__law_told : FnScope N__law_told ["_law_counter", "_law_kind", "_law_epoch", "_law_number"] (defScope st__law_told) := ⟨rfl, rfl, rfl, by decide +kernel, rfl, by decide +kernel, by decide +kernel⟩
abbrev st_law : Stmt := topS 12
abbrev N_law : List Str := ["_law_script", "_law_row_here", "_law_counter", "_law_other", "_law_counts", "_law_power", "_law_k", "_law_number", "_law_x", "_law_epoch", "_law_raises", "_law_due", "_law_count", "_law_one"]
theorem sc_law : FnScope N_law ["_law_script"] (defScope st_law) := ⟨rfl, rfl, rfl, by decide +kernel, rfl, by decide +kernel, by decide +kernel⟩
/-! ### the head -/
def fn : List He.DefD := [⟨("check_epoch", none), "check_epoch", "check_epoch", defArgs st_check_epoch, defBody st_check_epoch, defScope st_check_epoch, [], []⟩, ⟨("_law_row", none), "_law_row", "_law_row", defArgs st__law_row, defBody st__law_row, defScope st__law_row, [], []⟩, ⟨("_law_at", none), "_law_at", "_law_at", defArgs st__law_at, defBody st__law_at, defScope st__law_at, [], []⟩, ⟨("Register", some "__init__"), "__init__", "Register.__init__", defArgs st_Register___init__, defBody st_Register___init__, defScope st_Register___init__, [], []⟩, ⟨("Register", some "supply"), "supply", "Register.supply", defArgs st_Register_supply, defBody st_Register_supply, defScope st_Register_supply, [], []⟩, ⟨("Register", some "count"), "count", "Register.count", defArgs st_Register_count, defBody st_Register_count, defScope st_Register_count, [], []⟩, ⟨("Register", some "raise_to"), "raise_to", "Register.raise_to", defArgs st_Register_raise_to, defBody st_Register_raise_to, defScope st_Register_raise_to, [], []⟩, ⟨("_law_told", none), "_law_told", "_law_told", defArgs st__law_told, defBody st__law_told, defScope st__law_told, [], []⟩, ⟨("law", none), "law", "law", defArgs st_law, defBody st_law, defScope st_law, [], []⟩]
def fa0 : List He.Fa := [.int "EPOCHS" 3, .free "abs", .free "int", .free "isinstance", .free "len", .free "range", .glo "check_epoch", .glo "_law_row", .glo "_law_at", .glo "_law_told", .glo "law", .cls "Register", .noat "Register" "_counts", .noat "Register" "_power", .meth "Register" "__init__", .meth "Register" "count", .meth "Register" "raise_to", .meth "Register" "supply", .glo "Register", .mkr "Register"]
def fa : List He.Fa := fa0 ++ exFa exs
def xb (K : PySem.W.Frag) : Bool := exs.all fun c => excB K c
abbrev Rw : PySem.W.OpenRow := PySem.W.OpenLaw.row PySem.Challenge.rw_cloak_k56_registers
abbrev hk : PySem.W.Hook := hookX 4 fa fn xb
def ob (s : PySem.W.SharedT) : AlX := obsXG 4 fa fn xb (HandSHeadRun.getT s)
theorem ob_eq (s : PySem.W.SharedT) : ob s = hk.obs s.abs := obsXG_eq (HandSHeadRun.getT_eq s)
def loose0 : List Str := ["CloakError", "NotAllowed", "Down", "EPOCHS", "check_epoch", "Register", "_law_row", "_law_at", "_law_told"]
def loose : List Str := loose0
theorem run (w : World) : HandSHeadRun.RunEq Rw (PySem.W.view Rw.prog [12]) hk ob 3000 loose w := by
  intro os
  kernel_rfl
/-- what the top has written -/
structure Txt (K : PySem.W.Frag) (mg : Str → Option Value) : Prop where
  ex : ExF K exs
  e_CloakError : ExK K mg "CloakError"
  e_NotAllowed : ExK K mg "NotAllowed"
  e_Down : ExK K mg "Down"
  i_EPOCHS : ∃ t, mg "EPOCHS" = some (.int 3 t)
  z_abs : mg "abs" = none
  z_int : mg "int" = none
  z_isinstance : mg "isinstance" = none
  z_len : mg "len" = none
  z_range : mg "range" = none
  c_Register : ClsK K "Register" ["_counts", "_power"] ["__init__", "count", "raise_to", "supply"]
  k_Register : MkC K mg "Register"
  d_check_epoch : ∃ fd, FnD K "check_epoch" st_check_epoch (He.ga K "check_epoch") fd
  g_check_epoch : mg "check_epoch" = some (.ref (He.ga K "check_epoch"))
  d__law_row : ∃ fd, FnD K "_law_row" st__law_row (He.ga K "_law_row") fd
  g__law_row : mg "_law_row" = some (.ref (He.ga K "_law_row"))
  d__law_at : ∃ fd, FnD K "_law_at" st__law_at (He.ga K "_law_at") fd
  g__law_at : mg "_law_at" = some (.ref (He.ga K "_law_at"))
  d_Register___init__ : ∃ fd, FnM K "Register" "__init__" "Register.__init__" st_Register___init__ fd
  d_Register_supply : ∃ fd, FnM K "Register" "supply" "Register.supply" st_Register_supply fd
  d_Register_count : ∃ fd, FnM K "Register" "count" "Register.count" st_Register_count fd
  d_Register_raise_to : ∃ fd, FnM K "Register" "raise_to" "Register.raise_to" st_Register_raise_to fd
  d__law_told : ∃ fd, FnD K "_law_told" st__law_told (He.ga K "_law_told") fd
  g__law_told : mg "_law_told" = some (.ref (He.ga K "_law_told"))
  d_law : ∃ fd, FnD K "law" st_law (He.ga K "law") fd
  g_law : mg "law" = some (.ref (He.ga K "law"))
/-! ### the mirrors -/
def m_check_epoch : En → Out :=
  (sIf (cOr (cTest (eOp mLt (eVar 0) (eC (.int 0)))) (cTest (eOp mGe (eVar 0) (eC (.int 3))))) (sRaise "NotAllowed") sNext)
def f_check_epoch : List Sl → Rs Sl := fnM 1 m_check_epoch
def m__law_row : En → Out :=
  (sSeq (sAsg (eLst eNil) (gN 1))
  (sSeq (sFor (iCall rg1 (eCons (eCB mLen (eCons (eVar 0) eNil)) eNil)) (gN 2) (sSeq (sAsg (eIm (eCB mAbs (eCons (eCB mInt1 (eCons (eOp mIx (eVar 0) (eVar 2)) eNil)) eNil))) (gN 3))
  (sIf (cTest (eOp mGe (eVar 3) (eOp mPow (eC (.int 10)) (eC (.int 18))))) (sFor (iCall rg1 (eCons (eC (.int 40)) eNil)) (gN 4) (sIf (cTest (eOp mGt (eVar 3) (eC (.int 0)))) (sSeq (sAppend 1 (eIm (eOp mMod (eCB mInt1 (eCons (eVar 3) eNil)) (eC (.int 1009)))))
  (sAsg (eIm (eOp mFdiv (eVar 3) (eC (.int 1009)))) (gN 3))) sNext)) (sSeq (sAsg (eIm (eOp mMod (eCB mInt1 (eCons (eOp mAdd (eOp mAdd (eOp mMul (eVar 3) (eC (.int 48271))) (eOp mMul (eVar 2) (eC (.int 69621)))) (eC (.int 12345))) eNil)) (eC (.int 2147483647)))) (gN 5))
  (sFor (iCall rg1 (eCons (eC (.int 6)) eNil)) (gN 4) (sSeq (sAsg (eIm (eOp mMod (eCB mInt1 (eCons (eOp mAdd (eOp mAdd (eOp mMul (eVar 5) (eC (.int 16807))) (eOp mMul (eC (.int 11)) (eVar 4))) (eC (.int 1))) eNil)) (eC (.int 2147483647)))) (gN 5))
  (sAppend 1 (eIm (eOp mMod (eCB mInt1 (eCons (eOp mFdiv (eVar 5) (eC (.int 7))) eNil)) (eC (.int 1009)))))))))))
  (sRetV 1)))
def f__law_row : List Sl → Rs Sl := fnM 6 m__law_row
def m__law_at : En → Out :=
  (sSeq (sIf (cTest (eChain mLe mLt (eC (.int 0)) (eVar 1) (eCB mLen (eCons (eVar 0) eNil)))) (sRet (eOp mIx (eVar 0) (eVar 1))) sNext)
  (sRet (eC (.int 0))))
def f__law_at : List Sl → Rs Sl := fnM 2 m__law_at
def m_Register___init__ : En → Out :=
  (sSeq (sFSet 0 "Register" "_counts" (eComp (iCall rg1 (eCons (eC (.int 3)) eNil)) [1] (gN 1) cYes (eC (.int 0))))
  (sFSet 0 "Register" "_power" (eUn mNeg (eC (.int 1)))))
def f_Register___init__ : List (Str × Fv) → List Sl → RsO := fnMO 2 "Register" m_Register___init__
def m_Register_supply : En → Out :=
  (sSeq (sIf (cTest (eOp mLt (eVar 1) (eUn mNeg (eC (.int 1))))) (sRaise "NotAllowed") sNext)
  (sFSet 0 "Register" "_power" (eVar 1)))
def f_Register_supply : List (Str × Fv) → List Sl → RsO := fnMO 2 "Register" m_Register_supply
def m_Register_count : En → Out :=
  (sSeq (sExpr (eCall f_check_epoch (eCons (eVar 1) eNil)))
  (sRet (eOp mIx (eFld 0 "Register" "_counts") (eVar 1))))
def f_Register_count : List Sl → Rs Sl := fnM 2 m_Register_count
def m_Register_raise_to : En → Out :=
  (sSeq (sExpr (eCall f_check_epoch (eCons (eVar 1) eNil)))
  (sSeq (sIf (cTest (eOp mLe (eVar 2) (eOp mIx (eFld 0 "Register" "_counts") (eVar 1)))) (sRaise "NotAllowed") sNext)
  (sSeq (sIf (cTest (eOp mEq (eFld 0 "Register" "_power") (eC (.int 0)))) (sRaise "Down") sNext)
  (sSeq (sIf (cTest (eOp mGt (eFld 0 "Register" "_power") (eC (.int 0)))) (sFAug mSub 0 "Register" "_power" (eC (.int 1))) sNext)
  (sFSetI 0 "Register" "_counts" (eVar 1) (eVar 2))))))
def f_Register_raise_to : List (Str × Fv) → List Sl → RsO := fnMO 3 "Register" m_Register_raise_to
def m__law_told : En → Out :=
  (sTry (sSeq (sIf (cTest (eOp mEq (eVar 1) (eC (.str "raise")))) (sRetMO 0 "Register" "raise_to" f_Register_raise_to (eCons (eVar 2) (eCons (eVar 3) eNil))) sNext)
  (sSeq (sIf (cTest (eOp mEq (eVar 1) (eC (.str "supply")))) (sRetMO 0 "Register" "supply" f_Register_supply (eCons (eVar 3) eNil)) sNext)
  (sRetM (eIm (eMethE 0 "Register" "count" f_Register_count (eCons (eVar 2) eNil)))))) (hAs exs 4 "NotAllowed" (sRetM (eIm (eOp mIx (eLst (eCons (eC (.str "other")) (eCons (eC (.str "not allowed")) eNil))) (eCB mInt1 (eCons (eAnd (eIsE exs 4 "CloakError") (eNot (eIsE exs 4 "Down"))) eNil))))) (hAs exs 4 "Down" (sRetM (eIm (eOp mIx (eLst (eCons (eC (.str "other")) (eCons (eC (.str "down")) eNil))) (eCB mInt1 (eCons (eAnd (eIsE exs 4 "CloakError") (eNot (eIsE exs 4 "NotAllowed"))) eNil))))) hNil)))
def f__law_told : List (Str × Fv) → List Sl → RsO := fnMO 5 "Register" m__law_told
def m_law : En → Out :=
  (sSeq (sAsg (eIm (eCall f__law_row (eCons (eVar 0) eNil))) (gN 1))
  (sSeq (sAsg (eNewO0 "Register" f_Register___init__) (gN 2))
  (sSeq (sAsg (eNewO0 "Register" f_Register___init__) (gN 3))
  (sSeq (sAsg (eLst (eCons (eC (.int 0)) (eCons (eC (.int 0)) (eCons (eC (.int 0)) eNil)))) (gN 4))
  (sSeq (sAsg (eUn mNeg (eC (.int 1))) (gN 5))
  (sSeq (sFor (iCall rg1 (eCons (eOp mMod (eCB mInt1 (eCons (eCall f__law_at (eCons (eVar 1) (eCons (eC (.int 0)) eNil))) eNil)) (eC (.int 26))) eNil)) (gN 6) (sSeq (sAsg (eIm (eCB mInt1 (eCons (eCall f__law_at (eCons (eVar 1) (eCons (eIm (eOp mAdd (eC (.int 1)) (eOp mMul (eC (.int 2)) (eVar 6)))) eNil))) eNil))) (gN 7))
  (sSeq (sAsg (eIm (eCB mInt1 (eCons (eCall f__law_at (eCons (eVar 1) (eCons (eIm (eOp mAdd (eC (.int 2)) (eOp mMul (eC (.int 2)) (eVar 6)))) eNil))) eNil))) (gN 8))
  (sSeq (sAsg (eIm (eOp mIx (eLst (eCons (eC (.int 0)) (eCons (eC (.int 1)) (eCons (eC (.int 2)) (eCons (eC (.int 0)) (eCons (eC (.int 1)) (eCons (eUn mNeg (eC (.int 1))) (eCons (eC (.int 3)) eNil)))))))) (eOp mMod (eVar 8) (eC (.int 7))))) (gN 9))
  (sSeq (sIf (cTest (eOp mEq (eOp mMod (eVar 7) (eC (.int 5))) (eC (.int 0)))) (sSeq (sAsg (eIm (eOp mIx (eLst (eCons (eC (.int 0)) (eCons (eC (.int 1)) (eCons (eC (.int 2)) (eCons (eUn mNeg (eC (.int 1))) (eCons (eUn mNeg (eC (.int 2))) eNil)))))) (eOp mMod (eOp mFdiv (eVar 8) (eC (.int 7))) (eC (.int 5))))) (gN 10))
  (sSeq (sAsg (eC .none) (gN 11))
  (sSeq (sIf (cTest (eOp mLt (eVar 10) (eUn mNeg (eC (.int 1))))) (sAsg (eC (.str "not allowed")) (gN 11)) (sAsg (eVar 10) (gN 5)))
  (sIfNeF 2 "Register" f__law_told (eCons (eC (.str "supply")) (eCons (eC (.int 0)) (eCons (eVar 10) eNil))) (eVar 11) (sRet (eC (.bool false))) sNext)))) (sSeq (sAsg (eC .none) (gN 11))
  (sSeq (sAsg (eIm (eOp mMod (eOp mFdiv (eVar 8) (eC (.int 7))) (eC (.int 9)))) (gN 12))
  (sSeq (sIf (cOr (cNot (cTest (eChain mLe mLe (eC (.int 0)) (eVar 9) (eC (.int 2))))) (cTest (eOp mLe (eVar 12) (eOp mIx (eVar 4) (eVar 9))))) (sAsg (eC (.str "not allowed")) (gN 11)) (sIf (cTest (eOp mEq (eVar 5) (eC (.int 0)))) (sAsg (eC (.str "down")) (gN 11)) (sSeq (sSetI 4 (eVar 9) (eVar 12))
  (sAsg (eIm (eOp mSub (eVar 5) (eCB mInt1 (eCons (eOp mGt (eVar 5) (eC (.int 0))) eNil)))) (gN 5)))))
  (sIfNeF 2 "Register" f__law_told (eCons (eC (.str "raise")) (eCons (eVar 9) (eCons (eVar 12) eNil))) (eVar 11) (sRet (eC (.bool false))) sNext)))))
  (sSeq (sFor (iCall rg1 (eCons (eC (.int 3)) eNil)) (gN 13) (sIf (cOr (cTest (eOp mNe (eMethE 2 "Register" "count" f_Register_count (eCons (eVar 13) eNil)) (eOp mIx (eVar 4) (eVar 13)))) (cTest (eOp mNe (eMethE 3 "Register" "count" f_Register_count (eCons (eVar 13) eNil)) (eC (.int 0))))) (sRet (eC (.bool false))) sNext))
  (sIfNeF 2 "Register" f__law_told (eCons (eC (.str "count")) (eCons (eIm (eOp mIx (eLst (eCons (eUn mNeg (eC (.int 1))) (eCons (eC (.int 3)) eNil))) (eOp mMod (eCB mInt1 (eCons (eVar 7) eNil)) (eC (.int 2))))) (eCons (eC (.int 0)) eNil))) (eC (.str "not allowed")) (sRet (eC (.bool false))) sNext)))))))
  (sRet (eOp mEq (eC (.int 3)) (eC (.int 3))))))))))
def f_law : List Sl → Rs Sl := fnM 14 m_law
section
variable {P : Program} {w : World} {K : PySem.W.Frag} {mg : Str → Option Value} {base : Heap}
set_option maxHeartbeats 4000000 in
theorem c_check_epoch (G : Txt K mg) : Cal P w K mg base "check_epoch" ["epoch"] 1 1 f_check_epoch := by
  obtain ⟨fd, F⟩ := G.d_check_epoch
  have hb : Binds K fd ["epoch"] [] := by
    apply F.bindsN
    intro _ _ _ _ _ _ us hl
    match us, hl with
    | [_], _ => kernel_rfl
  refine cal_mk (N := N_check_epoch) (k := 0) (g := m_check_epoch) F sc_check_epoch G.g_check_epoch hb rfl (fun cdv A outer sh H E hr tk pp => ?_)
  exact (pdb_one (pds_if (pdt_w (pdw_or (pt_cmp o_lt (pd_var 0) pd_int) (pw_or1' (pt_cmp o_ge (pd_var 0) (pd_gint rfl G.i_EPOCHS))))) (pdb_one (pds_raiseC G.e_NotAllowed rfl tk)) pdb_nil))
set_option maxHeartbeats 4000000 in
theorem c__law_row (G : Txt K mg) : Cal P w K mg base "_law_row" ["_law_script"] 1 1 f__law_row := by
  obtain ⟨fd, F⟩ := G.d__law_row
  have hb : Binds K fd ["_law_script"] [] := by
    apply F.bindsN
    intro _ _ _ _ _ _ us hl
    match us, hl with
    | [_], _ => kernel_rfl
  refine cal_mk (N := N__law_row) (k := 0) (g := m__law_row) F sc__law_row G.g__law_row hb rfl (fun cdv A outer sh H E hr tk pp => ?_)
  exact (pdb_cons (pds_set (i := 1) sc__law_row.nd (pd_lst pda_nil) xiN)
  (pdb_cons (pds_for pp rfl (pdi_range1 rfl G.z_range (pda_cons (pd_callB c_len rfl G.z_len (by decide +kernel) (pda_cons (pd_var 0) pda_nil)) pda_nil)) (pdg_name (i := 2) sc__law_row.nd xiN) (pdb_cons (pds_set (i := 3) sc__law_row.nd (pd_im (pd_callB c_abs rfl G.z_abs (by decide +kernel) (pda_cons (pd_callTy c_int rfl G.z_int (by decide +kernel) (pda_cons (pd_ix (pd_var 0) (pd_var 2)) pda_nil)) pda_nil))) xiN)
  (pdb_one (pds_if (pt_cmp o_ge (pd_var 3) (pd_op o_pow pd_int pd_int)) (pdb_one (pds_for pp rfl (pdi_range1 rfl G.z_range (pda_cons pd_int pda_nil)) (pdg_name (i := 4) sc__law_row.nd xiN) (pdb_one (pds_if (pt_cmp o_gt (pd_var 3) pd_int) (pdb_cons (pds_append 1 (pe_bm PySem.F.plainAttrs_list PySem.F.slot_list_append PySem.F.type_list_append mt_append (pv 1) (pa_cons (pd_im (pd_op o_mod (pd_callTy c_int rfl G.z_int (by decide +kernel) (pda_cons (pd_var 3) pda_nil)) pd_int)) pa_nil)))
  (pdb_one (pds_set (i := 3) sc__law_row.nd (pd_im (pd_op o_fdiv (pd_var 3) pd_int)) xiN))) pdb_nil)))) (pdb_cons (pds_set (i := 5) sc__law_row.nd (pd_im (pd_op o_mod (pd_callTy c_int rfl G.z_int (by decide +kernel) (pda_cons (pd_op o_add (pd_op o_add (pd_op o_mul (pd_var 3) pd_int) (pd_op o_mul (pd_var 2) pd_int)) pd_int) pda_nil)) pd_int)) xiN)
  (pdb_one (pds_for pp rfl (pdi_range1 rfl G.z_range (pda_cons pd_int pda_nil)) (pdg_name (i := 4) sc__law_row.nd xiN) (pdb_cons (pds_set (i := 5) sc__law_row.nd (pd_im (pd_op o_mod (pd_callTy c_int rfl G.z_int (by decide +kernel) (pda_cons (pd_op o_add (pd_op o_add (pd_op o_mul (pd_var 5) pd_int) (pd_op o_mul pd_int (pd_var 4))) pd_int) pda_nil)) pd_int)) xiN)
  (pdb_one (pds_append 1 (pe_bm PySem.F.plainAttrs_list PySem.F.slot_list_append PySem.F.type_list_append mt_append (pv 1) (pa_cons (pd_im (pd_op o_mod (pd_callTy c_int rfl G.z_int (by decide +kernel) (pda_cons (pd_op o_fdiv (pd_var 5) pd_int) pda_nil)) pd_int)) pa_nil))))))))))))
  (pdb_one (pds_retV 1))))
set_option maxHeartbeats 4000000 in
theorem c__law_at (G : Txt K mg) : Cal P w K mg base "_law_at" ["_law_row_here", "_law_at_here"] 1 2 f__law_at := by
  obtain ⟨fd, F⟩ := G.d__law_at
  have hb : Binds K fd ["_law_row_here", "_law_at_here"] [] := by
    apply F.bindsN
    intro _ _ _ _ _ _ us hl
    match us, hl with
    | [_, _], _ => kernel_rfl
  refine cal_mk (N := N__law_at) (k := 0) (g := m__law_at) F sc__law_at G.g__law_at hb rfl (fun cdv A outer sh H E hr tk pp => ?_)
  exact (pdb_cons (pds_if (pt_chain o_le o_lt pd_int (pd_var 1) (pd_callB c_len rfl G.z_len (by decide +kernel) (pda_cons (pd_var 0) pda_nil))) (pdb_one (pds_ret (pd_ix (pd_var 0) (pd_var 1)))) pdb_nil)
  (pdb_one (pds_ret pd_int)))
set_option maxHeartbeats 4000000 in
theorem c_Register___init__ (G : Txt K mg) : CalO P w K mg base "Register" "__init__" ["self"] 1 1 f_Register___init__ := by
  obtain ⟨fd, F⟩ := G.d_Register___init__
  have hb : Binds K fd ["self"] [] := by
    apply F.bindsN
    intro _ _ _ _ _ _ us hl
    match us, hl with
    | [_], _ => kernel_rfl
  refine cal_mkO (N := N_Register___init__) (k := 0) (g := m_Register___init__) F sc_Register___init__ hb rfl (fun cdv A outer sh H E p hr tk pp => ?_)
  exact (pdb_cons (pds_fset (i := 0) (c := "Register") (n := "_counts") G.c_Register.cl (G.c_Register.na _ (by decide)) (pd_xi (pd_lc rfl sc_Register___init__.nd (pdi_range1 rfl G.z_range (pda_cons (pd_gint rfl G.i_EPOCHS) pda_nil)) (blkOk_by (own := [("_", 1)]) (N := N_Register___init__) (sc := defScope st_Register___init__) (by decide +kernel)) (own_name (by decide)) (fun _ _ _ _ _ => (pg_name (i := 1) sc_Register___init__.nd rfl (by first | exact Or.inl rfl | exact Or.inr rfl))) (fun _ _ _ _ _ => pdts_nil) (fun _ _ _ _ _ => pd_int))))
  (pdb_one (pds_fset (i := 0) (c := "Register") (n := "_power") G.c_Register.cl (G.c_Register.na _ (by decide)) (pd_un o_neg pd_int))))
set_option maxHeartbeats 4000000 in
theorem c_Register_supply (G : Txt K mg) : CalO P w K mg base "Register" "supply" ["self", "raises"] 1 2 f_Register_supply := by
  obtain ⟨fd, F⟩ := G.d_Register_supply
  have hb : Binds K fd ["self", "raises"] [] := by
    apply F.bindsN
    intro _ _ _ _ _ _ us hl
    match us, hl with
    | [_, _], _ => kernel_rfl
  refine cal_mkO (N := N_Register_supply) (k := 0) (g := m_Register_supply) F sc_Register_supply hb rfl (fun cdv A outer sh H E p hr tk pp => ?_)
  exact (pdb_cons (pds_if (pt_cmp o_lt (pd_var 1) (pd_un o_neg pd_int)) (pdb_one (pds_raiseC G.e_NotAllowed rfl tk)) pdb_nil)
  (pdb_one (pds_fset (i := 0) (c := "Register") (n := "_power") G.c_Register.cl (G.c_Register.na _ (by decide)) (pd_var 1))))
set_option maxHeartbeats 4000000 in
theorem c_Register_count (G : Txt K mg) : CalB P w K mg base "Register" "count" ["self", "epoch"] 2 2 f_Register_count := by
  obtain ⟨fd, F⟩ := G.d_Register_count
  have hb : Binds K fd ["self", "epoch"] [] := by
    apply F.bindsN
    intro _ _ _ _ _ _ us hl
    match us, hl with
    | [_, _], _ => kernel_rfl
  refine cal_mkB (N := N_Register_count) (k := 1) (g := m_Register_count) F sc_Register_count hb rfl (fun cdv A outer sh H E hr tk pp => ?_)
  exact (pdb_cons (pds_expr (pd_callC (c_check_epoch G) hr (by decide) tk (pda_cons (pd_var 1) pda_nil) (eLen_cons eLen_nil)))
  (pdb_one (pds_ret (pd_ix (pd_fld (i := 0) (c := "Register") (n := "_counts") G.c_Register.cl (G.c_Register.na _ (by decide))) (pd_var 1)))))
set_option maxHeartbeats 4000000 in
theorem c_Register_raise_to (G : Txt K mg) : CalO P w K mg base "Register" "raise_to" ["self", "epoch", "count"] 2 3 f_Register_raise_to := by
  obtain ⟨fd, F⟩ := G.d_Register_raise_to
  have hb : Binds K fd ["self", "epoch", "count"] [] := by
    apply F.bindsN
    intro _ _ _ _ _ _ us hl
    match us, hl with
    | [_, _, _], _ => kernel_rfl
  refine cal_mkO (N := N_Register_raise_to) (k := 1) (g := m_Register_raise_to) F sc_Register_raise_to hb rfl (fun cdv A outer sh H E p hr tk pp => ?_)
  exact (pdb_cons (pds_expr (pd_callC (c_check_epoch G) hr (by decide) tk (pda_cons (pd_var 1) pda_nil) (eLen_cons eLen_nil)))
  (pdb_cons (pds_if (pt_cmp o_le (pd_var 2) (pd_ix (pd_fld (i := 0) (c := "Register") (n := "_counts") G.c_Register.cl (G.c_Register.na _ (by decide))) (pd_var 1))) (pdb_one (pds_raiseC G.e_NotAllowed rfl tk)) pdb_nil)
  (pdb_cons (pds_if (pt_cmp (o_eq hr.units) (pd_fld (i := 0) (c := "Register") (n := "_power") G.c_Register.cl (G.c_Register.na _ (by decide))) pd_int) (pdb_one (pds_raiseC G.e_Down rfl tk)) pdb_nil)
  (pdb_cons (pds_if (pt_cmp o_gt (pd_fld (i := 0) (c := "Register") (n := "_power") G.c_Register.cl (G.c_Register.na _ (by decide))) pd_int) (pdb_one (pds_faug (i := 0) (c := "Register") (n := "_power") G.c_Register.cl (G.c_Register.na _ (by decide)) io_sub pd_int)) pdb_nil)
  (pdb_one (pds_fsetI (i := 0) (c := "Register") (n := "_counts") G.c_Register.cl (G.c_Register.na _ (by decide)) (pd_var 2) (pd_var 1)))))))
set_option maxHeartbeats 4000000 in
theorem c__law_told (G : Txt K mg) : CalF P w K mg base "Register" "_law_told" ["_law_counter", "_law_kind", "_law_epoch", "_law_number"] 3 4 f__law_told := by
  obtain ⟨fd, F⟩ := G.d__law_told
  have hb : Binds K fd ["_law_counter", "_law_kind", "_law_epoch", "_law_number"] [] := by
    apply F.bindsN
    intro _ _ _ _ _ _ us hl
    match us, hl with
    | [_, _, _, _], _ => kernel_rfl
  refine cal_mkF (N := N__law_told) (k := 2) (g := m__law_told) F sc__law_told G.g__law_told hb rfl (fun cdv A outer sh H E p hr tk pp => ?_)
  exact (pdb_one (pds_try_named G.ex rfl rfl sc__law_told.nd tk (fun _ _ _ tk pp => (pdb_cons (pds_if (pt_cmp (o_eq hr.units) (pd_var 1) pd_str) (pdb_one (pds_retMO (i := 0) (c_Register_raise_to G) G.c_Register.cl (G.c_Register.me _ (by decide)) hr (by decide) tk (pda_cons (pd_var 2) (pda_cons (pd_var 3) pda_nil)) (eLen_cons (eLen_cons eLen_nil)))) pdb_nil)
  (pdb_cons (pds_if (pt_cmp (o_eq hr.units) (pd_var 1) pd_str) (pdb_one (pds_retMO (i := 0) (c_Register_supply G) G.c_Register.cl (G.c_Register.me _ (by decide)) hr (by decide) tk (pda_cons (pd_var 3) pda_nil) (eLen_cons eLen_nil))) pdb_nil)
  (pdb_one (pds_retM (pd_im (pd_methE (i := 0) (c_Register_count G) G.c_Register.cl (G.c_Register.me _ (by decide)) hr (by decide) tk (pda_cons (pd_var 2) pda_nil) (eLen_cons eLen_nil)))))))) (.named (i := 4) (xiS (by decide)) (by decide) rfl rfl (names_of G.e_NotAllowed) (fun _ _ _ _ hcs hz hf => (pdb_one (pds_retM (pd_im (pd_ix (pd_lst (pda_cons pd_str (pda_cons pd_str pda_nil))) (pd_callTy c_int rfl G.z_int (by decide +kernel) (pda_cons (pd_and (pd_isE G.ex hcs hz hf G.e_CloakError rfl G.z_isinstance) (pd_one (pd_not (pd_isE G.ex hcs hz hf G.e_Down rfl G.z_isinstance)))) pda_nil))))))) (.named (i := 4) (xiS (by decide)) (by decide) rfl rfl (names_of G.e_Down) (fun _ _ _ _ hcs hz hf => (pdb_one (pds_retM (pd_im (pd_ix (pd_lst (pda_cons pd_str (pda_cons pd_str pda_nil))) (pd_callTy c_int rfl G.z_int (by decide +kernel) (pda_cons (pd_and (pd_isE G.ex hcs hz hf G.e_CloakError rfl G.z_isinstance) (pd_one (pd_not (pd_isE G.ex hcs hz hf G.e_NotAllowed rfl G.z_isinstance)))) pda_nil))))))) .nil))))
set_option maxHeartbeats 4000000 in
theorem law_fn (G : Txt K mg) {fd : FuncData} (F : FnD K "law" st_law (He.ga K "law") fd) : FnOk P w K mg base (L2N.CX P w) 4 (He.ga K "law") fd ["_law_script"] (spD K 1 f_law) := by
  refine def_ok (N := N_law) (k := 3) (g := m_law) F sc_law (fun cdv A outer sh H E hr tk pp => ?_)
  exact (pdb_cons (pds_set (i := 1) sc_law.nd (pd_im (pd_callC (c__law_row G) hr (by decide) tk (pda_cons (pd_var 0) pda_nil) (eLen_cons eLen_nil))) xiN)
  (pdb_cons (pds_set (i := 2) sc_law.nd (pd_newO0 (c_Register___init__ G) G.k_Register hr (by decide)) xiN)
  (pdb_cons (pds_set (i := 3) sc_law.nd (pd_newO0 (c_Register___init__ G) G.k_Register hr (by decide)) xiN)
  (pdb_cons (pds_set (i := 4) sc_law.nd (pd_lst (pda_cons pd_int (pda_cons pd_int (pda_cons pd_int pda_nil)))) xiN)
  (pdb_cons (pds_set (i := 5) sc_law.nd (pd_un o_neg pd_int) xiN)
  (pdb_cons (pds_for pp rfl (pdi_range1 rfl G.z_range (pda_cons (pd_op o_mod (pd_callTy c_int rfl G.z_int (by decide +kernel) (pda_cons (pd_callC (c__law_at G) hr (by decide) tk (pda_cons (pd_var 1) (pda_cons pd_int pda_nil)) (eLen_cons (eLen_cons eLen_nil))) pda_nil)) pd_int) pda_nil)) (pdg_name (i := 6) sc_law.nd xiN) (pdb_cons (pds_set (i := 7) sc_law.nd (pd_im (pd_callTy c_int rfl G.z_int (by decide +kernel) (pda_cons (pd_callC (c__law_at G) hr (by decide) tk (pda_cons (pd_var 1) (pda_cons (pd_im (pd_op o_add pd_int (pd_op o_mul pd_int (pd_var 6)))) pda_nil)) (eLen_cons (eLen_cons eLen_nil))) pda_nil))) xiN)
  (pdb_cons (pds_set (i := 8) sc_law.nd (pd_im (pd_callTy c_int rfl G.z_int (by decide +kernel) (pda_cons (pd_callC (c__law_at G) hr (by decide) tk (pda_cons (pd_var 1) (pda_cons (pd_im (pd_op o_add pd_int (pd_op o_mul pd_int (pd_var 6)))) pda_nil)) (eLen_cons (eLen_cons eLen_nil))) pda_nil))) xiN)
  (pdb_cons (pds_set (i := 9) sc_law.nd (pd_im (pd_ix (pd_lst (pda_cons pd_int (pda_cons pd_int (pda_cons pd_int (pda_cons pd_int (pda_cons pd_int (pda_cons (pd_un o_neg pd_int) (pda_cons pd_int pda_nil)))))))) (pd_op o_mod (pd_var 8) pd_int))) xiN)
  (pdb_cons (pds_if (pt_cmp (o_eq hr.units) (pd_op o_mod (pd_var 7) pd_int) pd_int) (pdb_cons (pds_set (i := 10) sc_law.nd (pd_im (pd_ix (pd_lst (pda_cons pd_int (pda_cons pd_int (pda_cons pd_int (pda_cons (pd_un o_neg pd_int) (pda_cons (pd_un o_neg pd_int) pda_nil)))))) (pd_op o_mod (pd_op o_fdiv (pd_var 8) pd_int) pd_int))) xiN)
  (pdb_cons (pds_set (i := 11) sc_law.nd pd_non xiN)
  (pdb_cons (pds_if (pt_cmp o_lt (pd_var 10) (pd_un o_neg pd_int)) (pdb_one (pds_set (i := 11) sc_law.nd pd_str xiN)) (pdb_one (pds_set (i := 5) sc_law.nd (pd_var 10) xiN)))
  (pdb_one (pds_ifNeF (i := 2) (c__law_told G) hr (by decide) (o_ne hr.units) (pda_cons pd_str (pda_cons pd_int (pda_cons (pd_var 10) pda_nil))) (eLen_cons (eLen_cons (eLen_cons eLen_nil))) (pd_var 11) (pdb_one (pds_ret pd_bl)) pdb_nil))))) (pdb_cons (pds_set (i := 11) sc_law.nd pd_non xiN)
  (pdb_cons (pds_set (i := 12) sc_law.nd (pd_im (pd_op o_mod (pd_op o_fdiv (pd_var 8) pd_int) pd_int)) xiN)
  (pdb_cons (pds_if (pdt_w (pdw_or (pdt_not (pt_chain o_le o_le pd_int (pd_var 9) pd_int)) (pw_or1' (pt_cmp o_le (pd_var 12) (pd_ix (pd_var 4) (pd_var 9)))))) (pdb_one (pds_set (i := 11) sc_law.nd pd_str xiN)) (pdb_one (pds_if (pt_cmp (o_eq hr.units) (pd_var 5) pd_int) (pdb_one (pds_set (i := 11) sc_law.nd pd_str xiN)) (pdb_cons (pds_setI (i := 4) (pd_var 12) (pd_var 9))
  (pdb_one (pds_set (i := 5) sc_law.nd (pd_im (pd_op o_sub (pd_var 5) (pd_callTy c_int rfl G.z_int (by decide +kernel) (pda_cons (pd_cmp o_gt (pd_var 5) pd_int) pda_nil)))) xiN))))))
  (pdb_one (pds_ifNeF (i := 2) (c__law_told G) hr (by decide) (o_ne hr.units) (pda_cons pd_str (pda_cons (pd_var 9) (pda_cons (pd_var 12) pda_nil))) (eLen_cons (eLen_cons (eLen_cons eLen_nil))) (pd_var 11) (pdb_one (pds_ret pd_bl)) pdb_nil))))))
  (pdb_cons (pds_for pp rfl (pdi_range1 rfl G.z_range (pda_cons pd_int pda_nil)) (pdg_name (i := 13) sc_law.nd xiN) (pdb_one (pds_if (pdt_w (pdw_or (pt_cmp (o_ne hr.units) (pd_methE (i := 2) (c_Register_count G) G.c_Register.cl (G.c_Register.me _ (by decide)) hr (by decide) tk (pda_cons (pd_var 13) pda_nil) (eLen_cons eLen_nil)) (pd_ix (pd_var 4) (pd_var 13))) (pw_or1' (pt_cmp (o_ne hr.units) (pd_methE (i := 3) (c_Register_count G) G.c_Register.cl (G.c_Register.me _ (by decide)) hr (by decide) tk (pda_cons (pd_var 13) pda_nil) (eLen_cons eLen_nil)) pd_int)))) (pdb_one (pds_ret pd_bl)) pdb_nil)))
  (pdb_one (pds_ifNeF (i := 2) (c__law_told G) hr (by decide) (o_ne hr.units) (pda_cons pd_str (pda_cons (pd_im (pd_ix (pd_lst (pda_cons (pd_un o_neg pd_int) (pda_cons pd_int pda_nil))) (pd_op o_mod (pd_callTy c_int rfl G.z_int (by decide +kernel) (pda_cons (pd_var 7) pda_nil)) pd_int))) (pda_cons pd_int pda_nil))) (eLen_cons (eLen_cons (eLen_cons eLen_nil))) pd_str (pdb_one (pds_ret pd_bl)) pdb_nil))))))))
  (pdb_one (pds_ret (pd_cmp (o_eq hr.units) (pd_gint rfl G.i_EPOCHS) pd_int)))))))))
end
end
section
/-! ### the law's row -/
def ryw (y : Int) : Prop := 0 ≤ y ∧ y < 1009
theorem lrow_eq (ns : List Int) (hn : ns.length ≤ 63) : ∃ xs : List Int, (∀ x ∈ xs, ryw x) ∧ f__law_row [.ro ns] = .ok (.ml (xs.map PyData.int)) := by
  have p1 : powOk 10 18 = true := by decide +kernel
  simp only [f__law_row, m__law_row]
  simp (disch := omega)
  generalize hL : forL _ _ _ _ = L
  obtain ⟨J1, hJ1⟩ : ∃ J : Nat → En → Prop, J = fun k δ => ∃ (ys : List Int) (a2 a3 a4 a5 : Option Sl), ys.length ≤ 40 * k ∧ (∀ y ∈ ys, ryw y) ∧ δ = [some (.ro ns), some (.ml (ys.map PyData.int)), a2, a3, a4, a5] := ⟨_, rfl⟩
  have key : ∃ δ', L = .nx δ' ∧ J1 ns.length δ' := by
    rw [← hL]
    refine forL_rng J1 ?_ (by rw [hJ1]; exact ⟨[], _, _, _, _, by simp, by simp, rfl⟩)
    intro k δ hk h
    rw [hJ1] at h
    obtain ⟨ys, a2, a3, a4, a5, hy, hy0, rfl⟩ := h
    refine ⟨_, rfl, ?_⟩
    simp (disch := omega) [atI_ints, p1]
    generalize ns[k]'hk = n
    have hc : 0 ≤ (if n < 0 then -n else n) := by split <;> omega
    generalize (if n < 0 then -n else n) = c at *
    have snoc : ∀ (ys : List Int) (z : Int), (∀ y ∈ ys, ryw y) → ryw z → ∀ y ∈ ys ++ [z], ryw y := fun ys z h1 h2 y hy => by
      rcases List.mem_append.mp hy with h | h
      · exact h1 y h
      · rw [List.mem_singleton.mp h]; exact h2
    by_cases hb : 1000000000000000000 ≤ c
    · simp (disch := omega) [hb]
      generalize hM : forL _ _ _ _ = L2
      obtain ⟨J2, hJ2⟩ : ∃ J : Nat → En → Prop, J = fun j δ => ∃ (ys : List Int) (a4 a5 : Option Sl) (c : Int), 0 ≤ c ∧ ys.length ≤ 40 * k + j ∧ (∀ y ∈ ys, ryw y) ∧ δ = [some (.ro ns), some (.ml (ys.map PyData.int)), some (I (k : Nat)), some (I c), a4, a5] := ⟨_, rfl⟩
      have key : ∃ δ', L2 = .nx δ' ∧ J2 40 δ' := by
        rw [← hM]
        refine forL_rng J2 ?_ (by rw [hJ2]; exact ⟨ys, _, _, c, hc, by omega, hy0, rfl⟩)
        intro j δ hj h
        rw [hJ2] at h
        obtain ⟨ys, a4, a5, c, hc, hy, hy0, rfl⟩ := h
        have hl : ys.length < 16777216 := by omega
        refine ⟨_, rfl, ?_⟩
        by_cases hc1 : 0 < c
        · simp (disch := omega) [hc1, hl]
          rw [hJ2]
          exact ⟨ys ++ [c % 1009], _, _, c / 1009, by omega, by simp; omega, snoc ys _ hy0 ⟨by omega, by omega⟩, by simp; exact ⟨rfl, rfl⟩⟩
        · simp (disch := omega) [hc1]
          rw [hJ2]
          exact ⟨ys, _, _, c, hc, by omega, hy0, rfl⟩
      rw [hJ2] at key
      obtain ⟨_, rfl, ys, a4, a5, c, hc, hy, hy0, rfl⟩ := key
      simp
      rw [hJ1]
      exact ⟨ys, _, _, _, _, by omega, hy0, rfl⟩
    · simp (disch := omega) [hb]
      generalize hM : forL _ _ _ _ = L2
      obtain ⟨J2, hJ2⟩ : ∃ J : Nat → En → Prop, J = fun j δ => ∃ (ys : List Int) (a4 : Option Sl) (m : Int), ys.length ≤ 40 * k + j ∧ (∀ y ∈ ys, ryw y) ∧ δ = [some (.ro ns), some (.ml (ys.map PyData.int)), some (I (k : Nat)), some (I c), a4, some (I m)] := ⟨_, rfl⟩
      have key : ∃ δ', L2 = .nx δ' ∧ J2 6 δ' := by
        rw [← hM]
        refine forL_rng J2 ?_ (by rw [hJ2]; exact ⟨ys, _, _, by omega, hy0, rfl⟩)
        intro j δ hj h
        rw [hJ2] at h
        obtain ⟨ys, a4, m, hy, hy0, rfl⟩ := h
        have hl : ys.length < 16777216 := by omega
        refine ⟨_, rfl, ?_⟩
        simp (disch := omega) [hl]
        rw [hJ2]
        exact ⟨_, _, _, by simp; omega, snoc ys _ hy0 ⟨Int.emod_nonneg _ (by decide), Int.emod_lt_of_pos _ (by decide)⟩, by simp; exact ⟨rfl, rfl, rfl⟩⟩
      rw [hJ2] at key
      obtain ⟨_, rfl, ys, a4, m, hy, hy0, rfl⟩ := key
      simp
      rw [hJ1]
      exact ⟨ys, _, _, _, _, by omega, hy0, rfl⟩
  rw [hJ1] at key
  obtain ⟨_, rfl, ys, a2, a3, a4, a5, hy, hy0, rfl⟩ := key
  refine ⟨ys, hy0, ?_⟩
  simp
def rat (xs : List Int) (i : Int) : Int := if 0 ≤ i ∧ i < xs.length then nth xs i else 0
theorem lat_eq (xs : List Int) (i : Int) : f__law_at [.im (Li xs), I i] = .ok (I (rat xs i)) := by
  simp only [f__law_at, m__law_at]
  unfold rat
  by_cases h : 0 ≤ i ∧ i < xs.length
  · have e := atI_nth (xs := xs) h
    simp [h.1, h.2, e]
  · rw [if_neg h]
    by_cases h1 : 0 ≤ i
    · have h2 : ¬ i < xs.length := fun h2 => h ⟨h1, h2⟩
      simp [h1, h2]
    · simp [h1]
theorem rat_ryw {xs : List Int} (h : ∀ x ∈ xs, ryw x) (i : Int) : ryw (rat xs i) := by
  unfold rat
  split
  · rename_i hi
    exact h _ (nth_mem hi)
  · exact ⟨by decide, by decide⟩
/-! ### registers -/
def rgF (cs : List Int) (pw : Int) : List (Str × Fv) := [("_counts", .ml (cs.map PyData.int)), ("_power", .im (.int pw))]
section
variable {cs : List Int} {pw : Int}
theorem rg_counts : (rgF cs pw).lookup (Str.ofString "_counts") = some (.ml (cs.map PyData.int)) := rfl
theorem rg_power : (rgF cs pw).lookup (Str.ofString "_power") = some (.im (.int pw)) := rfl
theorem rg_count : (rgF cs pw).lookup (Str.ofString "count") = none := rfl
theorem rg_raise : (rgF cs pw).lookup (Str.ofString "raise_to") = none := rfl
theorem rg_supply : (rgF cs pw).lookup (Str.ofString "supply") = none := rfl
theorem rg_putP (p' : Int) : putFv (Str.ofString "_power") (.im (.int p')) (rgF cs pw) = rgF cs p' := rfl
theorem rg_putC (cs' : List Int) : putFv (Str.ofString "_counts") (.ml (cs'.map PyData.int)) (rgF cs pw) = rgF cs' pw := rfl
theorem rg_setC (k : Nat) (n : Int) : putFv (Str.ofString "_counts") (.ml ((cs.map PyData.int).set k (.int n))) (rgF cs pw) = rgF (cs.set k n) pw := by
  have := rg_putC (cs := cs) (pw := pw) (cs.set k n)
  rw [List.map_set] at this
  exact this
theorem rg_len : (rgF cs pw).length = 2 := rfl
theorem epoch_ok (e : Int) (h : 0 ≤ e ∧ e < 3) : f_check_epoch [I e] = .ok (.im .none) := by
  have h1 : ¬ e < 0 := by omega
  have h2 : ¬ 3 ≤ e := by omega
  simp only [f_check_epoch, m_check_epoch]
  simp [h1, h2]
theorem epoch_na (e : Int) (h : ¬ (0 ≤ e ∧ e < 3)) : f_check_epoch [I e] = .er "NotAllowed" := by
  simp only [f_check_epoch, m_check_epoch]
  by_cases h1 : e < 0
  · simp [h1]
  · have h2 : 3 ≤ e := by omega
    simp [h1, h2]
theorem rinit_eq : f_Register___init__ [] [] = .ok .none (rgF [0, 0, 0] (-1)) := by
  show fnMO 2 "Register" m_Register___init__ _ _ = _
  rw [fnMO_def]
  unfold m_Register___init__
  simp only [initE]
  have c : ∀ δ : En, ∃ q, compL (gN 1) cYes (eC (.int 0)) δ (rng 0 3) = q := fun δ => ⟨_, rfl⟩
  have key : compL (gN 1) cYes (eC (.int 0)) [some (.ob true "Register" []), none] (rng 0 3) = .ok [.int 0, .int 0, .int 0] := by
    exact compL_rng (n := 3) (fun _ => PyData.int 0) fun k hk => ⟨_, rfl, rfl, rfl⟩
  simp [key]
  rfl
theorem rcount_ok (hc : cs.length = 3) (e : Int) (h : 0 ≤ e ∧ e < 3) : f_Register_count [.ob false "Register" (rgF cs pw), I e] = .ok (I (nth cs e)) := by
  have e1 := epoch_ok e h
  have a := atI_nth (xs := cs) (i := e) (by omega)
  simp only [f_Register_count, m_Register_count]
  simp [e1, rg_counts, a]
theorem rcount_na (e : Int) (h : ¬ (0 ≤ e ∧ e < 3)) : f_Register_count [.ob false "Register" (rgF cs pw), I e] = .er "NotAllowed" := by
  have e1 := epoch_na e h
  simp only [f_Register_count, m_Register_count]
  simp [e1]
theorem rsupply_eq (r : Int) : f_Register_supply (rgF cs pw) [I r] = if r < -1 then .er "NotAllowed" (rgF cs pw) else .ok .none (rgF cs r) := by
  show fnMO 2 "Register" m_Register_supply _ _ = _
  rw [fnMO_def]
  unfold m_Register_supply
  simp only [initE]
  by_cases h : r < -1
  · simp [h]
  · simp [h, rg_len, rg_putP]
/-- what a raise does -/
def rsF (cs : List Int) (pw e n : Int) : RsO := if ¬ (0 ≤ e ∧ e < 3) ∨ n ≤ nth cs e then .er "NotAllowed" (rgF cs pw) else if pw = 0 then .er "Down" (rgF cs pw) else .ok .none (rgF (cs.set e.toNat n) (if 0 < pw then pw - 1 else pw))
theorem rraise_eq (hc : cs.length = 3) (e n : Int) : f_Register_raise_to (rgF cs pw) [I e, I n] = rsF cs pw e n := by
  show fnMO 3 "Register" m_Register_raise_to _ _ = _
  rw [fnMO_def]
  unfold m_Register_raise_to rsF
  simp only [initE]
  by_cases h : 0 ≤ e ∧ e < 3
  · have e1 := epoch_ok e h
    have a := atI_nth (xs := cs) (i := e) (by omega)
    have ix : ixN cs.length e = some e.toNat := by
      obtain ⟨k, rfl⟩ := Int.eq_ofNat_of_zero_le h.1
      exact ixN_nat (by omega)
    by_cases h1 : n ≤ nth cs e
    · simp [h, e1, rg_counts, a, h1]
    · by_cases h2 : pw = 0
      · simp [h, e1, rg_counts, rg_power, a, h1, h2]
      · by_cases h3 : 0 < pw
        · simp [h, e1, rg_counts, rg_power, rg_len, rg_putP, a, h1, h2, h3, ix, rg_setC]
        · simp [h, e1, rg_counts, rg_power, rg_len, rg_putP, a, h1, h2, h3, ix, rg_setC]
  · have e1 := epoch_na e h
    simp [h, e1]
/-- what is told of an answer -/
def tlO : RsO → RsO
  | .ok d o => .ok d o
  | .er c o => if c = "NotAllowed" then .ok (.str "not allowed") o else if c = "Down" then .ok (.str "down") o else .bad
  | .bad => .bad
theorem isub_nn : isSub (Str.ofString "NotAllowed") (Str.ofString "NotAllowed") = true := by decide +kernel
theorem isub_nc : isSub (Str.ofString "NotAllowed") (Str.ofString "CloakError") = true := by decide +kernel
theorem isub_nd : isSub (Str.ofString "NotAllowed") (Str.ofString "Down") = false := by decide +kernel
theorem isub_dn : isSub (Str.ofString "Down") (Str.ofString "NotAllowed") = false := by decide +kernel
theorem isub_dd : isSub (Str.ofString "Down") (Str.ofString "Down") = true := by decide +kernel
theorem isub_dc : isSub (Str.ofString "Down") (Str.ofString "CloakError") = true := by decide +kernel
theorem tx_cr : ¬ (Str.ofString "count") = Str.ofString "raise" := by decide
theorem tx_cs : ¬ (Str.ofString "count") = Str.ofString "supply" := by decide
theorem tx_sr : ¬ (Str.ofString "supply") = Str.ofString "raise" := by decide
theorem told_count (e n : Int) (h : ¬ (0 ≤ e ∧ e < 3)) : f__law_told (rgF cs pw) [.im (.str "count"), I e, I n] = .ok (.str "not allowed") (rgF cs pw) := by
  have e1 := rcount_na (cs := cs) (pw := pw) e h
  show fnMO 5 "Register" m__law_told _ _ = _
  rw [fnMO_def]
  unfold m__law_told
  simp only [initE]
  simp [rg_count, tx_cr, tx_cs, e1, exs, isub_nn, isub_nc, isub_nd]
theorem told_supply (r : Int) : f__law_told (rgF cs pw) [.im (.str "supply"), I 0, I r] = tlO (if r < -1 then .er "NotAllowed" (rgF cs pw) else .ok .none (rgF cs r)) := by
  have e1 := rsupply_eq (cs := cs) (pw := pw) r
  show fnMO 5 "Register" m__law_told _ _ = _
  rw [fnMO_def]
  unfold m__law_told
  simp only [initE]
  by_cases h : r < -1
  · rw [if_pos h] at e1 ⊢
    simp [rg_supply, tx_sr, e1, exs, isub_nn, isub_nc, isub_nd, tlO]
  · rw [if_neg h] at e1 ⊢
    simp [rg_supply, tx_sr, e1, tlO]
theorem told_raise (hc : cs.length = 3) (e n : Int) : f__law_told (rgF cs pw) [.im (.str "raise"), I e, I n] = tlO (rsF cs pw e n) := by
  have e1 := rraise_eq (pw := pw) hc e n
  show fnMO 5 "Register" m__law_told _ _ = _
  rw [fnMO_def]
  unfold m__law_told
  simp only [initE]
  unfold rsF at e1 ⊢
  by_cases h : ¬ (0 ≤ e ∧ e < 3) ∨ n ≤ nth cs e
  · rw [if_pos h] at e1 ⊢
    simp [rg_raise, e1, exs, isub_nn, isub_nc, isub_nd, tlO]
  · rw [if_neg h] at e1 ⊢
    by_cases h2 : pw = 0
    · rw [if_pos h2] at e1 ⊢
      have ne : ¬ (Str.ofString "Down") = (Str.ofString "NotAllowed") := by decide
      simp [rg_raise, e1, exs, isub_dd, isub_dc, isub_dn, tlO, ne]
    · rw [if_neg h2] at e1 ⊢
      simp [rg_raise, e1, tlO]
end

section
variable {xs : List Int}
theorem menu_ep (x : Int) : ∃ e : Int, (-1 ≤ e ∧ e ≤ 3) ∧ atI [PyData.int 0, .int 1, .int 2, .int 0, .int 1, .int (-1), .int 3] (x % 7) = some (.int e) := by
  rcases (by omega : x % 7 = 0 ∨ x % 7 = 1 ∨ x % 7 = 2 ∨ x % 7 = 3 ∨ x % 7 = 4 ∨ x % 7 = 5 ∨ x % 7 = 6) with h | h | h | h | h | h | h <;> rw [h]
  · exact ⟨0, by omega, by simp⟩
  · exact ⟨1, by omega, by simp⟩
  · exact ⟨2, by omega, by simp⟩
  · exact ⟨0, by omega, by simp⟩
  · exact ⟨1, by omega, by simp⟩
  · exact ⟨-1, by omega, by simp⟩
  · exact ⟨3, by omega, by simp⟩
theorem menu_rs (x : Int) : ∃ r : Int, (-2 ≤ r ∧ r ≤ 2) ∧ atI [PyData.int 0, .int 1, .int 2, .int (-1), .int (-2)] (x % 5) = some (.int r) := by
  rcases (by omega : x % 5 = 0 ∨ x % 5 = 1 ∨ x % 5 = 2 ∨ x % 5 = 3 ∨ x % 5 = 4) with h | h | h | h | h <;> rw [h]
  · exact ⟨0, by omega, by simp⟩
  · exact ⟨1, by omega, by simp⟩
  · exact ⟨2, by omega, by simp⟩
  · exact ⟨-1, by omega, by simp⟩
  · exact ⟨-2, by omega, by simp⟩
theorem menu_no (x : Int) : ∃ e : Int, ¬ (0 ≤ e ∧ e < 3) ∧ atI [PyData.int (-1), .int 3] (x % 2) = some (.int e) := by
  rcases (by omega : x % 2 = 0 ∨ x % 2 = 1) with h | h <;> rw [h]
  · exact ⟨-1, by omega, by simp⟩
  · exact ⟨3, by omega, by simp⟩
theorem nth_zero (e : Int) (h : 0 ≤ e ∧ e < 3) : nth [(0 : Int), 0, 0] e = 0 := by
  rcases (by omega : e = 0 ∨ e = 1 ∨ e = 2) with rfl | rfl | rfl <;> rfl
theorem rg_inner {cs : List Int} {pw : Int} (hc : cs.length = 3) (a0 a1 a5 a6 a7 a8 a9 a10 a11 a12 a13 : Option Sl) : ∃ b13, forL (gN 13) (sIf (cOr (cTest (eOp mNe (eMethE 2 "Register" "count" f_Register_count (eCons (eVar 13) eNil)) (eOp mIx (eVar 4) (eVar 13)))) (cTest (eOp mNe (eMethE 3 "Register" "count" f_Register_count (eCons (eVar 13) eNil)) (eC (.int 0))))) (sRet (eC (.bool false))) sNext) (rng 0 3)
    [a0, a1, some (.ob true "Register" (rgF cs pw)), some (.ob true "Register" (rgF [0, 0, 0] (-1))), some (.ml (cs.map PyData.int)), a5, a6, a7, a8, a9, a10, a11, a12, a13] = .nx [a0, a1, some (.ob true "Register" (rgF cs pw)), some (.ob true "Register" (rgF [0, 0, 0] (-1))), some (.ml (cs.map PyData.int)), a5, a6, a7, a8, a9, a10, a11, a12, b13] := by
  obtain ⟨J, hJ⟩ : ∃ J : Nat → En → Prop, J = fun i δ => ∃ b13 : Option Sl, δ = [a0, a1, some (.ob true "Register" (rgF cs pw)), some (.ob true "Register" (rgF [0, 0, 0] (-1))), some (.ml (cs.map PyData.int)), a5, a6, a7, a8, a9, a10, a11, a12, b13] := ⟨_, rfl⟩
  have key := forL_rng (t := gN 13) (lo := 0) (n := 3) (b := sIf (cOr (cTest (eOp mNe (eMethE 2 "Register" "count" f_Register_count (eCons (eVar 13) eNil)) (eOp mIx (eVar 4) (eVar 13)))) (cTest (eOp mNe (eMethE 3 "Register" "count" f_Register_count (eCons (eVar 13) eNil)) (eC (.int 0))))) (sRet (eC (.bool false))) sNext) J (fun i δ hi hh => by
    rw [hJ] at hh
    obtain ⟨b13, rfl⟩ := hh
    refine ⟨_, rfl, ?_⟩
    have f : J (i + 1) [a0, a1, some (.ob true "Register" (rgF cs pw)), some (.ob true "Register" (rgF [0, 0, 0] (-1))), some (.ml (cs.map PyData.int)), a5, a6, a7, a8, a9, a10, a11, a12, some (I (i : Nat))] := by
      rw [hJ]; exact ⟨_, rfl⟩
    have c1 := rcount_ok (pw := pw) hc (i : Int) (by omega)
    have c2 := rcount_ok (cs := [0, 0, 0]) (pw := -1) rfl (i : Int) (by omega)
    rw [nth_zero (i : Int) (by omega)] at c2
    have a := atI_nth (xs := cs) (i := (i : Int)) (by omega)
    generalize nth cs (i : Int) = v at *
    have k1 : (rgF cs pw).lookup (Str.ofString "count") = none := rfl
    have k2 : (rgF [0, 0, 0] (-1)).lookup (Str.ofString "count") = none := rfl
    generalize rgF cs pw = R1 at *
    generalize rgF [0, 0, 0] (-1) = R2 at *
    simp (disch := first | omega | (simp; omega) | (simp; done) | fail) [c1, c2, a, k1, k2]
    exact f) (δ := [a0, a1, some (.ob true "Register" (rgF cs pw)), some (.ob true "Register" (rgF [0, 0, 0] (-1))), some (.ml (cs.map PyData.int)), a5, a6, a7, a8, a9, a10, a11, a12, a13]) (by rw [hJ]; exact ⟨_, rfl⟩)
  obtain ⟨δ', k1, k2⟩ := key
  rw [hJ] at k2
  obtain ⟨b13, rfl⟩ := k2
  exact ⟨b13, k1⟩
theorem ne_ss (x : Str) : mNe (.im (.str x)) (.im (.str x)) = some (Bo false) := by simp
theorem ne_nn : mNe (.im .none) (.im .none) = some (Bo false) := by kernel_rfl
end
theorem law_true : ∀ ns : List Int, ns.length ≤ 63 → f_law [.ro ns] = .ok (.im (.bool true)) := by
  intro ns hn
  obtain ⟨xs, hx, e1⟩ := lrow_eq ns hn
  have e2 := newO_ok rinit_eq (by rfl)
  have rt := fun i => lat_eq xs i
  have ry := fun i => rat_ryw hx i
  generalize rat xs = r at *
  simp only [f_law, m_law]
  obtain ⟨n, hn26⟩ : ∃ n : Nat, r 0 % 26 = n := ⟨(r 0 % 26).toNat, by omega⟩
  simp (disch := first | omega | (simp; omega) | (simp; done) | fail) [e1, e2, rt, hn26]
  generalize hL : forL _ _ _ _ = L
  obtain ⟨J, hJ⟩ : ∃ J : Nat → En → Prop, J = fun i δ => ∃ (cs : List Int) (pw : Int) (a6 a7 a8 a9 a10 a11 a12 a13 : Option Sl), cs.length = 3 ∧ -1 ≤ pw ∧ δ = [some (.ro ns), some (.im (Li xs)), some (.ob true "Register" (rgF cs pw)), some (.ob true "Register" (rgF [0, 0, 0] (-1))), some (.ml (cs.map PyData.int)), some (I pw), a6, a7, a8, a9, a10, a11, a12, a13] := ⟨_, rfl⟩
  have key : ∃ δ', L = .nx δ' ∧ J n δ' := by
    rw [← hL]
    clear hL
    refine forL_rng J ?_ (by rw [hJ]; exact ⟨[0, 0, 0], -1, none, none, none, none, none, none, none, none, rfl, by omega, rfl⟩)
    intro k δ hk hh
    rw [hJ] at hh
    obtain ⟨cs, pw, a6, a7, a8, a9, a10, a11, a12, a13, hc, hp, rfl⟩ := hh
    refine ⟨_, rfl, ?_⟩
    have fin : ∀ (cs : List Int) (pw : Int) (a6 a7 a8 a9 a10 a11 a12 a13 : Option Sl), cs.length = 3 → -1 ≤ pw → J (k + 1) [some (.ro ns), some (.im (Li xs)), some (.ob true "Register" (rgF cs pw)), some (.ob true "Register" (rgF [0, 0, 0] (-1))), some (.ml (cs.map PyData.int)), some (I pw), a6, a7, a8, a9, a10, a11, a12, a13] := by
      intro cs pw a6 a7 a8 a9 a10 a11 a12 a13 h1 h2
      rw [hJ]
      exact ⟨cs, pw, a6, a7, a8, a9, a10, a11, a12, a13, h1, h2, rfl⟩
    have ryn := ry (1 + 2 * (k : Int))
    have ryx := ry (2 + 2 * (k : Int))
    have rtn := rt (1 + 2 * (k : Int))
    have rtx := rt (2 + 2 * (k : Int))
    generalize r (1 + 2 * (k : Int)) = num at *
    generalize r (2 + 2 * (k : Int)) = x at *
    obtain ⟨e, he, me⟩ := menu_ep x
    obtain ⟨rs, hrs, mrs⟩ := menu_rs (x / 7)
    obtain ⟨w, hw, mw⟩ := menu_no num
    clear rt ry e1 e2 hx
    have nss := ne_ss (Str.ofString "not allowed")
    have nsd := ne_ss (Str.ofString "down")
    have nnn := ne_nn
    by_cases c5 : num % 5 = 0
    · have ts := told_supply (cs := cs) (pw := pw) rs
      by_cases c1 : rs < -1
      · have tc := told_count (cs := cs) (pw := pw) w 0 hw
        obtain ⟨b13, inn⟩ := rg_inner (pw := pw) hc (some (.ro ns)) (some (.im (Li xs))) (some (I pw)) (some (I (k : Nat))) (some (I num)) (some (I x)) (some (I e)) (some (I rs)) (some (.im (.str (Str.ofString "not allowed")))) a12 a13
        rw [if_pos c1] at ts
        have ts : f__law_told (rgF cs pw) [.im (.str "supply"), I 0, I rs] = .ok (.str "not allowed") (rgF cs pw) := ts
        have f := fin cs pw (some (I (k : Nat))) (some (I num)) (some (I x)) (some (I e)) (some (I rs)) (some (.im (.str (Str.ofString "not allowed")))) a12 b13 hc hp
        generalize rgF cs pw = R1 at *
        generalize rgF [0, 0, 0] (-1) = R2 at *
        generalize cs.map PyData.int = C at *
        simp (disch := first | omega | (simp; omega) | (simp; done) | fail) [rtn, rtx, me, mrs, mw, c5, c1, ts, tc, inn, nss]
        exact f
      · have tc := told_count (cs := cs) (pw := rs) w 0 hw
        obtain ⟨b13, inn⟩ := rg_inner (pw := rs) hc (some (.ro ns)) (some (.im (Li xs))) (some (I rs)) (some (I (k : Nat))) (some (I num)) (some (I x)) (some (I e)) (some (I rs)) (some (.im .none)) a12 a13
        rw [if_neg c1] at ts
        have ts : f__law_told (rgF cs pw) [.im (.str "supply"), I 0, I rs] = .ok .none (rgF cs rs) := ts
        have f := fin cs rs (some (I (k : Nat))) (some (I num)) (some (I x)) (some (I e)) (some (I rs)) (some (.im .none)) a12 b13 hc (by omega)
        generalize rgF cs pw = R1 at *
        generalize rgF cs rs = R3 at *
        generalize rgF [0, 0, 0] (-1) = R2 at *
        generalize cs.map PyData.int = C at *
        simp (disch := first | omega | (simp; omega) | (simp; done) | fail) [rtn, rtx, me, mrs, mw, c5, c1, ts, tc, inn, nss, nnn]
        exact f
    · obtain ⟨q, hq⟩ : ∃ q, x / 7 % 9 = q := ⟨_, rfl⟩
      have tr := told_raise (pw := pw) hc e q
      unfold rsF at tr
      by_cases c1 : ¬ (0 ≤ e ∧ e < 3) ∨ q ≤ nth cs e
      · rw [if_pos c1] at tr
        have tr : f__law_told (rgF cs pw) [.im (.str "raise"), I e, I q] = .ok (.str "not allowed") (rgF cs pw) := tr
        have tc := told_count (cs := cs) (pw := pw) w 0 hw
        obtain ⟨b13, inn⟩ := rg_inner (pw := pw) hc (some (.ro ns)) (some (.im (Li xs))) (some (I pw)) (some (I (k : Nat))) (some (I num)) (some (I x)) (some (I e)) a10 (some (.im (.str (Str.ofString "not allowed")))) (some (I q)) a13
        have f := fin cs pw (some (I (k : Nat))) (some (I num)) (some (I x)) (some (I e)) a10 (some (.im (.str (Str.ofString "not allowed")))) (some (I q)) b13 hc hp
        by_cases c2 : 0 ≤ e ∧ e ≤ 2
        · have c3 : q ≤ nth cs e := c1.resolve_left fun z => z ⟨c2.1, by omega⟩
          have a := atI_nth (xs := cs) (i := e) (by omega)
          generalize nth cs e = v at *
          generalize rgF cs pw = R1 at *
          generalize rgF [0, 0, 0] (-1) = R2 at *
          generalize cs.map PyData.int = C at *
          simp (disch := first | omega | (simp; omega) | (simp; done) | fail) [rtn, rtx, me, mrs, mw, c5, c2.1, c2.2, c3, a, hq, tr, tc, inn, nss]
          exact f
        · generalize rgF cs pw = R1 at *
          generalize rgF [0, 0, 0] (-1) = R2 at *
          generalize cs.map PyData.int = C at *
          by_cases c3 : 0 ≤ e
          · have c4 : ¬ e ≤ 2 := fun z => c2 ⟨c3, z⟩
            simp (disch := first | omega | (simp; omega) | (simp; done) | fail) [rtn, rtx, me, mrs, mw, c5, c3, c4, hq, tr, tc, inn, nss]
            exact f
          · simp (disch := first | omega | (simp; omega) | (simp; done) | fail) [rtn, rtx, me, mrs, mw, c5, c3, hq, tr, tc, inn, nss]
            exact f
      · rw [if_neg c1] at tr
        have c2 : 0 ≤ e ∧ e ≤ 2 := by omega
        have c3 : ¬ q ≤ nth cs e := fun z => c1 (.inr z)
        have a := atI_nth (xs := cs) (i := e) (by omega)
        by_cases c4 : pw = 0
        · rw [if_pos c4] at tr
          have tr : f__law_told (rgF cs pw) [.im (.str "raise"), I e, I q] = .ok (.str "down") (rgF cs pw) := by rw [tr]; rfl
          have tc := told_count (cs := cs) (pw := pw) w 0 hw
          obtain ⟨b13, inn⟩ := rg_inner (pw := pw) hc (some (.ro ns)) (some (.im (Li xs))) (some (I pw)) (some (I (k : Nat))) (some (I num)) (some (I x)) (some (I e)) a10 (some (.im (.str (Str.ofString "down")))) (some (I q)) a13
          have f := fin cs pw (some (I (k : Nat))) (some (I num)) (some (I x)) (some (I e)) a10 (some (.im (.str (Str.ofString "down")))) (some (I q)) b13 hc hp
          generalize nth cs e = v at *
          generalize rgF cs pw = R1 at *
          generalize rgF [0, 0, 0] (-1) = R2 at *
          generalize cs.map PyData.int = C at *
          subst c4
          simp (disch := first | omega | (simp; omega) | (simp; done) | fail) [rtn, rtx, me, mrs, mw, c5, c2.1, c2.2, c3, a, hq, tr, tc, inn, nss, nsd]
          exact f
        · rw [if_neg c4] at tr
          have ix : ixN cs.length e = some e.toNat := by
            obtain ⟨k, rfl⟩ := Int.eq_ofNat_of_zero_le c2.1
            exact ixN_nat (by omega)
          obtain ⟨pw', hpw⟩ : ∃ pw', pw' = if 0 < pw then pw - 1 else pw := ⟨_, rfl⟩
          rw [← hpw] at tr
          have tr : f__law_told (rgF cs pw) [.im (.str "raise"), I e, I q] = .ok .none (rgF (cs.set e.toNat q) pw') := tr
          have hc' : (cs.set e.toNat q).length = 3 := by rw [List.length_set]; exact hc
          have hp' : -1 ≤ pw' := by rw [hpw]; split <;> omega
          have tc := told_count (cs := cs.set e.toNat q) (pw := pw') w 0 hw
          obtain ⟨b13, inn⟩ := rg_inner (pw := pw') hc' (some (.ro ns)) (some (.im (Li xs))) (some (I pw')) (some (I (k : Nat))) (some (I num)) (some (I x)) (some (I e)) a10 (some (.im .none)) (some (I q)) a13
          have f := fin (cs.set e.toNat q) pw' (some (I (k : Nat))) (some (I num)) (some (I x)) (some (I e)) a10 (some (.im .none)) (some (I q)) b13 hc' hp'
          have st : (cs.set e.toNat q).map PyData.int = (cs.map PyData.int).set e.toNat (.int q) := by rw [List.map_set]
          rw [st] at inn f
          have ix' : ixN (cs.map PyData.int).length e = some e.toNat := by rw [List.length_map]; exact ix
          generalize nth cs e = v at *
          generalize rgF cs pw = R1 at *
          generalize rgF (cs.set e.toNat q) pw' = R3 at *
          generalize rgF [0, 0, 0] (-1) = R2 at *
          generalize cs.map PyData.int = C at *
          generalize hC2 : C.set e.toNat (.int q) = C2 at *
          by_cases c6 : 0 < pw
          · rw [if_pos c6] at hpw
            subst hpw
            simp (disch := first | omega | (simp; omega) | (simp; done) | fail) [rtn, rtx, me, mrs, mw, c5, c2.1, c2.2, c3, c4, c6, a, ix', hC2, hq, tr, tc, inn, nss, nnn]
            exact f
          · rw [if_neg c6] at hpw
            subst hpw
            simp (disch := first | omega | (simp; omega) | (simp; done) | fail) [rtn, rtx, me, mrs, mw, c5, c2.1, c2.2, c3, c4, c6, a, ix', hC2, hq, tr, tc, inn, nss, nnn]
            exact f
  obtain ⟨δ', rfl, hh⟩ := key
  rw [hJ] at hh
  obtain ⟨cs, pw, a6, a7, a8, a9, a10, a11, a12, a13, _, _, rfl⟩ := hh
  simp


end
theorem txt_of {K : PySem.W.Frag} {h : Heap} {mg : Str → Option Value} (X : K.In h) (G : h.Ns mainGlobals mg) (s : SaysX fa fn xb K) : Txt K mg := by
  have hf : ∀ f ∈ exFa exs, f ∈ fa := fun f hf => List.mem_append_right _ hf
  have z : ∀ (i : Nat) (f : He.Fa), fa0[i]? = some f → f.ok K = true := fun i f e => SaysD.mem s.d (List.mem_append_left _ (List.mem_of_getElem? e))
  exact {
    ex := exF_of s.d hf s.x
    e_CloakError := exK_of X G s.d hf (by decide)
    e_NotAllowed := exK_of X G s.d hf (by decide)
    e_Down := exK_of X G s.d hf (by decide)
    c_Register := ⟨He.cls_ok (z 11 _ rfl), (by
      intro n h
      simp only [List.mem_cons, List.not_mem_nil, or_false] at h
      rcases h with rfl | rfl
      · exact He.noat_ok (z 12 _ rfl)
      · exact He.noat_ok (z 13 _ rfl)), (by
      intro n h
      simp only [List.mem_cons, List.not_mem_nil, or_false] at h
      rcases h with rfl | rfl | rfl | rfl
      · exact He.meth_ok (z 14 _ rfl)
      · exact He.meth_ok (z 15 _ rfl)
      · exact He.meth_ok (z 16 _ rfl)
      · exact He.meth_ok (z 17 _ rfl))⟩
    k_Register := ⟨He.glo_ok X G (z 18 _ rfl), He.mkr_ok (z 19 _ rfl)⟩
    i_EPOCHS := He.int_ok X G (z 0 _ rfl)
    z_abs := He.free_ok X G (z 1 _ rfl)
    z_int := He.free_ok X G (z 2 _ rfl)
    z_isinstance := He.free_ok X G (z 3 _ rfl)
    z_len := He.free_ok X G (z 4 _ rfl)
    z_range := He.free_ok X G (z 5 _ rfl)
    g_check_epoch := He.glo_ok X G (z 6 _ rfl)
    g__law_row := He.glo_ok X G (z 7 _ rfl)
    g__law_at := He.glo_ok X G (z 8 _ rfl)
    g__law_told := He.glo_ok X G (z 9 _ rfl)
    g_law := He.glo_ok X G (z 10 _ rfl)
    d_check_epoch := s.d.def_ 0 (d := ⟨("check_epoch", none), "check_epoch", "check_epoch", defArgs st_check_epoch, defBody st_check_epoch, defScope st_check_epoch, [], []⟩) rfl
    d__law_row := s.d.def_ 1 (d := ⟨("_law_row", none), "_law_row", "_law_row", defArgs st__law_row, defBody st__law_row, defScope st__law_row, [], []⟩) rfl
    d__law_at := s.d.def_ 2 (d := ⟨("_law_at", none), "_law_at", "_law_at", defArgs st__law_at, defBody st__law_at, defScope st__law_at, [], []⟩) rfl
    d_Register___init__ := s.d.def_ 3 (d := ⟨("Register", some "__init__"), "__init__", "Register.__init__", defArgs st_Register___init__, defBody st_Register___init__, defScope st_Register___init__, [], []⟩) rfl
    d_Register_supply := s.d.def_ 4 (d := ⟨("Register", some "supply"), "supply", "Register.supply", defArgs st_Register_supply, defBody st_Register_supply, defScope st_Register_supply, [], []⟩) rfl
    d_Register_count := s.d.def_ 5 (d := ⟨("Register", some "count"), "count", "Register.count", defArgs st_Register_count, defBody st_Register_count, defScope st_Register_count, [], []⟩) rfl
    d_Register_raise_to := s.d.def_ 6 (d := ⟨("Register", some "raise_to"), "raise_to", "Register.raise_to", defArgs st_Register_raise_to, defBody st_Register_raise_to, defScope st_Register_raise_to, [], []⟩) rfl
    d__law_told := s.d.def_ 7 (d := ⟨("_law_told", none), "_law_told", "_law_told", defArgs st__law_told, defBody st__law_told, defScope st__law_told, [], []⟩) rfl
    d_law := s.d.def_ 8 (d := ⟨("law", none), "law", "law", defArgs st_law, defBody st_law, defScope st_law, [], []⟩) rfl }

end WL
open PySem PySem.W PySem.Calls PyProof.Rows
set_option maxHeartbeats 0 in
theorem PySem.Challenge.cw_cloak_k56_registers_holds : PySem.Challenge.rw_cloak_k56_registers.Holds := by
  w_on; o_law
  refine HandSHeadRun.head_any (r := WL.Rw) (q := view WL.Rw.prog [12]) (H := WL.hk) (ob := WL.ob) (M := 3000) (loose := WL.loose) (d := HandSHeadRun.topDef WL.Rw.prog 12) (kwd := []) WL.ob_eq
    (by kernel_rfl) (fun s => by kernel_rfl) WL.run (by kernel_rfl) (by kernel_rfl) (by kernel_rfl) (by rfl) (by first | assumption | decide +kernel) (by decide +kernel) ⟨rfl, rfl, rfl, rfl, rfl, by decide +kernel⟩ ?hw ?hc
  case hw => w_witness2
  case hc =>
    refine DL.law_walk (l := PySem.Challenge.rw_cloak_k56_registers) (k := 4) (x := "_law_script") rfl (by kernel_rfl) ⟨rfl, by decide, by decide⟩ WL.law_true ?_
    intro w mg f h Y G hmg0
    obtain ⟨K, KX, c⟩ := Y
    have hmg : mg ("law" : PySem.Str) = some (.ref f) := by
      have e : (HandSHeadRun.topDef WL.Rw.prog 12).name = ("law" : PySem.Str) := by kernel_rfl
      rw [← e]
      exact hmg0
    have T := WL.txt_of KX G c
    obtain ⟨fd, F⟩ := T.d_law
    have ef : He.ga K "law" = f := by
      have e := T.g_law.symm.trans hmg
      cases e
      rfl
    subst ef
    have b := L2.FunD.bindsA (ps := ["_law_script"]) F (by
      intro _ _ _ _ _ _ us hl
      match us, hl with
      | [_], _ => kernel_rfl)
    refine ⟨K, fd, KX, fun s v => b s [v] rfl, fun base _ _ => ?_⟩
    exact WL.law_fn T F
