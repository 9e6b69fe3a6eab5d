import PyProof.Rows.All
import Wide.All
import OpenK.AllK
import Wide.FinOn
import HandS.ForMost
import HandS.ForExc
import HandS.Wide
import HandS.SortInts
import HandS.Strs
import HandS.Deep
import HandS.IsInst
import HandS.More
import HandS.Style
import HandS.TupLe
import PySem.Challenge.RW_nearposts_k32_whole_squares
set_option autoImplicit false
set_option Elab.async false
set_option linter.all false
set_option maxRecDepth 100000
set_option maxHeartbeats 4000000
namespace DL
variable {K : PySem.W.Frag}
open PySem L2
/-! values told as trees: what stands still (PyData), what one holds alone (OD) -/
mutual
inductive Dd (F : Hp) : V → PyData → Prop
  | non : Dd F .non .none
  | bl (b : Bool) : Dd F (.bl b) (.bool b)
  | int (i : Int) : Dd F (.int i) (.int i)
  | str (x : Str) : Dd F (.str x) (.str x)
  | lst {a vs ds} : F a = some (.lst vs) → DdL F vs ds → Dd F (.ref a) (.list ds)
  | tup {a vs ds} : F a = some (.tup vs) → DdL F vs ds → Dd F (.ref a) (.tuple ds)
inductive DdL (F : Hp) : List V → List PyData → Prop
  | nil : DdL F [] []
  | cons {v vs d ds} : Dd F v d → DdL F vs ds → DdL F (v :: vs) (d :: ds)
end
def Inc (F F' : Hp) : Prop := ∀ a o, F a = some o → F' a = some o
theorem Inc.rfl' {F : Hp} : Inc F F := fun _ _ h => h
theorem Inc.tr {F G H : Hp} (a : Inc F G) (b : Inc G H) : Inc F H := fun x o h => b x o (a x o h)
mutual
theorem Dd.inc {F F' : Hp} (e : Inc F F') : ∀ {v d}, Dd F v d → Dd F' v d
  | _, _, .non => .non
  | _, _, .bl b => .bl b
  | _, _, .int i => .int i
  | _, _, .str x => .str x
  | _, _, .lst h t => .lst (e _ _ h) (t.inc e)
  | _, _, .tup h t => .tup (e _ _ h) (t.inc e)
theorem DdL.inc {F F' : Hp} (e : Inc F F') : ∀ {v d}, DdL F v d → DdL F' v d
  | _, _, .nil => .nil
  | _, _, .cons h t => .cons (h.inc e) (t.inc e)
end
mutual
theorem Dd.dp {K : PySem.W.Frag} {F : Hp} : ∀ {v d}, Dd F v d → Dp K F v d
  | _, _, .non => .non
  | _, _, .bl b => .bl b
  | _, _, .int i => .int i
  | _, _, .str x => .str x
  | _, _, .lst h t => .lst (SqL.of h) t.dp
  | _, _, .tup h t => .tup (SqT.of h) t.dp
theorem DdL.dp {K : PySem.W.Frag} {F : Hp} : ∀ {v d}, DdL F v d → DpAll K F v d
  | _, _, .nil => .nil
  | _, _, .cons h t => .cons h.dp t.dp
end
theorem DdL.len {F : Hp} : ∀ {vs ds}, DdL F vs ds → vs.length = ds.length
  | _, _, .nil => rfl
  | _, _, .cons _ t => congrArg (· + 1) t.len
theorem DdL.get {F : Hp} : ∀ {vs ds} {i : Nat} {d}, DdL F vs ds → ds[i]? = some d → ∃ v, vs[i]? = some v ∧ Dd F v d
  | _, _, _, _, .nil, h => by simp at h
  | _, _, 0, _, .cons h _, e => by simp at e; subst e; exact ⟨_, rfl, h⟩
  | _, _, i + 1, _, .cons _ t, e => by simpa using t.get (i := i) (by simpa using e)
theorem DdL.getV {F : Hp} : ∀ {vs ds} {i : Nat} {v}, DdL F vs ds → vs[i]? = some v → ∃ d, ds[i]? = some d ∧ Dd F v d
  | _, _, _, _, .nil, h => by simp at h
  | _, _, 0, _, .cons h _, e => by simp at e; subst e; exact ⟨_, rfl, h⟩
  | _, _, i + 1, _, .cons _ t, e => by simpa using t.getV (i := i) (by simpa using e)
theorem DdL.app {F : Hp} : ∀ {vs ds ws es}, DdL F vs ds → DdL F ws es → DdL F (vs ++ ws) (ds ++ es)
  | _, _, _, _, .nil, t => t
  | _, _, _, _, .cons h r, t => .cons h (r.app t)
theorem DdL.take {F : Hp} : ∀ {vs ds} (n : Nat), DdL F vs ds → DdL F (vs.take n) (ds.take n)
  | _, _, 0, _ => by simpa using DdL.nil
  | _, _, n + 1, .nil => by simpa using DdL.nil
  | _, _, n + 1, .cons h t => by simpa using DdL.cons h (t.take n)
theorem DdL.drop {F : Hp} : ∀ {vs ds} (n : Nat), DdL F vs ds → DdL F (vs.drop n) (ds.drop n)
  | _, _, 0, h => by simpa using h
  | _, _, n + 1, .nil => by simpa using DdL.nil
  | _, _, n + 1, .cons h t => by simpa using t.drop n
theorem DdL.set {F : Hp} : ∀ {vs ds} (n : Nat) {v d}, DdL F vs ds → Dd F v d → DdL F (vs.set n v) (ds.set n d)
  | _, _, _, _, _, .nil, _ => by simpa using DdL.nil
  | _, _, 0, _, _, .cons h t, e => .cons e t
  | _, _, n + 1, _, _, .cons h t, e => .cons h (t.set n e)
theorem DdL.ints {F : Hp} : ∀ {vs} {ns : List Int}, DdL F vs (ns.map .int) → vs = ns.map V.int
  | _, [], .nil => rfl
  | _, n :: ns, .cons h t => by cases h; rw [t.ints]; rfl
theorem DdL.of_ints {F : Hp} : ∀ {ns : List Int}, DdL F (ns.map V.int) (ns.map .int)
  | [] => .nil
  | n :: ns => .cons (.int n) DdL.of_ints
theorem DdL.strs {F : Hp} : ∀ {vs} {ns : List Str}, DdL F vs (ns.map .str) → vs = ns.map V.str
  | _, [], .nil => rfl
  | _, n :: ns, .cons h t => by cases h; rw [t.strs]; rfl
theorem DdL.of_strs {F : Hp} : ∀ {ns : List Str}, DdL F (ns.map V.str) (ns.map .str)
  | [] => .nil
  | n :: ns => .cons (.str n) DdL.of_strs
theorem DdL.bls {F : Hp} : ∀ {vs} {ns : List Bool}, DdL F vs (ns.map .bool) → vs = ns.map V.bl
  | _, [], .nil => rfl
  | _, n :: ns, .cons h t => by cases h; rw [t.bls]; rfl

theorem sqInc {F F' : Hp} {a : Addr} {xs : List V} (e : Inc F F') (h : SqL K F a xs) : SqL K F' a xs := by
  rcases h with (h | ⟨o, h⟩) | h
  · exact .inl (.inl (e _ _ h))
  · exact .inl (.inr ⟨o, e _ _ h⟩)
  · exact .inr h
/-- what a name may hold: nothing known; what stands still; a list of one's own; a tuple of such; the script -/
inductive OD where
  | h
  | p (d : PyData)
  | l (xs : List OD)
  | t (xs : List OD)
  | sc (ns : List Int)
  /-- an error kept: its class's name, its field -/
  | er (C : Str) (f : Option (Str × PyData))
  /-- an instance of one's own class: the class's name, its fields -/
  | ob (C : Str) (ns : List Str) (xs : List OD)
/-- an error object -/
def erO (a : Addr) (cls : Value) (d : Option Addr) : HO := .ext fun h => ∃ oe vs, h.get? a = some oe ∧ Zc cls d oe ∧ oe.data = .fields vs
def ErF (F : Hp) (d : Option Addr) : Option (Str × PyData) → Prop
  | none => d = none
  | some (n, pd) => ∃ dd v, d = some dd ∧ F dd = some (.xd [(n, v)]) ∧ Dd F v pd
def ErAt (K : PySem.W.Frag) (F : Hp) (a : Addr) (C : Str) (f : Option (Str × PyData)) : Prop := ∃ Ca d, PySem.W.nsIn K mainGlobals C = some (some (.ref Ca)) ∧ F a = some (erO a (.ref Ca) d) ∧ ErF F d f
theorem ErAt.inc {F F' : Hp} {a C f} (e : Inc F F') (h : ErAt K F a C f) : ErAt K F' a C f := by
  obtain ⟨Ca, d, h1, h2, h3⟩ := h
  refine ⟨Ca, d, h1, e _ _ h2, ?_⟩
  cases f with
  | none => exact h3
  | some p => obtain ⟨dd, v, p1, p2, p3⟩ := h3; exact ⟨dd, v, p1, e _ _ p2, p3.inc e⟩
abbrev Fp := Addr → Prop
mutual
inductive Ow (K : PySem.W.Frag) (F H : Hp) : V → OD → Fp → Prop
  | h {v fp} : Ow K F H v .h fp
  | p {v d fp} : Dd F v d → Ow K F H v (.p d) fp
  | l {a vs xs} {fp fq : Fp} : fp a → H a = some (.lst vs) → Ows K F H (vs.map some) xs fq → (∀ b, fq b → fp b ∧ b ≠ a) → Ow K F H (.ref a) (.l xs) fp
  | t {a vs xs fp} : F a = some (.tup vs) → Ows K F H (vs.map some) xs fp → Ow K F H (.ref a) (.t xs) fp
  | sc {a ns fp} : SqL K F a (ns.map V.int) → Ow K F H (.ref a) (.sc ns) fp
  | er {a C f fp} : ErAt K F a C f → Ow K F H (.ref a) (.er C f) fp
  | ob {a dx Ca vs C ns xs} {fp fq : Fp} : fp a → fp dx → H a = some (.ins Ca dx (ns.zip vs)) → H dx = some (.own a) → PySem.W.nsIn K mainGlobals C = some (some (.ref Ca)) ∧ vs.length = ns.length → Ows K F H (vs.map some) xs fq → (∀ b, fq b → fp b ∧ b ≠ a ∧ b ≠ dx) → Ow K F H (.ref a) (.ob C ns xs) fp
inductive Ows (K : PySem.W.Frag) (F H : Hp) : List (Option V) → List OD → Fp → Prop
  | nil {fp} : Ows K F H [] [] fp
  | hole {u us xs fp} : Ows K F H us xs fp → Ows K F H (u :: us) (.h :: xs) fp
  | cons {v x us xs} {fp f1 f2 : Fp} : Ow K F H v x f1 → Ows K F H us xs f2 → (∀ b, f1 b → fp b) → (∀ b, f2 b → fp b) → (∀ b, f1 b → ¬ f2 b) → Ows K F H (some v :: us) (x :: xs) fp
end
theorem Ow.weak {F H : Hp} {v x} {fp fq : Fp} (h : Ow K F H v x fp) (s : ∀ b, fp b → fq b) : Ow K F H v x fq := by
  have go : ∀ {us xs} {fp fq : Fp}, Ows K F H us xs fp → (∀ b, fp b → fq b) → Ows K F H us xs fq := by
    intro us
    induction us with
    | nil => intro xs fp fq h s; cases h; exact .nil
    | cons u us ih =>
      intro xs fp fq h s
      cases h with
      | hole t => exact .hole (ih t s)
      | cons a b c d e => exact .cons a b (fun _ q => s _ (c _ q)) (fun _ q => s _ (d _ q)) e
  cases h with
  | h => exact .h
  | p d => exact .p d
  | l a b c d => exact .l (s _ a) b c fun _ q => ⟨s _ (d _ q).1, (d _ q).2⟩
  | t a b => exact .t a (go b s)
  | sc a => exact .sc a
  | er a => exact .er a
  | ob a b c d e f g => exact .ob (s _ a) (s _ b) c d e f fun _ q => ⟨s _ (g _ q).1, (g _ q).2⟩
theorem Ows.weak {F H : Hp} : ∀ {us xs} {fp fq : Fp}, Ows K F H us xs fp → (∀ b, fp b → fq b) → Ows K F H us xs fq
  | _, _, _, _, .nil, _ => .nil
  | _, _, _, _, .hole t, s => .hole (t.weak s)
  | _, _, _, _, .cons a b c d e, s => .cons a b (fun _ q => s _ (c _ q)) (fun _ q => s _ (d _ q)) e
mutual
theorem Ow.mono {F H F' H' : Hp} (e : Inc F F') : ∀ {v x fp}, Ow K F H v x fp → (∀ a, fp a → H' a = H a) → Ow K F' H' v x fp
  | _, _, _, .h, _ => .h
  | _, _, _, .p d, _ => .p (d.inc e)
  | _, _, _, .l a b c d, k => .l a ((k _ a).trans b) (c.mono e fun b q => k b (d b q).1) d
  | _, _, _, .t a b, k => .t (e _ _ a) (b.mono e k)
  | _, _, _, .sc a, _ => .sc (sqInc e a)
  | _, _, _, .er a, _ => .er (a.inc e)
  | _, _, _, .ob a b c d g f q, k => .ob a b ((k _ a).trans c) ((k _ b).trans d) g (f.mono e fun b z => k b (q b z).1) q
theorem Ows.mono {F H F' H' : Hp} (e : Inc F F') : ∀ {v x fp}, Ows K F H v x fp → (∀ a, fp a → H' a = H a) → Ows K F' H' v x fp
  | _, _, _, .nil, _ => .nil
  | _, _, _, .hole t, k => .hole (t.mono e k)
  | _, _, _, .cons a b c d f, k => .cons (a.mono e fun b q => k b (c b q)) (b.mono e fun b q => k b (d b q)) c d f
end
/-- the state: F stands still within H; fp is held alone -/
structure RS (F H : Hp) (fp : Fp) : Prop where
  sub : Inc F H
  own : ∀ a, fp a → F a = none ∧ H a ≠ none
/-- a step: what stood still stands; what is neither held nor new is as it was -/
structure Stp (F H : Hp) (fp : Fp) (F' H' : Hp) (fp' : Fp) : Prop where
  inc : Inc F F'
  keep : ∀ a, ¬ fp a → H a ≠ none → H' a = H a ∧ F' a = F a
  new : ∀ a, fp' a → fp a ∨ H a = none
  rs : RS F' H' fp'
abbrev Un2 (f g : Fp) : Fp := fun a => f a ∨ g a
abbrev Dj (f g : Fp) : Prop := ∀ a, f a → ¬ g a
theorem Stp.rfl' {F H : Hp} {fp : Fp} (r : RS F H fp) : Stp F H fp F H fp := ⟨Inc.rfl', fun _ _ _ => ⟨rfl, rfl⟩, fun _ h => .inl h, r⟩
theorem Stp.less {F H F' H' : Hp} {fp f1 f2 : Fp} (s : Stp F H fp F' H' f1) (l : ∀ a, f2 a → f1 a) : Stp F H fp F' H' f2 :=
  ⟨s.inc, s.keep, fun a h => s.new a (l a h), ⟨s.rs.sub, fun a h => s.rs.own a (l a h)⟩⟩
theorem Stp.from {F H F' H' : Hp} {fp fq f1 : Fp} (s : Stp F H fp F' H' f1) (l : ∀ a, fp a → fq a) : Stp F H fq F' H' f1 :=
  ⟨s.inc, fun a n => s.keep a fun q => n (l a q), fun a h => (s.new a h).imp_left (l a), s.rs⟩
theorem Stp.tr {F H F1 H1 F2 H2 : Hp} {f f1 f2 : Fp} (s : Stp F H f F1 H1 f1) (t : Stp F1 H1 f1 F2 H2 f2) : Stp F H f F2 H2 f2 where
  inc := s.inc.tr t.inc
  keep := fun a n e => by
    have k := s.keep a n e
    have n1 : ¬ f1 a := fun q => (s.new a q).elim n e
    have k2 := t.keep a n1 (by rw [k.1]; exact e)
    exact ⟨k2.1.trans k.1, k2.2.trans k.2⟩
  new := fun a q => by
    rcases t.new a q with q | q
    · exact s.new a q
    · by_cases hf : f a
      · exact .inl hf
      · by_cases e : H a = none
        · exact .inr e
        · have k := s.keep a hf e
          exact absurd (k.1 ▸ q) e
  rs := t.rs
/-- what is held beside stays held -/
theorem Stp.frame {F H F' H' : Hp} {f f' g : Fp} (s : Stp F H f F' H' f') (d : Dj g f) (o : ∀ a, g a → F a = none ∧ H a ≠ none) : Stp F H (Un2 f g) F' H' (Un2 f' g) where
  inc := s.inc
  keep := fun a n e => s.keep a (fun q => n (.inl q)) e
  new := fun a q => q.elim (fun q => (s.new a q).imp_left .inl) fun q => .inl (.inr q)
  rs := ⟨s.rs.sub, fun a q => q.elim (s.rs.own a) fun q => by
    have k := s.keep a (d a q) (o a q).2
    exact ⟨k.2.trans (o a q).1, by rw [k.1]; exact (o a q).2⟩⟩
theorem Stp.dj {F H F' H' : Hp} {f f' g : Fp} (s : Stp F H f F' H' f') (d : Dj g f) (o : ∀ a, g a → H a ≠ none) : Dj g f' := fun a q z =>
  (s.new a z).elim (d a q) (o a q)
theorem Ow.step {F H F' H' : Hp} {f f' g : Fp} {v x} (s : Stp F H f F' H' f') (d : Dj g f) (o : ∀ a, g a → H a ≠ none) (w : Ow K F H v x g) : Ow K F' H' v x g :=
  w.mono s.inc fun a q => (s.keep a (d a q) (o a q)).1
theorem Ows.step {F H F' H' : Hp} {f f' g : Fp} {v x} (s : Stp F H f F' H' f') (d : Dj g f) (o : ∀ a, g a → H a ≠ none) (w : Ows K F H v x g) : Ows K F' H' v x g :=
  w.mono s.inc fun a q => (s.keep a (d a q) (o a q)).1
/-- a new object, held alone -/
theorem Stp.newOwn {F H : Hp} {fp : Fp} {a : Addr} {o : HO} (r : RS F H fp) (n : H a = none) : Stp F H fp F (upd H a o) (Un2 (fun b => b = a) fp) where
  inc := Inc.rfl'
  keep := fun b _ e => ⟨upd_ne fun z => e (z ▸ n), rfl⟩
  new := fun b q => q.elim (fun q => .inr (q ▸ n)) .inl
  rs := ⟨fun b u e => by
    have h := r.sub b u e
    rw [upd_ne (ne_of_none h n)]; exact h, fun b q => q.elim (fun q => by
      subst q
      refine ⟨?_, by rw [upd_same]; exact Option.some_ne_none _⟩
      cases e : F b with
      | none => rfl
      | some u => have := r.sub b u e; rw [n] at this; cases this) fun q => by
      have k := r.own b q
      exact ⟨k.1, by
        have ne : b ≠ a := fun z => k.2 (by rw [z]; exact n)
        rw [upd_ne ne]; exact k.2⟩⟩
/-- a new object that stands still -/
theorem Stp.newPure {F H : Hp} {fp : Fp} {a : Addr} {o : HO} (r : RS F H fp) (n : H a = none) : Stp F H fp (upd F a o) (upd H a o) fp where
  inc := fun b u e => by
    have h := r.sub b u e
    rw [upd_ne (ne_of_none h n)]; exact e
  keep := fun b _ e => by
    have ne : b ≠ a := fun z => e (z ▸ n)
    exact ⟨upd_ne ne, upd_ne ne⟩
  new := fun b q => .inl q
  rs := ⟨fun b u e => by
    by_cases hb : b = a
    · subst hb; rw [upd_same] at *; exact e
    · rw [upd_ne hb] at *; exact r.sub b u e, fun b q => by
      have k := r.own b q
      have ne : b ≠ a := fun z => k.2 (z ▸ n)
      rw [upd_ne ne, upd_ne ne]; exact k⟩
/-- an object held alone is changed -/
theorem Stp.put {F H : Hp} {fp : Fp} {a : Addr} {o : HO} (r : RS F H fp) (q : fp a) : Stp F H fp F (upd H a o) fp where
  inc := Inc.rfl'
  keep := fun b n _ => ⟨upd_ne fun z => n (z ▸ q), rfl⟩
  new := fun b q => .inl q
  rs := ⟨fun b u e => by
    have ne : b ≠ a := fun z => by subst z; rw [(r.own b q).1] at e; cases e
    rw [upd_ne ne]; exact r.sub b u e, fun b q' => ⟨(r.own b q').1, by
      by_cases hb : b = a
      · subst hb; rw [upd_same]; exact Option.some_ne_none _
      · rw [upd_ne hb]; exact (r.own b q').2⟩⟩
open Classical in
/-- what was held alone stands still from here on -/
noncomputable def fz (F H : Hp) (g : Fp) : Hp := fun a => if g a then H a else F a
theorem fz_in {F H : Hp} {g : Fp} {a : Addr} (q : g a) : fz F H g a = H a := if_pos q
theorem fz_out {F H : Hp} {g : Fp} {a : Addr} (q : ¬ g a) : fz F H g a = F a := if_neg q
theorem fz_inc {F H : Hp} {g : Fp} (s : Inc F H) : Inc F (fz F H g) := fun a o e => by
  by_cases q : g a
  · rw [fz_in q]; exact s a o e
  · rw [fz_out q]; exact e
theorem Stp.freeze {F H : Hp} {g fp : Fp} (r : RS F H (Un2 g fp)) (d : Dj g fp) : Stp F H (Un2 g fp) (fz F H g) H fp where
  inc := fz_inc r.sub
  keep := fun a n e => ⟨rfl, fz_out fun q => n (.inl q)⟩
  new := fun a q => .inl (.inr q)
  rs := ⟨fun a o e => by
    by_cases q : g a
    · rw [fz_in q] at e; exact e
    · rw [fz_out q] at e; exact r.sub a o e, fun a q => by
      rw [fz_out fun z => d a z q]; exact r.own a (.inr q)⟩
mutual
/-- the tree as it stands still -/
def frz : OD → Option PyData
  | .p d => some d
  | .l xs => (frzs xs).map .list
  | .t xs => (frzs xs).map .tuple
  | .h => none
  | .sc _ => none
  | .er _ _ => none
  | .ob _ _ _ => none
def frzs : List OD → Option (List PyData)
  | [] => some []
  | x :: xs => (frz x).bind fun d => (frzs xs).map (d :: ·)
end
mutual
theorem Ow.fz {F H : Hp} (s : Inc F H) : ∀ {v x} {fp g : Fp} {d}, Ow K F H v x fp → (∀ a, fp a → g a) → frz x = some d → Dd (DL.fz F H g) v d
  | _, _, _, _, _, .h, _, e => by cases e
  | _, _, _, _, _, .p q, _, e => by cases e; exact q.inc (fz_inc s)
  | _, .l xs, _, g, _, .l a b c d, k, e => by
    unfold frz at e
    cases q : frzs xs with
    | none => rw [q] at e; cases e
    | some ds =>
      rw [q] at e; cases e
      exact .lst ((fz_in (k _ a)).trans b) (c.fz s (fun b z => k b (d b z).1) q)
  | _, .t xs, _, g, _, .t a b, k, e => by
    unfold frz at e
    cases q : frzs xs with
    | none => rw [q] at e; cases e
    | some ds =>
      rw [q] at e; cases e
      exact .tup (fz_inc s _ _ a) (b.fz s k q)
  | _, _, _, _, _, .sc _, _, e => by cases e
  | _, _, _, _, _, .er _, _, e => by cases e
  | _, _, _, _, _, .ob _ _ _ _ _ _ _, _, e => by cases e
theorem Ows.fz {F H : Hp} (s : Inc F H) : ∀ {vs : List V} {xs} {fp g : Fp} {ds}, Ows K F H (vs.map some) xs fp → (∀ a, fp a → g a) → frzs xs = some ds → DdL (DL.fz F H g) vs ds
  | [], _, _, _, _, .nil, _, e => by cases e; exact .nil
  | v :: vs, .h :: xs, _, _, _, .hole t, _, e => by
    unfold frzs at e; unfold frz at e; cases e
  | v :: vs, x :: xs, _, g, _, .cons a b c c2 f, k, e => by
    unfold frzs at e
    cases q : frz x with
    | none => rw [q] at e; cases e
    | some d =>
      rw [q] at e
      cases q2 : frzs xs with
      | none => rw [q2] at e; cases e
      | some ds =>
        rw [q2] at e; cases e
        exact .cons (a.fz s (fun b z => k b (c b z)) q) (b.fz s (fun a z => k a (c2 a z)) q2)
end
theorem frzs_p (ds : List PyData) : frzs (ds.map .p) = some ds := by
  induction ds with
  | nil => rfl
  | cons d ds ih => simp [frzs, frz, ih]
theorem Ows.pure {F H : Hp} : ∀ {vs : List V} {ds : List PyData} {fp : Fp}, Ows K F H (vs.map some) (ds.map .p) fp → DdL F vs ds
  | [], [], _, .nil => .nil
  | v :: vs, d :: ds, _, .cons (.p a) b _ _ _ => .cons a b.pure
theorem Ows.of_pure {F H : Hp} {fp : Fp} : ∀ {vs : List V} {ds : List PyData}, DdL F vs ds → Ows K F H (vs.map some) (ds.map .p) fp
  | _, _, .nil => .nil
  | _, _, .cons a b => .cons (f1 := fun _ => False) (f2 := fp) (.p a) (Ows.of_pure b) (fun _ z => z.elim) (fun _ z => z) fun _ z => z.elim
theorem Ows.len {F H : Hp} : ∀ {us xs fp}, Ows K F H us xs fp → us.length = xs.length
  | _, _, _, .nil => rfl
  | _, _, _, .hole t => congrArg (· + 1) t.len
  | _, _, _, .cons _ t _ _ _ => congrArg (· + 1) t.len
/-- one place looked at: what is there, and the rest with a hole -/
theorem Ows.get {F H : Hp} : ∀ {us xs} {fp : Fp} {i : Nat} {x}, Ows K F H us xs fp → xs[i]? = some x → x ≠ .h →
    ∃ v f1 f2, us[i]? = some (some v) ∧ Ow K F H v x f1 ∧ Ows K F H us (xs.set i .h) f2 ∧ (∀ b, f1 b → fp b) ∧ (∀ b, f2 b → fp b) ∧ Dj f1 f2
  | _, _, _, _, _, .nil, h, _ => by simp at h
  | _, _, _, 0, _, .hole t, h, n => by simp at h; exact absurd h.symm n
  | _, _, _, i + 1, _, .hole t, h, n => by
    obtain ⟨v, f1, f2, a, b, c, d, e, f⟩ := t.get (i := i) (by simpa using h) n
    exact ⟨v, f1, f2, by simpa using a, b, .hole c, d, e, f⟩
  | _, _, _, 0, _, .cons a b c d e, h, _ => by
    simp at h; subst h
    exact ⟨_, _, _, rfl, a, .hole b, c, d, e⟩
  | _, _, _, i + 1, x, .cons (f1 := g1) (f2 := g2) a b c d e, h, n => by
    obtain ⟨v, f1, f2, a', b', c', d', e', f'⟩ := b.get (i := i) (by simpa using h) n
    refine ⟨v, f1, Un2 g1 f2, by simpa using a', b', .cons (f1 := g1) (f2 := f2) a c' (fun _ z => .inl z) (fun _ z => .inr z) (fun q z z2 => e q z (e' q z2)), fun q z => d q (d' q z), fun q z => z.elim (c q) fun z => d q (e' q z), fun q z z2 => ?_⟩
    exact z2.elim (fun z2 => e q z2 (d' q z)) (f' q z)
theorem Ows.drop1 {F H : Hp} : ∀ {us xs} {fp : Fp} (i : Nat), Ows K F H us xs fp → Ows K F H us (xs.set i .h) fp
  | _, _, _, _, .nil => by simpa using Ows.nil
  | _, _, _, 0, .hole t => .hole t
  | _, _, _, i + 1, .hole t => .hole (t.drop1 i)
  | _, _, _, 0, .cons a b c d e => .hole (b.weak d)
  | _, _, _, i + 1, .cons a b c d e => .cons a (b.drop1 i) c d e
/-- a place stored to, what was there dropped -/
theorem Ows.store {F H : Hp} {v : V} {x : OD} {g : Fp} (w : Ow K F H v x g) : ∀ {us xs} {fp : Fp} (i : Nat), Ows K F H us xs fp → Dj g fp → Ows K F H (us.set i (some v)) (xs.set i x) (Un2 g fp)
  | _, _, _, _, .nil, _ => by simpa using Ows.nil
  | _, _, fp, 0, .hole t, dj => .cons (f1 := g) (f2 := fp) w t (fun _ z => .inl z) (fun _ z => .inr z) dj
  | _, _, fp, i + 1, .hole t, dj => .hole (Ows.store w i t dj)
  | _, _, fp, 0, .cons (f2 := g2) a b c d e, dj => .cons (f1 := g) (f2 := g2) w b (fun _ z => .inl z) (fun _ z => .inr (d _ z)) fun q z z2 => dj q z (d q z2)
  | _, _, fp, i + 1, .cons (f1 := g1) (f2 := g2) a b c d e, dj =>
    .cons (f1 := g1) (f2 := Un2 g g2) a (Ows.store w i b fun q z z2 => dj q z (d q z2)) (fun _ z => .inr (c _ z)) (fun q z => z.elim .inl fun z => .inr (d q z))
      fun q z z2 => z2.elim (fun z2 => dj q z2 (c q z)) (e q z)
theorem Ows.put {F H : Hp} {v : V} {x : OD} {g : Fp} (w : Ow K F H v x g) {us xs} {fp : Fp} {i : Nat} (t : Ows K F H us xs fp) (e : us[i]? = some (some v)) (dj : Dj g fp) : Ows K F H us (xs.set i x) (Un2 g fp) := by
  have h := Ows.store w i t dj
  have e2 : us.set i (some v) = us := by
    apply List.ext_getElem?
    intro j
    by_cases hj : j = i
    · subst hj
      obtain ⟨hl, _⟩ := List.getElem?_eq_some_iff.mp e
      rw [List.getElem?_set_self hl, e]
    · rw [List.getElem?_set_ne (Ne.symm hj)]
  rw [e2] at h; exact h
theorem Ows.app {F H : Hp} {us xs} {f : Fp} (t : Ows K F H us xs f) : ∀ {vs ys} {fp : Fp}, Ows K F H vs ys fp → Dj f fp → Ows K F H (vs ++ us) (ys ++ xs) (Un2 fp f)
  | _, _, _, .nil, _ => t.weak fun _ z => .inr z
  | _, _, _, .hole q, dj => .hole (Ows.app t q dj)
  | _, _, _, .cons (f1 := g1) (f2 := g2) a b c d e, dj => .cons (f1 := g1) (f2 := Un2 g2 f) a (Ows.app t b fun q z z2 => dj q z (d q z2)) (fun _ z => .inl (c _ z)) (fun q z => z.elim (fun z => .inl (d q z)) .inr)
      fun q z z2 => z2.elim (e q z) fun z2 => dj q z2 (c q z)
theorem Ow.np {F H : Hp} {v d} {fp fq : Fp} (h : Ow K F H v (.p d) fp) : Ow K F H v (.p d) fq := by cases h with | p q => exact .p q
theorem Ows.one {F H : Hp} {v x} {fp : Fp} (h : Ow K F H v x fp) : Ows K F H [some v] [x] fp := .cons (f1 := fp) (f2 := fun _ => False) h .nil (fun _ z => z) (fun _ z => z.elim) fun _ _ z => z
end DL

namespace DL
variable {K : PySem.W.Frag}
open PySem L2
abbrev Env' := List OD
/-- how an evaluation ends: no word, a value, an error -/
inductive R (α : Type) where
  | st
  | ok (a : α) (env : Env')
  | ex (C : Str) (f : Option (Str × PyData)) (env : Env')
def R.bind {α β : Type} (r : R α) (k : α → Env' → R β) : R β := match r with
  | .st => .st
  | .ok a e => k a e
  | .ex C f e => .ex C f e
@[simp] theorem R.bind_ok {α β : Type} (a : α) (e : Env') (k : α → Env' → R β) : (R.ok a e).bind k = k a e := rfl
@[simp] theorem R.bind_st {α β : Type} (k : α → Env' → R β) : (R.st : R α).bind k = .st := rfl
@[simp] theorem R.bind_ex {α β : Type} (C f) (e : Env') (k : α → Env' → R β) : (R.ex C f e : R α).bind k = .ex C f e := rfl
def R.of {α : Type} (o : Option α) (e : Env') : R α := match o with
  | some a => .ok a e
  | none => .st
@[simp] theorem R.of_some {α : Type} (a : α) (e : Env') : R.of (some a) e = .ok a e := rfl
@[simp] theorem R.of_none {α : Type} (e : Env') : R.of (none : Option α) e = .st := rfl
abbrev Mg := Str → Option Value
/-- what is wished of an error -/
def ExK (mg : Mg) (W : WX) (C : Str) (f : Option (Str × PyData)) (F H : Hp) (σ : L2.St) : Prop :=
  ∀ Ca d, mg C = some (.ref Ca) → (match f with
    | none => d = none
    | some (n, pd) => ∃ a v, d = some a ∧ F a = some (.xd [(n, v)]) ∧ Dd F v pd) → W (.ref Ca) d σ H
section
variable (K : PySem.W.Frag) (mg : Mg) (W : WX) (F H : Hp) (fp : Fp) (σ : L2.St)
def PoX (C : Str) (f : Option (Str × PyData)) (env' : Env') : Prop := ∀ F' H' fp', Stp F H fp F' H' fp' → Ows K F' H' σ env' fp' → ExK mg W C f F' H' σ
def PoE (Q : VK) : R OD → Prop
  | .st => False
  | .ok d env' => ∀ v F' H' fv fp', Stp F H fp F' H' (Un2 fv fp') → Dj fv fp' → Ow K F' H' v d fv → Ows K F' H' σ env' fp' → Q v H'
  | .ex C f env' => PoX K mg W F H fp σ C f env'
def PoA (Q : List V → Hp → Prop) : R (List OD) → Prop
  | .st => False
  | .ok d env' => ∀ v F' H' fv fp', Stp F H fp F' H' (Un2 fv fp') → Dj fv fp' → Ows K F' H' (v.map some) d fv → Ows K F' H' σ env' fp' → Q v H'
  | .ex C f env' => PoX K mg W F H fp σ C f env'
def PoT (Q : Bool → Hp → Prop) : R Bool → Prop
  | .st => False
  | .ok b env' => ∀ F' H' fp', Stp F H fp F' H' fp' → Ows K F' H' σ env' fp' → Q b H'
  | .ex C f env' => PoX K mg W F H fp σ C f env'
end
/-- an operand: a value by itself, or what a name holds -/
inductive Opd where
  | val (x : OD)
  | slot (i : Nat)
/-- what a place holds, if anything is known -/
def lk (env : Env') (i : Nat) : Option OD := match env[i]? with
  | some .h => none
  | o => o
def Opd.at (env : Env') : Opd → Option OD
  | .val x => some x
  | .slot i => lk env i
theorem lk_some {env : Env'} {i : Nat} {x : OD} (e : lk env i = some x) : env[i]? = some x ∧ x ≠ .h := by
  unfold lk at e
  split at e
  · cases e
  · rename_i o h
    exact ⟨e, fun z => by subst z; exact h e⟩
def PoV (K : PySem.W.Frag) (mg : Mg) (W : WX) (F H : Hp) (fp : Fp) (σ : L2.St) (Q : VK) : R Opd → Prop
  | .st => False
  | .ok (.val d) env' => ∀ v F' H' fv fp', Stp F H fp F' H' (Un2 fv fp') → Dj fv fp' → Ow K F' H' v d fv → Ows K F' H' σ env' fp' → Q v H'
  | .ok (.slot i) env' => ∀ v F' H' fp', Stp F H fp F' H' fp' → Ows K F' H' σ env' fp' → σ[i]? = some (some v) → Q v H'
  | .ex C f env' => PoX K mg W F H fp σ C f env'
def dTE (K : PySem.W.Frag) (mg : Mg) (W : WX) (f : Env' → R OD) : TE := fun σ H Q => ∃ F env fp, RS F H fp ∧ Ows K F H σ env fp ∧ PoE K mg W F H fp σ Q (f env)
def dTA (K : PySem.W.Frag) (mg : Mg) (W : WX) (f : Env' → R (List OD)) : TA := fun σ H Q => ∃ F env fp, RS F H fp ∧ Ows K F H σ env fp ∧ PoA K mg W F H fp σ Q (f env)
def dTT (K : PySem.W.Frag) (mg : Mg) (W : WX) (f : Env' → R Bool) : TT := fun σ H Q => ∃ F env fp, RS F H fp ∧ Ows K F H σ env fp ∧ PoT K mg W F H fp σ Q (f env)
def dTV (K : PySem.W.Frag) (mg : Mg) (W : WX) (f : Env' → R Opd) : TE := fun σ H Q => ∃ F env fp, RS F H fp ∧ Ows K F H σ env fp ∧ PoV K mg W F H fp σ Q (f env)
abbrev DE (X : Cx) (W : WX) (e : Expr) (f : Env' → R OD) : Prop := PE X e (dTE X.K X.mg W f)
abbrev DV (X : Cx) (W : WX) (e : Expr) (f : Env' → R Opd) : Prop := PE X e (dTV X.K X.mg W f)
abbrev DT (X : Cx) (W : WX) (e : Expr) (f : Env' → R Bool) : Prop := PT X e (dTT X.K X.mg W f)
theorem pe_weak {X : Cx} {e : Expr} {t u : TE} (h : PE X e t) (w : ∀ σ H Q, u σ H Q → t σ H Q) : PE X e u := ⟨fun pins s σ H Q I q => h.run pins s σ H Q I (w σ H Q q)⟩
theorem pt_weak {X : Cx} {e : Expr} {t u : TT} (h : PT X e t) (w : ∀ σ H Q, u σ H Q → t σ H Q) : PT X e u := ⟨fun pins s σ H Q I q => h.run pins s σ H Q I (w σ H Q q)⟩
theorem pw_weak {X : Cx} {e : Expr} {t u : TT} (h : PW X e t) (w : ∀ σ H Q, u σ H Q → t σ H Q) : PW X e u := ⟨fun wh pins s σ H Q I q => h.run wh pins s σ H Q I (w σ H Q q)⟩
theorem ps_weak {X : Cx} {e : Stmt} {t u : TS} (h : PS X e t) (w : ∀ D σ H, u D σ H → t D σ H) : PS X e u := ⟨fun pins s σ H D I q => h.run pins s σ H D I (w D σ H q)⟩
theorem pss_weak {X : Cx} {e : List Stmt} {t u : TS} (h : PSs X e t) (w : ∀ D σ H, u D σ H → t D σ H) : PSs X e u := ⟨fun pins s σ H D I q => h.run pins s σ H D I (w D σ H q)⟩
section
variable {mg : Mg} {W : WX} {F H F1 H1 : Hp} {fp f1 fq : Fp} {σ : L2.St} {env env1 : Env'} {Q : VK}
theorem PoX.step {C f e'} (s : Stp F H fp F1 H1 fq) (l : ∀ a, f1 a → fq a) (h : PoX K mg W F H fp σ C f e') : PoX K mg W F1 H1 f1 σ C f e' := fun F' H' fp' t o =>
  h F' H' fp' (s.tr (t.from l)) o
/-- one evaluation, then what follows: from a state that came by a step of the first one -/
theorem seqE {f : Env' → R OD} {β : Type} {P : R β → Prop} {k : OD → Env' → R β} {Q1 : VK} (s : Stp F H fp F1 H1 fq) (l : ∀ a, f1 a → fq a) (o : Ows K F1 H1 σ env1 f1)
    (hs : P .st → False) (hx : ∀ C f e, P (.ex C f e) → PoX K mg W F H fp σ C f e) (h : P ((f env1).bind k))
    (c : ∀ d e' v F' H' fv fp', Stp F1 H1 f1 F' H' (Un2 fv fp') → Dj fv fp' → Ow K F' H' v d fv → Ows K F' H' σ e' fp' → P (k d e') → Q1 v H') : dTE K mg W f σ H1 Q1 := by
  refine ⟨F1, env1, f1, ⟨s.rs.sub, fun a q => s.rs.own a (l a q)⟩, o, ?_⟩
  cases e : f env1 with
  | st => rw [e] at h; exact (hs h).elim
  | ok d e' => rw [e] at h; exact fun v F' H' fv fp' t dj w o' => c d e' v F' H' fv fp' t dj w o' h
  | ex C x e' => rw [e] at h; exact (hx C x e' h).step s l
theorem seqT {f : Env' → R Bool} {β : Type} {P : R β → Prop} {k : Bool → Env' → R β} {Q1 : Bool → Hp → Prop} (s : Stp F H fp F1 H1 fq) (l : ∀ a, f1 a → fq a) (o : Ows K F1 H1 σ env1 f1)
    (hs : P .st → False) (hx : ∀ C f e, P (.ex C f e) → PoX K mg W F H fp σ C f e) (h : P ((f env1).bind k))
    (c : ∀ d e' F' H' fp', Stp F1 H1 f1 F' H' fp' → Ows K F' H' σ e' fp' → P (k d e') → Q1 d H') : dTT K mg W f σ H1 Q1 := by
  refine ⟨F1, env1, f1, ⟨s.rs.sub, fun a q => s.rs.own a (l a q)⟩, o, ?_⟩
  cases e : f env1 with
  | st => rw [e] at h; exact (hs h).elim
  | ok d e' => rw [e] at h; exact fun F' H' fp' t o' => c d e' F' H' fp' t o' h
  | ex C x e' => rw [e] at h; exact (hx C x e' h).step s l
theorem seqA {f : Env' → R (List OD)} {β : Type} {P : R β → Prop} {k : List OD → Env' → R β} {Q1 : List V → Hp → Prop} (s : Stp F H fp F1 H1 fq) (l : ∀ a, f1 a → fq a) (o : Ows K F1 H1 σ env1 f1)
    (hs : P .st → False) (hx : ∀ C f e, P (.ex C f e) → PoX K mg W F H fp σ C f e) (h : P ((f env1).bind k))
    (c : ∀ d e' v F' H' fv fp', Stp F1 H1 f1 F' H' (Un2 fv fp') → Dj fv fp' → Ows K F' H' (v.map some) d fv → Ows K F' H' σ e' fp' → P (k d e') → Q1 v H') : dTA K mg W f σ H1 Q1 := by
  refine ⟨F1, env1, f1, ⟨s.rs.sub, fun a q => s.rs.own a (l a q)⟩, o, ?_⟩
  cases e : f env1 with
  | st => rw [e] at h; exact (hs h).elim
  | ok d e' => rw [e] at h; exact fun v F' H' fv fp' t dj w o' => c d e' v F' H' fv fp' t dj w o' h
  | ex C x e' => rw [e] at h; exact (hx C x e' h).step s l
/-- an operand held while what follows goes on: by itself at g, or by a name -/
def Held (K : PySem.W.Frag) (F H : Hp) (σ : L2.St) (v : V) (g : Fp) : Opd → Prop
  | .val d => Ow K F H v d g
  | .slot i => σ[i]? = some (some v)
theorem seqV {f : Env' → R Opd} {β : Type} {P : R β → Prop} {k : Opd → Env' → R β} {Q1 : VK} (s : Stp F H fp F1 H1 fq) (l : ∀ a, f1 a → fq a) (o : Ows K F1 H1 σ env1 f1)
    (hs : P .st → False) (hx : ∀ C f e, P (.ex C f e) → PoX K mg W F H fp σ C f e) (h : P ((f env1).bind k))
    (c : ∀ d e' v F' H' fv fp', Stp F1 H1 f1 F' H' (Un2 fv fp') → Dj fv fp' → Held K F' H' σ v fv d → Ows K F' H' σ e' fp' → P (k d e') → Q1 v H') : dTV K mg W f σ H1 Q1 := by
  refine ⟨F1, env1, f1, ⟨s.rs.sub, fun a q => s.rs.own a (l a q)⟩, o, ?_⟩
  cases e : f env1 with
  | st => rw [e] at h; exact (hs h).elim
  | ok d e' =>
    rw [e] at h
    cases d with
    | val d => exact fun v F' H' fv fp' t dj w o' => c (.val d) e' v F' H' fv fp' t dj w o' h
    | slot i => exact fun v F' H' fp' t o' w => c (.slot i) e' v F' H' (fun _ => False) fp' (t.less (fun a q => q.elim False.elim id)) (fun _ z => z.elim) w o' h
  | ex C x e' => rw [e] at h; exact (hx C x e' h).step s l
theorem Held.step {F' H' : Hp} {f f' g : Fp} {v x} (s : Stp F H f F' H' f') (d : Dj g f) (o : ∀ a, g a → H a ≠ none) (w : Held K F H σ v g x) : Held K F' H' σ v g x := by
  cases x with
  | val x => exact Ow.step s d o w
  | slot i => exact w
/-- what an operand is at last, as a tree -/
theorem Held.look {v g x} {fp : Fp} {c : Opd} (w : Held K F H σ v g c) (o : Ows K F H σ env fp) (e : c.at env = some x) : ∃ fx, Ow K F H v x fx ∧ ∀ a, fx a → Un2 g fp a := by
  cases c with
  | val y =>
    cases e
    exact ⟨g, w, fun a => .inl⟩
  | slot i =>
    have w : σ[i]? = some (some v) := w
    have e1 := lk_some (show lk env i = some x from e)
    obtain ⟨v', f1, f2, a, b, _, d, _, _⟩ := o.get e1.1 e1.2
    rw [w] at a; cases a
    exact ⟨f1, b, fun a q => .inr (d a q)⟩
end
/-- what an operation of two values makes of two trees -/
def OpS (K : PySem.W.Frag) (r : R2) (g : OD → OD → Option OD) : Prop := ∀ F H v u x y fx fy fp d (Q : VK), RS F H fp → (∀ a, fx a → fp a) → (∀ a, fy a → fp a) → Ow K F H v x fx → Ow K F H u y fy → g x y = some d →
  (∀ v' F' H' f', Stp F H (fun _ => False) F' H' f' → Ow K F' H' v' d f' → Q v' H') → r v u H Q
def UnS (K : PySem.W.Frag) (r : V → Hp → VK → Prop) (g : OD → Option OD) : Prop := ∀ F H v x fx fp d (Q : VK), RS F H fp → (∀ a, fx a → fp a) → Ow K F H v x fx → g x = some d →
  (∀ v' F' H' f', Stp F H (fun _ => False) F' H' f' → Ow K F' H' v' d f' → Q v' H') → r v H Q
def CaS (K : PySem.W.Frag) (r : List V → Hp → VK → Prop) (g : List OD → Option OD) : Prop := ∀ F H vs xs fp d (Q : VK), RS F H fp → Paired (fun v x => ∃ fx : Fp, (∀ a, fx a → fp a) ∧ Ow K F H v x fx) vs xs → g xs = some d →
  (∀ v' F' H' f', Stp F H (fun _ => False) F' H' f' → Ow K F' H' v' d f' → Q v' H') → r vs H Q
end DL

namespace DL
variable {K : PySem.W.Frag}
open PySem L2
abbrev NoFp : Fp := fun _ => False
theorem dj0 {g : Fp} : Dj NoFp g := fun _ z => z.elim
theorem dj0' {g : Fp} : Dj g NoFp := fun _ _ z => z
theorem Stp.id0 {F H : Hp} {fp : Fp} (r : RS F H fp) : Stp F H fp F H (Un2 NoFp fp) := (Stp.rfl' r).less fun _ q => q.elim False.elim id
theorem Ow.sub0 {F H : Hp} {v d} {g : Fp} (h : Ow K F H v (.p d) g) : Ow K F H v (.p d) NoFp := h.np
section
variable {X : Cx} {W : WX}
/-! ### names -/
def eVar (i : Nat) : Env' → R OD := fun env => match lk env i with
  | none => .st
  | some (.p d) => .ok (.p d) env
  | some (.sc ns) => .ok (.sc ns) env
  | some (.er C f) => .ok (.er C f) env
  | some x => match frz x with
    | some d => .ok (.p d) (env.set i (.p d))
    | none => .st
def eMv (i : Nat) : Env' → R OD := fun env => match lk env i with
  | none => .st
  | some (.p d) => .ok (.p d) env
  | some x => .ok x (env.set i .h)
def eAt (i : Nat) : Env' → R Opd := fun env => match lk env i with
  | none => .st
  | some _ => .ok (.slot i) env
theorem de_var (i : Nat) {x : Str} {pos : Pos} (hN : X.N[i]? = some x := by rfl) (hv : Vis X.env.scope x := by first | exact Or.inl rfl | exact Or.inr (Or.inl rfl) | exact Or.inr (Or.inr rfl)) (hd : (x == ("__debug__" : Str)) = false := by decide)
    (hcd : (x == ("__classdict__" : Str)) = false := by decide) : DE X W (.Name x pos) (eVar i) := by
  refine pe_weak (pe_var hN hv hd hcd) fun σ H Q ⟨F, env, fp, r, o, h⟩ => ?_
  have go : ∀ x, lk env i = some x → ∀ d, frz x = some d → PoE X.K X.mg W F H fp σ Q (.ok (.p d) (env.set i (.p d))) → tVar i σ H Q := fun x e d hf h => by
    obtain ⟨e, n⟩ := lk_some e
    obtain ⟨v, f1, f2, a, b, c, s1, s2, dj⟩ := o.get e n
    refine ⟨v, a, ?_⟩
    have rr : RS F H (Un2 f1 f2) := ⟨r.sub, fun a q => r.own a (q.elim (s1 a) (s2 a))⟩
    have st := Stp.freeze rr dj
    have w := b.fz r.sub (g := f1) (fun _ q => q) hf
    have c' := c.mono (F' := fz F H f1) (H' := H) st.inc fun _ _ => rfl
    have p := Ows.put (g := NoFp) (Ow.p w) c' a dj0
    rw [List.set_set] at p
    exact h v _ H NoFp f2 ((st.from fun a q => q.elim (s1 a) (s2 a)).less fun _ q => q.elim False.elim id) dj0 (.p w) (p.weak fun _ q => q.elim False.elim id)
  have cp : ∀ x, lk env i = some x → (∀ v g, Ow X.K F H v x g → Ow X.K F H v x NoFp) → PoE X.K X.mg W F H fp σ Q (.ok x env) → tVar i σ H Q := fun x e hc h => by
    obtain ⟨e, n⟩ := lk_some e
    obtain ⟨v, f1, f2, a, b, _⟩ := o.get e n
    exact ⟨v, a, h v F H NoFp fp (Stp.id0 r) dj0 (hc _ _ b) o⟩
  unfold eVar at h
  cases e : lk env i with
  | none => rw [e] at h; exact h.elim
  | some x =>
    rw [e] at h
    cases x with
    | p d => exact cp _ e (fun _ _ w => w.np) h
    | sc ns => exact cp _ e (fun _ _ w => by cases w with | sc a => exact .sc a) h
    | er C f => exact cp _ e (fun _ _ w => by cases w with | er a => exact .er a) h
    | ob C ns xs => exact h.elim
    | h => exact ((lk_some e).2 rfl).elim
    | l xs =>
      dsimp only at h
      cases hf : frz (.l xs) with
      | none => rw [hf] at h; exact h.elim
      | some d => rw [hf] at h; exact go _ e d hf h
    | t xs =>
      dsimp only at h
      cases hf : frz (.t xs) with
      | none => rw [hf] at h; exact h.elim
      | some d => rw [hf] at h; exact go _ e d hf h
theorem de_mv (i : Nat) {x : Str} {pos : Pos} (hN : X.N[i]? = some x := by rfl) (hv : Vis X.env.scope x := by first | exact Or.inl rfl | exact Or.inr (Or.inl rfl) | exact Or.inr (Or.inr rfl)) (hd : (x == ("__debug__" : Str)) = false := by decide)
    (hcd : (x == ("__classdict__" : Str)) = false := by decide) : DE X W (.Name x pos) (eMv i) := by
  refine pe_weak (pe_var hN hv hd hcd) fun σ H Q ⟨F, env, fp, r, o, h⟩ => ?_
  unfold eMv at h
  cases e : lk env i with
  | none => rw [e] at h; exact h.elim
  | some x =>
    rw [e] at h
    obtain ⟨e', n⟩ := lk_some e
    obtain ⟨v, f1, f2, a, b, c, s1, s2, dj⟩ := o.get e' n
    refine ⟨v, a, ?_⟩
    have mvd : PoE X.K X.mg W F H fp σ Q (.ok x (env.set i .h)) → Q v H := fun h => h v F H f1 f2 ((Stp.rfl' r).less fun a q => q.elim (s1 a) (s2 a)) dj b c
    cases x with
    | p d => exact h v F H NoFp fp (Stp.id0 r) dj0 b.np o
    | h => exact (n rfl).elim
    | sc ns => exact mvd h
    | er C f => exact mvd h
    | ob C ns xs => exact mvd h
    | l xs => exact mvd h
    | t xs => exact mvd h
theorem dv_at (i : Nat) {x : Str} {pos : Pos} (hN : X.N[i]? = some x := by rfl) (hv : Vis X.env.scope x := by first | exact Or.inl rfl | exact Or.inr (Or.inl rfl) | exact Or.inr (Or.inr rfl)) (hd : (x == ("__debug__" : Str)) = false := by decide)
    (hcd : (x == ("__classdict__" : Str)) = false := by decide) : DV X W (.Name x pos) (eAt i) := by
  refine pe_weak (pe_var hN hv hd hcd) fun σ H Q ⟨F, env, fp, r, o, h⟩ => ?_
  unfold eAt at h
  cases e : lk env i with
  | none => rw [e] at h; exact h.elim
  | some x =>
    rw [e] at h
    obtain ⟨e', n⟩ := lk_some e
    obtain ⟨v, f1, f2, a, b, c, s1, s2, dj⟩ := o.get e' n
    exact ⟨v, a, h v F H fp (Stp.rfl' r) o a⟩
def eVal (f : Env' → R OD) : Env' → R Opd := fun env => (f env).bind fun d e => .ok (.val d) e
theorem dv_of {e : Expr} {f : Env' → R OD} (h : DE X W e f) : DV X W e (eVal f) := pe_weak h fun σ H Q ⟨F, env, fp, r, o, h⟩ => by
  refine ⟨F, env, fp, r, o, ?_⟩
  unfold eVal at h
  cases q : f env with
  | st => rw [q] at h; exact h
  | ok d e => rw [q] at h; exact h
  | ex C x e => rw [q] at h; exact h
/-! ### constants -/
def eC (d : PyData) : Env' → R OD := fun env => .ok (.p d) env
theorem cc {v : V} {d : PyData} (hd : ∀ F, Dd F v d) {mg : Mg} {σ H Q} : dTE K mg W (eC d) σ H Q → tC v σ H Q := fun ⟨F, env, fp, r, o, h⟩ =>
  h v F H NoFp fp (Stp.id0 r) dj0 (.p (hd F)) o
theorem de_int {i : Int} {j pos} : DE X W (.Constant (.int i) j pos) (eC (.int i)) := pe_weak pe_int fun _ _ _ => cc fun _ => .int i
theorem de_bl {i : Bool} {j pos} : DE X W (.Constant (.bool i) j pos) (eC (.bool i)) := pe_weak pe_bl fun _ _ _ => cc fun _ => .bl i
theorem de_str {i : Str} {j pos} : DE X W (.Constant (.str i) j pos) (eC (.str i)) := pe_weak pe_str fun _ _ _ => cc fun _ => .str i
theorem de_non {j pos} : DE X W (.Constant .none j pos) (eC .none) := pe_weak pe_non fun _ _ _ => cc fun _ => .non
theorem de_globStr {x : Str} {z : Str} {t pos} (hg : Gl X x) (hm : X.mg x = some (.str z t)) (hd : (x == ("__debug__" : Str)) = false := by decide) : DE X W (.Name x pos) (eC (.str z)) := pe_weak (pe_glob (v := .str z) hg hm ⟨t, rfl⟩ hd) fun _ _ _ => cc fun _ => .str z
theorem de_globInt {x : Str} {z : Int} {t pos} (hg : Gl X x) (hm : X.mg x = some (.int z t)) (hd : (x == ("__debug__" : Str)) = false := by decide) : DE X W (.Name x pos) (eC (.int z)) := pe_weak (pe_glob (v := .int z) hg hm ⟨t, rfl⟩ hd) fun _ _ _ => cc fun _ => .int z
/-! ### operations -/
def ap2 (g : OD → OD → Option OD) (a b : Opd) (e : Env') : R OD := match a.at e, b.at e with
  | some x, some y => R.of (g x y) e
  | _, _ => .st
def eBin (g : OD → OD → Option OD) (fa fb : Env' → R Opd) : Env' → R OD := fun env => (fa env).bind fun a e1 => (fb e1).bind fun b e2 => ap2 g a b e2
section
variable {mg : Mg} {F H F1 H1 : Hp} {fp f1 fq : Fp} {σ : L2.St} {env env1 : Env'} {Q : VK}
theorem PoE.st_ (h : PoE K mg W F H fp σ Q .st) : False := h
theorem PoE.ex_ (C f e) (h : PoE K mg W F H fp σ Q (.ex C f e)) : PoX K mg W F H fp σ C f e := h
/-- the end of an operation: what it makes, beside what is held -/
theorem PoE.fin {d : OD} {e : Env'} {f2 : Fp} (h : PoE K mg W F H fp σ Q (.ok d e)) (s : Stp F H fp F1 H1 fq) (l : ∀ a, f2 a → fq a) (o : Ows K F1 H1 σ e f2) :
    ∀ v F' H' f', Stp F1 H1 NoFp F' H' f' → Ow K F' H' v d f' → Q v H' := fun v F' H' f' t w => by
  have own : ∀ a, f2 a → F1 a = none ∧ H1 a ≠ none := fun a q => s.rs.own a (l a q)
  have t2 := t.frame (g := f2) dj0' own
  have dj := t.dj (g := f2) dj0' fun a q => (own a q).2
  have t3 : Stp F1 H1 fq F' H' (Un2 f' f2) := t2.from fun a q => q.elim False.elim (l a)
  exact h v F' H' f' f2 (s.tr t3) (fun a q z => dj a z q) w (o.step t dj0' fun a q => (own a q).2)
theorem RS.of {f2 : Fp} (s : Stp F H fp F1 H1 fq) (l : ∀ a, f2 a → fq a) : RS F1 H1 f2 := ⟨s.rs.sub, fun a q => s.rs.own a (l a q)⟩
theorem bin_core {r : R2} {g} {fa fb : Env' → R Opd} (hs : OpS K r g) : dTE K mg W (eBin g fa fb) σ H Q → tOp r (dTV K mg W fa) (dTV K mg W fb) σ H Q := fun ⟨F, env, fp, rs, o, h⟩ => by
  refine seqV (Stp.rfl' rs) (fun _ q => q) o (fun h => h) PoE.ex_ h fun a e1 v F1 H1 fv f1 s1 dj1 w1 o1 h1 => ?_
  refine seqV s1 (fun _ q => .inr q) o1 (fun h => h) PoE.ex_ h1 fun b e2 u F2 H2 fu f2 s2 dj2 w2 o2 h2 => ?_
  have own : ∀ a, fv a → F1 a = none ∧ H1 a ≠ none := fun a q => s1.rs.own a (.inl q)
  have w1' := Held.step s2 dj1 (fun a q => (own a q).2) w1
  have s3 : Stp F H fp F2 H2 (Un2 (Un2 fu f2) fv) := s1.tr ((s2.frame dj1 own).from fun a q => q.elim .inr .inl)
  unfold ap2 at h2
  cases ea : a.at e2 with
  | none => rw [ea] at h2; exact h2.elim
  | some x =>
    cases eb : b.at e2 with
    | none => rw [ea, eb] at h2; exact h2.elim
    | some y =>
      rw [ea, eb] at h2
      dsimp only at h2
      cases eg : g x y with
      | none => rw [eg] at h2; exact h2.elim
      | some d =>
        rw [eg] at h2
        obtain ⟨fx, ox, lx⟩ := w1'.look o2 ea
        obtain ⟨fy, oy, ly⟩ := w2.look o2 eb
        exact hs F2 H2 v u x y fx fy (Un2 (Un2 fu f2) fv) d Q s3.rs (fun a q => (lx a q).elim .inr fun z => .inl (.inr z)) (fun a q => .inl (ly a q)) ox oy eg
          (h2.fin s3 (fun a q => .inl (.inr q)) o2)
def ap1 (g : OD → Option OD) (a : Opd) (e : Env') : R OD := match a.at e with
  | some x => R.of (g x) e
  | _ => .st
def eUn (g : OD → Option OD) (fa : Env' → R Opd) : Env' → R OD := fun env => (fa env).bind fun a e1 => ap1 g a e1
theorem un_core {r : V → Hp → VK → Prop} {g} {fa : Env' → R Opd} (hs : UnS K r g) : dTE K mg W (eUn g fa) σ H Q → tUn r (dTV K mg W fa) σ H Q := fun ⟨F, env, fp, rs, o, h⟩ => by
  refine seqV (Stp.rfl' rs) (fun _ q => q) o (fun h => h) PoE.ex_ h fun a e1 v F1 H1 fv f1 s1 dj1 w1 o1 h1 => ?_
  unfold ap1 at h1
  cases ea : a.at e1 with
  | none => rw [ea] at h1; exact h1.elim
  | some x =>
    rw [ea] at h1
    dsimp only at h1
    cases eg : g x with
    | none => rw [eg] at h1; exact h1.elim
    | some d =>
      rw [eg] at h1
      obtain ⟨fx, ox, lx⟩ := w1.look o1 ea
      exact hs F1 H1 v x fx (Un2 fv f1) d Q s1.rs lx ox eg (h1.fin s1 (fun _ q => .inr q) o1)
end
variable {a b : Expr} {fa fb : Env' → R Opd} {pos : Pos}
theorem de_bin {op : Operator} {r : R2} {g} (ho : OpR X (binaryOp op) r) (hs : OpS X.K r g) (ha : DV X W a fa) (hb : DV X W b fb) : DE X W (.BinOp a op b pos) (eBin g fa fb) :=
  pe_weak (pe_op ho ha hb) fun _ _ _ => bin_core hs
theorem de_cmp {op : CmpOp} {r : R2} {g} (ho : OpR X (compareOp op) r) (hs : OpS X.K r g) (hm : behindInMarks op b = false) (ha : DV X W a fa) (hb : DV X W b fb) : DE X W (.Compare a [op] [b] pos) (eBin g fa fb) :=
  pe_weak (pe_cmpR ho ha hb hm) fun _ _ _ => bin_core hs
theorem de_ix {r : R2} {g} (ho : IxR X r) (hs : OpS X.K r g) (hp : PlainIx b) (ha : DV X W a fa) (hb : DV X W b fb) : DE X W (.Subscript a b pos) (eBin g fa fb) :=
  pe_weak (pe_ix ho ha hb hp) fun _ _ _ => bin_core hs
theorem de_un {op : UnaryOp} {r} {g} (ho : UnR X (unaryOp op) r) (hs : UnS X.K r g) (ha : DV X W a fa) : DE X W (.UnaryOp op a pos) (eUn g fa) :=
  pe_weak (pe_un ho ha) fun _ _ _ => un_core hs
/-! ### tests -/
def eB (f : Env' → R OD) : Env' → R Bool := fun env => (f env).bind fun d e => match d with
  | .p (.bool b) => .ok b e
  | _ => .st
theorem PoT.ex_ {mg : Mg} {F H : Hp} {fp : Fp} {σ} {Q} (C f e) (h : PoT K mg W F H fp σ Q (.ex C f e)) : PoX K mg W F H fp σ C f e := h
theorem bool_core {mg : Mg} {σ : L2.St} {H : Hp} {Q : Bool → Hp → Prop} {f : Env' → R OD} : dTT K mg W (eB f) σ H Q → dTE K mg W f σ H fun x H' => ∃ c, x = .bl c ∧ Q c H' := fun ⟨F, env, fp, rs, o, h⟩ => by
  refine seqE (Stp.rfl' rs) (fun _ q => q) o (fun h => h) PoT.ex_ h fun d e v F' H' fv fp' s dj w o' h => ?_
  cases d with
  | p d =>
    cases d with
    | bool b =>
      cases w with
      | p w =>
        cases w
        exact ⟨b, rfl, h F' H' fp' (s.less fun _ => .inr) o'⟩
    | _ => exact h.elim
  | _ => exact h.elim
theorem dt_of {e : Expr} {f : Env' → R OD} (h : DE X W e f) (he : ∀ whole, isTrue e X.env whole = (do let v ← whole; standAt e.pos; holding [v] (truthy v)) := by intro _; rfl) : DT X W e (eB f) :=
  pt_weak (pt_val h he) fun _ _ _ => bool_core
def eAnd (f g : Env' → R Bool) : Env' → R Bool := fun env => (f env).bind fun b e => if b then g e else .ok false e
def eOr (f g : Env' → R Bool) : Env' → R Bool := fun env => (f env).bind fun b e => if b then .ok true e else g e
def eNot (f : Env' → R Bool) : Env' → R Bool := fun env => (f env).bind fun b e => .ok (!b) e
def eBv (f : Env' → R Bool) : Env' → R OD := fun env => (f env).bind fun b e => .ok (.p (.bool b)) e
abbrev DW (X : Cx) (W : WX) (e : Expr) (f : Env' → R Bool) : Prop := PW X e (dTT X.K X.mg W f)
section
variable {mg : Mg} {σ : L2.St} {H : Hp} {Q : Bool → Hp → Prop} {f g : Env' → R Bool}
theorem and_core : dTT K mg W (eAnd f g) σ H Q → tAnd (dTT K mg W f) (dTT K mg W g) σ H Q := fun ⟨F, env, fp, rs, o, h⟩ => by
  refine seqT (Stp.rfl' rs) (fun _ q => q) o (fun h => h) PoT.ex_ h fun b e1 F1 H1 f1 s1 o1 h1 => ?_
  cases b with
  | false => rw [if_neg Bool.false_ne_true]; exact h1 F1 H1 f1 s1 o1
  | true =>
    rw [if_pos rfl]
    rw [← show ((g e1).bind fun b e => R.ok b e) = g e1 by cases g e1 <;> rfl] at h1
    exact seqT s1 (fun _ q => q) o1 (fun h => h) PoT.ex_ h1 fun b e2 F2 H2 f2 s2 o2 h2 => h2 F2 H2 f2 (s1.tr s2) o2
theorem or_core : dTT K mg W (eOr f g) σ H Q → tOr (dTT K mg W f) (dTT K mg W g) σ H Q := fun ⟨F, env, fp, rs, o, h⟩ => by
  refine seqT (Stp.rfl' rs) (fun _ q => q) o (fun h => h) PoT.ex_ h fun b e1 F1 H1 f1 s1 o1 h1 => ?_
  cases b with
  | true => rw [if_pos rfl]; exact h1 F1 H1 f1 s1 o1
  | false =>
    rw [if_neg Bool.false_ne_true]
    rw [← show ((g e1).bind fun b e => R.ok b e) = g e1 by cases g e1 <;> rfl] at h1
    exact seqT s1 (fun _ q => q) o1 (fun h => h) PoT.ex_ h1 fun b e2 F2 H2 f2 s2 o2 h2 => h2 F2 H2 f2 (s1.tr s2) o2
theorem not_core : dTT K mg W (eNot f) σ H Q → tNot (dTT K mg W f) σ H Q := fun ⟨F, env, fp, rs, o, h⟩ =>
  seqT (Stp.rfl' rs) (fun _ q => q) o (fun h => h) PoT.ex_ h fun b e1 F1 H1 f1 s1 o1 h1 => h1 F1 H1 f1 s1 o1
end
section
variable {f g : Env' → R Bool} {rest : List Expr}
theorem dw_and1 (ha : DT X W a f) : DW X W (.BoolOp .And [a] pos) f := pw_and1 ha
theorem dw_or1 (ha : DT X W a f) : DW X W (.BoolOp .Or [a] pos) f := pw_or1 ha
theorem dw_and (ha : DT X W a f) (hb : DW X W (.BoolOp .And (b :: rest) pos) g) : DW X W (.BoolOp .And (a :: b :: rest) pos) (eAnd f g) := pw_weak (pw_and ha hb) fun _ _ _ => and_core
theorem dw_or (ha : DT X W a f) (hb : DW X W (.BoolOp .Or (b :: rest) pos) g) : DW X W (.BoolOp .Or (a :: b :: rest) pos) (eOr f g) := pw_weak (pw_or ha hb) fun _ _ _ => or_core
theorem dt_w {e : Expr} (h : DW X W e f) : DT X W e f := h.pt
theorem dt_not (ha : DT X W a f) : DT X W (.UnaryOp .Not a pos) (eNot f) := pt_weak (pt_not ha) fun _ _ _ => not_core
end
/-! ### and, or, not as values -/
def eAndV (f g : Env' → R OD) : Env' → R OD := fun env => (eB f env).bind fun b e => if b then g e else .ok (.p (.bool false)) e
def eOrV (f g : Env' → R OD) : Env' → R OD := fun env => (eB f env).bind fun b e => if b then .ok (.p (.bool true)) e else g e
def eNotV (f : Env' → R OD) : Env' → R OD := fun env => (eB f env).bind fun b e => .ok (.p (.bool (!b))) e
theorem seqB {mg : Mg} {F H F1 H1 : Hp} {fp f1 fq : Fp} {σ : L2.St} {env1 : Env'} {f : Env' → R OD} {β : Type} {P : R β → Prop} {k : Bool → Env' → R β} {Q1 : VK} (s : Stp F H fp F1 H1 fq) (l : ∀ a, f1 a → fq a) (o : Ows K F1 H1 σ env1 f1)
    (hs : P .st → False) (hx : ∀ C f e, P (.ex C f e) → PoX K mg W F H fp σ C f e) (h : P ((eB f env1).bind k))
    (c : ∀ d e' F' H' fp', Stp F1 H1 f1 F' H' fp' → Ows K F' H' σ e' fp' → P (k d e') → Q1 (.bl d) H') : dTE K mg W f σ H1 Q1 := by
  have e : ((eB f env1).bind k) = (f env1).bind fun d e => match d with
    | .p (.bool b) => k b e
    | _ => .st := by
    unfold eB
    cases f env1 with
    | st => rfl
    | ex => rfl
    | ok d e =>
      cases d with
      | p d => cases d <;> rfl
      | _ => rfl
  rw [e] at h
  refine seqE s l o hs hx h fun d e v F' H' fv fp' s dj w o' h => ?_
  cases d with
  | p d =>
    cases d with
    | bool b =>
      cases w with
      | p w => cases w; exact c b e F' H' fp' (s.less fun _ => .inr) o' h
    | _ => exact (hs h).elim
  | _ => exact (hs h).elim
theorem PoE.st' {mg : Mg} {F H : Hp} {fp : Fp} {σ} {Q} (h : PoE K mg W F H fp σ Q .st) : False := h
theorem andV_core {mg : Mg} {σ : L2.St} {H : Hp} {Q : VK} {f g : Env' → R OD} : dTE K mg W (eAndV f g) σ H Q → tAndV (dTE K mg W f) (dTE K mg W g) σ H Q := fun ⟨F, env, fp, rs, o, h⟩ => by
  refine seqB (Stp.rfl' rs) (fun _ q => q) o (fun h => h) PoE.ex_ h fun b e1 F1 H1 f1 s1 o1 h1 => ⟨b, rfl, ?_⟩
  cases b with
  | false => rw [if_neg Bool.false_ne_true]; exact h1 _ F1 H1 NoFp f1 (s1.tr (Stp.id0 s1.rs)) dj0 (.p (.bl _)) o1
  | true =>
    rw [if_pos rfl]
    rw [← show ((g e1).bind fun b e => R.ok b e) = g e1 by cases g e1 <;> rfl] at h1
    exact seqE s1 (fun _ q => q) o1 (fun h => h) PoE.ex_ h1 fun b e2 v F2 H2 fv f2 s2 dj w o2 h2 => h2 v F2 H2 fv f2 (s1.tr s2) dj w o2
theorem orV_core {mg : Mg} {σ : L2.St} {H : Hp} {Q : VK} {f g : Env' → R OD} : dTE K mg W (eOrV f g) σ H Q → tOrV (dTE K mg W f) (dTE K mg W g) σ H Q := fun ⟨F, env, fp, rs, o, h⟩ => by
  refine seqB (Stp.rfl' rs) (fun _ q => q) o (fun h => h) PoE.ex_ h fun b e1 F1 H1 f1 s1 o1 h1 => ⟨b, rfl, ?_⟩
  cases b with
  | true => rw [if_pos rfl]; exact h1 _ F1 H1 NoFp f1 (s1.tr (Stp.id0 s1.rs)) dj0 (.p (.bl _)) o1
  | false =>
    rw [if_neg Bool.false_ne_true]
    rw [← show ((g e1).bind fun b e => R.ok b e) = g e1 by cases g e1 <;> rfl] at h1
    exact seqE s1 (fun _ q => q) o1 (fun h => h) PoE.ex_ h1 fun b e2 v F2 H2 fv f2 s2 dj w o2 h2 => h2 v F2 H2 fv f2 (s1.tr s2) dj w o2
theorem notV_core {mg : Mg} {σ : L2.St} {H : Hp} {Q : VK} {f : Env' → R OD} : dTE K mg W (eNotV f) σ H Q → tNotV (dTE K mg W f) σ H Q := fun ⟨F, env, fp, rs, o, h⟩ =>
  seqB (Stp.rfl' rs) (fun _ q => q) o (fun h => h) PoE.ex_ h fun b e1 F1 H1 f1 s1 o1 h1 => ⟨b, rfl, h1 _ F1 H1 NoFp f1 (s1.tr (Stp.id0 s1.rs)) dj0 (.p (.bl _)) o1⟩
section
variable {f g : Env' → R OD} {rest : List Expr}
theorem de_one {op} (ha : DE X W a f) : DE X W (.BoolOp op [a] pos) f := pe_one ha
theorem de_and (ha : DE X W a f) (hb : DE X W (.BoolOp .And (b :: rest) pos) g) : DE X W (.BoolOp .And (a :: b :: rest) pos) (eAndV f g) := pe_weak (pe_and ha hb) fun _ _ _ => andV_core
theorem de_or (ha : DE X W a f) (hb : DE X W (.BoolOp .Or (b :: rest) pos) g) : DE X W (.BoolOp .Or (a :: b :: rest) pos) (eOrV f g) := pe_weak (pe_or ha hb) fun _ _ _ => orV_core
theorem de_not (ha : DE X W a f) : DE X W (.UnaryOp .Not a pos) (eNotV f) := pe_weak (pe_not ha) fun _ _ _ => notV_core
end
/-! ### argument lists, displays -/
abbrev DA (X : Cx) (W : WX) (es : List Expr) (f : Env' → R (List OD)) : Prop := PA X es (dTA X.K X.mg W f)
def aNil : Env' → R (List OD) := fun env => .ok [] env
def aCons (f : Env' → R OD) (g : Env' → R (List OD)) : Env' → R (List OD) := fun env => (f env).bind fun x e => (g e).bind fun xs e2 => .ok (x :: xs) e2
theorem PoA.ex_ {mg : Mg} {F H : Hp} {fp : Fp} {σ} {Q} (C f e) (h : PoA K mg W F H fp σ Q (.ex C f e)) : PoX K mg W F H fp σ C f e := h
theorem pa_weak {X : Cx} {e : List Expr} {t u : TA} (h : PA X e t) (w : ∀ σ H Q, u σ H Q → t σ H Q) : PA X e u := ⟨fun pos pins s σ H Q I q => h.run pos pins s σ H Q I (w σ H Q q)⟩
theorem da_nil : DA X W [] aNil := pa_weak pa_nil fun _ H _ ⟨F, env, fp, rs, o, h⟩ => h [] F H NoFp fp (Stp.id0 rs) dj0 .nil o
theorem acons_core {mg : Mg} {σ : L2.St} {H : Hp} {Q : List V → Hp → Prop} {f : Env' → R OD} {g : Env' → R (List OD)} : dTA K mg W (aCons f g) σ H Q → tCons (dTE K mg W f) (dTA K mg W g) σ H Q := fun ⟨F, env, fp, rs, o, h⟩ => by
  refine seqE (Stp.rfl' rs) (fun _ q => q) o (fun h => h) PoA.ex_ h fun a e1 v F1 H1 fv f1 s1 dj1 w1 o1 h1 => ?_
  refine seqA s1 (fun _ q => .inr q) o1 (fun h => h) PoA.ex_ h1 fun b e2 u F2 H2 fu f2 s2 dj2 w2 o2 h2 => ?_
  have own : ∀ a, fv a → F1 a = none ∧ H1 a ≠ none := fun a q => s1.rs.own a (.inl q)
  have w1' := w1.step s2 dj1 (fun a q => (own a q).2)
  have d3 := s2.dj dj1 fun a q => (own a q).2
  have s3 : Stp F H fp F2 H2 (Un2 (Un2 fu f2) fv) := s1.tr ((s2.frame dj1 own).from fun a q => q.elim .inr .inl)
  exact h2 (v :: u) F2 H2 (Un2 fv fu) f2 (s3.less fun a q => q.elim (fun q => q.elim .inr fun q => .inl (.inl q)) fun q => .inl (.inr q)) (fun a q z => q.elim (fun q => d3 a q (.inr z)) fun q => dj2 a q z)
    (.cons (f1 := fv) (f2 := fu) w1' w2 (fun _ => .inl) (fun _ => .inr) fun a q z => d3 a q (.inl z)) o2
theorem da_cons {e : Expr} {es : List Expr} {f g} (ha : DE X W e f) (hr : DA X W es g) (hs : starEach (e :: es) X.env = (false, eval e X.env) :: starEach es X.env := by rfl) : DA X W (e :: es) (aCons f g) :=
  pa_weak (pa_cons ha hr hs) fun _ _ _ => acons_core
def allp : List OD → Option (List PyData)
  | [] => some []
  | .p d :: xs => (allp xs).map (d :: ·)
  | _ => none
theorem allp_eq : ∀ {xs ds}, allp xs = some ds → xs = ds.map .p
  | [], ds, h => by cases h; rfl
  | .p d :: xs, ds, h => by
    unfold allp at h
    cases q : allp xs with
    | none => rw [q] at h; cases h
    | some es => rw [q] at h; cases h; rw [allp_eq q]; rfl
  | .h :: _, _, h => nomatch h
  | .l _ :: _, _, h => nomatch h
  | .t _ :: _, _, h => nomatch h
  | .sc _ :: _, _, h => nomatch h
  | .er _ _ :: _, _, h => nomatch h
  | .ob _ _ _ :: _, _, h => nomatch h
@[simp] theorem allp_map (ds : List PyData) : allp (ds.map .p) = some ds := by
  induction ds with
  | nil => rfl
  | cons d ds ih => simp [allp, ih]
def mkT (xs : List OD) : OD := match allp xs with
  | some ds => .p (.tuple ds)
  | none => .t xs
def eTup (f : Env' → R (List OD)) : Env' → R OD := fun env => (f env).bind fun xs e => if xs.length ≤ 1000 then .ok (mkT xs) e else .st
def eLst (f : Env' → R (List OD)) : Env' → R OD := fun env => (f env).bind fun xs e => if xs.length ≤ 1000 then .ok (.l xs) e else .st
theorem szl {n : Nat} (h : n ≤ 100000) : n ≤ sizeLine := Nat.le_trans h (by decide)
theorem szlt {n : Nat} (h : n < 100000) : n < sizeLine := Nat.lt_of_lt_of_le h (by decide)
theorem ows_len {F H : Hp} {vs : List V} {xs fp} (o : Ows K F H (vs.map some) xs fp) : vs.length = xs.length := by
  have := o.len; rwa [List.length_map] at this
theorem tup_core {mg : Mg} {σ : L2.St} {H : Hp} {Q : VK} {f : Env' → R (List OD)} : dTE K mg W (eTup f) σ H Q → tTup (dTA K mg W f) σ H Q := fun ⟨F, env, fp, rs, o, h⟩ => by
  refine seqA (Stp.rfl' rs) (fun _ q => q) o (fun h => h) PoE.ex_ h fun xs e1 vs F1 H1 fv f1 s1 dj1 w1 o1 h1 => ?_
  split at h1
  · rename_i hl
    refine ⟨szl (by rw [ows_len w1]; omega), fun p hp => ?_⟩
    have st := Stp.newPure (o := .tup vs) s1.rs hp
    have w2 := w1.mono st.inc (H' := upd H1 p (.tup vs)) fun a q => upd_ne fun z => (s1.rs.own a (.inl q)).2 (z ▸ hp)
    have o2 := o1.mono st.inc (H' := upd H1 p (.tup vs)) fun a q => upd_ne fun z => (s1.rs.own a (.inr q)).2 (z ▸ hp)
    unfold mkT at h1
    split at h1
    · rename_i ds hds
      have e := allp_eq hds
      subst e
      exact h1 _ _ _ NoFp f1 ((s1.tr st).less fun a q => q.elim False.elim .inr) dj0 (.p (.tup upd_same w2.pure)) o2
    · exact h1 _ _ _ fv f1 (s1.tr st) dj1 (.t upd_same w2) o2
  · exact h1.elim
theorem lst_core {mg : Mg} {σ : L2.St} {H : Hp} {Q : VK} {f : Env' → R (List OD)} : dTE K mg W (eLst f) σ H Q → tLst (dTA K mg W f) σ H Q := fun ⟨F, env, fp, rs, o, h⟩ => by
  refine seqA (Stp.rfl' rs) (fun _ q => q) o (fun h => h) PoE.ex_ h fun xs e1 vs F1 H1 fv f1 s1 dj1 w1 o1 h1 => ?_
  split at h1
  · rename_i hl
    refine ⟨szl (by rw [ows_len w1]; omega), fun p hp => ?_⟩
    have st := Stp.newOwn (o := .lst vs) s1.rs hp
    have w2 := w1.mono st.inc (H' := upd H1 p (.lst vs)) fun a q => upd_ne fun z => (s1.rs.own a (.inl q)).2 (z ▸ hp)
    have o2 := o1.mono st.inc (H' := upd H1 p (.lst vs)) fun a q => upd_ne fun z => (s1.rs.own a (.inr q)).2 (z ▸ hp)
    refine h1 _ _ _ (Un2 (fun b => b = p) fv) f1 ((s1.tr st).less fun a q => q.elim (fun q => q.elim .inl fun q => .inr (.inl q)) fun q => .inr (.inr q)) (fun a q z => q.elim (fun q => (s1.rs.own a (.inr z)).2 (q ▸ hp)) fun q => dj1 a q z)
      (.l (.inl rfl) upd_same w2 fun b q => ⟨.inr q, fun z => (s1.rs.own b (.inl q)).2 (z ▸ hp)⟩) o2
  · exact h1.elim
theorem de_tup {es : List Expr} {f x1} (h : DA X W es f) : DE X W (.Tuple es x1 pos) (eTup f) := pe_weak (pe_tup h) fun _ _ _ => tup_core
theorem de_lst {es : List Expr} {f} (h : DA X W es f) : DE X W (.List es pos) (eLst f) := pe_weak (pe_lst h) fun _ _ _ => lst_core
end
end DL

namespace DL
variable {K : PySem.W.Frag}
open PySem L2
/-! ### operations by values -/
def oI (i : Int) : OD := .p (.int i)
def oB (b : Bool) : OD := .p (.bool b)
def oS (x : Str) : OD := .p (.str x)
theorem Ow.int {F H v i fp} (h : Ow K F H v (oI i) fp) : v = .int i := by cases h with | p h => cases h; rfl
theorem Ow.bl {F H v i fp} (h : Ow K F H v (oB i) fp) : v = .bl i := by cases h with | p h => cases h; rfl
theorem Ow.str {F H v i fp} (h : Ow K F H v (oS i) fp) : v = .str i := by cases h with | p h => cases h; rfl
def int2 (g : Int → Int → Option PyData) : OD → OD → Option OD
  | .p (.int i), .p (.int j) => (g i j).map .p
  | _, _ => none
theorem int2_inv {g x y d} (h : int2 g x y = some d) : ∃ i j e, x = oI i ∧ y = oI j ∧ g i j = some e ∧ d = .p e := by
  unfold int2 at h
  split at h
  · rename_i i j
    cases q : g i j with
    | none => rw [q] at h; cases h
    | some e => rw [q] at h; cases h; exact ⟨i, j, e, rfl, rfl, q, rfl⟩
  · cases h
theorem opS_I {C : Int → Int → Prop} {g : Int → Int → V} {g2 : Int → Int → Option PyData} (h : ∀ i j e, g2 i j = some e → C i j ∧ ∀ F, Dd F (g i j) e) : OpS K (rI C g) (int2 g2) := by
  intro F H v u x y fx fy fp d Q rs lx ly ox oy e k
  obtain ⟨i, j, e', rfl, rfl, q, rfl⟩ := int2_inv e
  obtain ⟨c, w⟩ := h i j e' q
  exact ⟨i, j, ox.int, oy.int, c, k _ F H NoFp (Stp.rfl' ⟨rs.sub, fun _ z => z.elim⟩) (.p (w F))⟩
theorem opS_I0 {g : Int → Int → V} {g2 : Int → Int → Option PyData} (h : ∀ i j e, g2 i j = some e → ∀ F, Dd F (g i j) e) : OpS K (rI0 g) (int2 g2) := by
  intro F H v u x y fx fy fp d Q rs lx ly ox oy e k
  obtain ⟨i, j, e', rfl, rfl, q, rfl⟩ := int2_inv e
  exact ⟨i, j, ox.int, oy.int, k _ F H NoFp (Stp.rfl' ⟨rs.sub, fun _ z => z.elim⟩) (.p (h i j e' q F))⟩
def bitsB : Nat := 400000
/-- a product is told: both factors of at most so many bits, or one of them small -/
def MulOk (i j : Int) : Prop := (i.natAbs < 2 ^ bitsB ∧ j.natAbs < 2 ^ bitsB) ∨ i.natAbs < 2 ^ 63 ∨ j.natAbs < 2 ^ 63
noncomputable instance (i j : Int) : Decidable (MulOk i j) := Classical.propDecidable _
/-- a divisor is told: above nought, of few bits -/
def DivOk (j : Int) : Prop := 0 < j ∧ j.natAbs < 2 ^ 9000
noncomputable instance (j : Int) : Decidable (DivOk j) := Classical.propDecidable _
/-- a bound of a range is told -/
def RngOk (n : Int) : Prop := -(2 ^ 62) ≤ n ∧ n < 2 ^ 62
noncomputable instance (j : Int) : Decidable (RngOk j) := Classical.propDecidable _
def gSub : OD → OD → Option OD := int2 fun i j => some (.int (i - j))
noncomputable def gFdiv : OD → OD → Option OD := int2 fun i j => if DivOk j then some (.int (i / j)) else none
def gMod : OD → OD → Option OD := int2 fun i j => if 0 < j then some (.int (i % j)) else none
def gPow : OD → OD → Option OD := int2 fun i j => if 0 ≤ j ∧ j ≤ 1000000 ∧ i.natAbs < 2 ^ 64 then some (.int (i ^ j.toNat)) else none
def gShl : OD → OD → Option OD := int2 fun i j => if 0 ≤ j ∧ j ≤ 1000000 ∧ i.natAbs < 2 ^ 64 then some (.int (i * 2 ^ j.toNat)) else none
def gShr : OD → OD → Option OD := int2 fun i j => if 0 ≤ j then some (.int (i / 2 ^ j.toNat)) else none
def gLt : OD → OD → Option OD := int2 fun i j => some (.bool (decide (i < j)))
def gLe : OD → OD → Option OD := int2 fun i j => some (.bool (decide (i ≤ j)))
def gGt : OD → OD → Option OD := int2 fun i j => some (.bool (decide (j < i)))
def gGe : OD → OD → Option OD := int2 fun i j => some (.bool (decide (j ≤ i)))
theorem log2_lt' {n k : Nat} (h : n < 2 ^ k) (hk : 0 < k) : n.log2 < k := by
  by_cases z : n = 0
  · subst z; simpa using hk
  · exact (Nat.log2_lt z).mpr h
theorem s_sub : OpS K (rI0 fun i j => .int (i - j)) gSub := opS_I0 fun i j e h F => by cases h; exact .int _
theorem s_fdiv : OpS K (rI CDivW fun i j => .int (i / j)) gFdiv := opS_I fun i j e h => by
  split at h
  · rename_i q; cases h; exact ⟨⟨q.1, log2_lt' q.2 (by decide)⟩, fun F => .int _⟩
  · cases h
theorem s_mod : OpS K (rI (fun _ j => 0 < j) fun i j => .int (i % j)) gMod := opS_I fun i j e h => by
  split at h
  · rename_i q; cases h; exact ⟨q, fun F => .int _⟩
  · cases h
theorem s_pow : OpS K (rI CPow fun i j => .int (i ^ j.toNat)) gPow := opS_I fun i j e h => by
  split at h
  · rename_i q; cases h; exact ⟨q, fun F => .int _⟩
  · cases h
theorem s_shl : OpS K (rI CPow fun i j => .int (i * 2 ^ j.toNat)) gShl := opS_I fun i j e h => by
  split at h
  · rename_i q; cases h; exact ⟨q, fun F => .int _⟩
  · cases h
theorem s_shr : OpS K (rI (fun _ j => 0 ≤ j) fun i j => .int (i / 2 ^ j.toNat)) gShr := opS_I fun i j e h => by
  split at h
  · rename_i q; cases h; exact ⟨q, fun F => .int _⟩
  · cases h
theorem s_lt : OpS K (rI0 fun i j => .bl (decide (i < j))) gLt := opS_I0 fun i j e h F => by cases h; exact .bl _
theorem s_le : OpS K (rI0 fun i j => .bl (decide (i ≤ j))) gLe := opS_I0 fun i j e h F => by cases h; exact .bl _
theorem s_gt : OpS K (rI0 fun i j => .bl (decide (j < i))) gGt := opS_I0 fun i j e h F => by cases h; exact .bl _
theorem s_ge : OpS K (rI0 fun i j => .bl (decide (j ≤ i))) gGe := opS_I0 fun i j e h F => by cases h; exact .bl _
/-- a list's items, where each stands still -/
def its : OD → Option (List PyData)
  | .p (.list ds) => some ds
  | .l xs => allp xs
  | _ => none
theorem its_at {F H : Hp} {v x fx ds} (s : Inc F H) (o : Ow K F H v x fx) (e : its x = some ds) : ∃ a vs, v = .ref a ∧ H a = some (.lst vs) ∧ DdL F vs ds := by
  cases o with
  | p h =>
    cases h with
    | lst a b => cases e; exact ⟨_, _, rfl, s _ _ a, b⟩
    | _ => cases e
  | l a b c d =>
    have e := allp_eq (show allp _ = _ from e)
    subst e
    exact ⟨_, _, rfl, b, c.pure⟩
  | h => cases e
  | t a b => cases e
  | sc a => cases e
  | er => cases e
  | ob => cases e
theorem its_l (ds : List PyData) : its (.l (ds.map .p)) = some ds := allp_map ds
/-- a new list of what stands still -/
theorem newL {F H : Hp} {fp : Fp} {vs : List V} {ds : List PyData} {Q : VK} (rs : RS F H fp) (w : DdL F vs ds) (k : ∀ v' F' H' f', Stp F H NoFp F' H' f' → Ow K F' H' v' (.l (ds.map .p)) f' → Q v' H') : ∀ p, H p = none → Q (.ref p) (upd H p (.lst vs)) := fun p hp => by
  have st := Stp.newOwn (o := .lst vs) (fp := NoFp) ⟨rs.sub, fun _ z => z.elim⟩ hp
  exact k _ _ _ _ st (.l (fq := NoFp) (.inl rfl) upd_same (Ows.of_pure (w.inc st.inc)) fun _ z => z.elim)
def gCat (x y : OD) : Option OD := match its x, its y with
  | some a, some b => if a.length + b.length ≤ 100000 then some (.l ((a ++ b).map .p)) else none
  | _, _ => none
theorem s_cat : OpS K rCat gCat := by
  intro F H v u x y fx fy fp d Q rs lx ly ox oy e k
  unfold gCat at e
  split at e
  · rename_i a b ha hb
    split at e
    · rename_i hl
      cases e
      obtain ⟨p, vs, rfl, h1, w1⟩ := its_at rs.sub ox ha
      obtain ⟨q, us, rfl, h2, w2⟩ := its_at rs.sub oy hb
      exact ⟨p, q, vs, us, rfl, rfl, h1, h2, szl (by rw [w1.len, w2.len]; exact hl), newL rs (w1.app w2) k⟩
    · cases e
  · cases e
def gAddS : OD → OD → Option OD
  | .p (.str a), .p (.str b) => if a.length + b.length ≤ 100000 then some (oS (a ++ b)) else none
  | _, _ => none
theorem s_addS : OpS K (fun x y H Q => ∃ i j, x = .str i ∧ y = .str j ∧ i.length + j.length ≤ sizeLine ∧ Q (.str (i ++ j)) H) gAddS := by
  intro F H v u x y fx fy fp d Q rs lx ly ox oy e k
  unfold gAddS at e
  split at e
  · split at e
    · cases e
      exact ⟨_, _, Ow.str ox, Ow.str oy, szl ‹_›, k _ F H NoFp (Stp.rfl' ⟨rs.sub, fun _ z => z.elim⟩) (.p (.str _))⟩
    · cases e
  · cases e
theorem OpS.or {r r' : R2} {g g'} (h : OpS K r g) (h' : OpS K r' g') : OpS K (fun x y H Q => r x y H Q ∨ r' x y H Q) (fun x y => (g x y).orElse fun _ => g' x y) := by
  intro F H v u x y fx fy fp d Q rs lx ly ox oy e k
  dsimp only at e
  cases q : g x y with
  | some z => rw [q] at e; cases e; exact .inl (h F H v u x y fx fy fp _ Q rs lx ly ox oy q k)
  | none => rw [q] at e; exact .inr (h' F H v u x y fx fy fp _ Q rs lx ly ox oy e k)
theorem OpS.imp {r : R2} {g g' : OD → OD → Option OD} (h : OpS K r g) (i : ∀ x y d, g' x y = some d → g x y = some d) : OpS K r g' := fun F H v u x y fx fy fp d Q rs lx ly ox oy e k =>
  h F H v u x y fx fy fp d Q rs lx ly ox oy (i _ _ _ e) k
def gAdd : OD → OD → Option OD
  | .p (.int i), .p (.int j) => some (oI (i + j))
  | .p (.str a), .p (.str b) => if a.length + b.length ≤ 100000 then some (oS (a ++ b)) else none
  | x, y => gCat x y
theorem s_add0 : OpS K (rI0 fun i j => .int (i + j)) (int2 fun i j => some (.int (i + j))) := opS_I0 fun i j e h F => by cases h; exact .int _
def rAdd : R2 := fun x y H Q => rI0 (fun i j => .int (i + j)) x y H Q ∨ (∃ i j, x = .str i ∧ y = .str j ∧ i.length + j.length ≤ sizeLine ∧ Q (.str (i ++ j)) H) ∨ rCat x y H Q
theorem s_add : OpS K rAdd gAdd := (s_add0.or (s_addS.or s_cat)).imp fun x y d h => by
  unfold gAdd at h
  split at h
  · cases h; rfl
  · split at h
    · rename_i q
      cases h
      show (if _ then _ else _ : Option OD).orElse _ = _
      rw [if_pos q]; rfl
    · cases h
  · rename_i h1 h2
    have a : int2 (fun i j => some (.int (i + j))) x y = none := by
      unfold int2; split
      · exact (h1 _ _ rfl rfl).elim
      · rfl
    have b : gAddS x y = none := by
      unfold gAddS; split
      · exact (h2 _ _ rfl rfl).elim
      · rfl
    rw [a, b]; exact h
noncomputable def gMul : OD → OD → Option OD
  | .p (.int i), .p (.int j) => if MulOk i j then some (oI (i * j)) else none
  | x, .p (.int k) => match its x with
    | some ds => if ds.length = 1 ∧ 0 ≤ k ∧ k ≤ 1000 then some (.l ((List.replicate k.toNat ds).flatten.map .p)) else none
    | none => none
  | _, _ => none
def rMul : R2 := fun x y H Q => (rI CMulW (fun i j => .int (i * j)) x y H Q ∨ rI CMul (fun i j => .int (i * j)) x y H Q) ∨ rRep x y H Q
theorem DdL.rep {F : Hp} {vs ds} (w : DdL F vs ds) : ∀ k : Nat, DdL F (List.replicate k vs).flatten (List.replicate k ds).flatten
  | 0 => .nil
  | k + 1 => by
    rw [List.replicate_succ, List.replicate_succ, List.flatten_cons, List.flatten_cons]
    exact w.app (w.rep k)
theorem s_mul : OpS K rMul gMul := by
  intro F H v u x y fx fy fp d Q rs lx ly ox oy e k
  unfold gMul at e
  split at e
  · split at e
    · rename_i q
      cases e
      have kk := k _ F H NoFp (Stp.rfl' ⟨rs.sub, fun _ z => z.elim⟩) (.p (.int _))
      rcases q with q | q | q
      · refine .inl (.inl ⟨_, _, Ow.int ox, Ow.int oy, ?_, kk⟩)
        have a := log2_lt' q.1 (by unfold bitsB; omega)
        have b := log2_lt' q.2 (by unfold bitsB; omega)
        show _ + _ < 1000000
        unfold bitsB at a b; omega
      · exact .inl (.inr ⟨_, _, Ow.int ox, Ow.int oy, .inl (by omega), kk⟩)
      · exact .inl (.inr ⟨_, _, Ow.int ox, Ow.int oy, .inr (by omega), kk⟩)
    · cases e
  · split at e
    · rename_i ds hd
      split at e
      · rename_i q
        cases e
        obtain ⟨p, vs, rfl, h1, w1⟩ := its_at rs.sub ox hd
        obtain ⟨q1, q2, q3⟩ := q
        have hl : vs.length = 1 := w1.len.trans q1
        refine .inr ⟨p, _, vs, rfl, Ow.int oy, h1, by omega, by omega, szl (by rw [hl]; omega), newL rs (w1.rep _) k⟩
      · cases e
    · cases e
  · cases e
/-! equality -/
mutual
/-- the tree that == sees -/
def vw : OD → Option PyData
  | .p d => some d
  | .l xs => (vws xs).map .list
  | .t xs => (vws xs).map .tuple
  | .h => none
  | .sc _ => none
  | .er _ _ => none
  | .ob _ _ _ => none
def vws : List OD → Option (List PyData)
  | [] => some []
  | x :: xs => (vw x).bind fun d => (vws xs).map (d :: ·)
end
mutual
theorem Ow.vw {K : PySem.W.Frag} {F H : Hp} (s : Inc F H) : ∀ {v x} {fp : Fp} {d}, Ow K F H v x fp → DL.vw x = some d → Dp K H v d
  | _, _, _, _, .h, e => by cases e
  | _, _, _, _, .p q, e => by cases e; exact (q.inc s).dp
  | _, .l xs, _, _, .l a b c d, e => by
    unfold DL.vw at e
    cases q : vws xs with
    | none => rw [q] at e; cases e
    | some ds => rw [q] at e; cases e; exact .lst (SqL.of b) (c.vw s q)
  | _, .t xs, _, _, .t a b, e => by
    unfold DL.vw at e
    cases q : vws xs with
    | none => rw [q] at e; cases e
    | some ds => rw [q] at e; cases e; exact .tup (SqT.of (s _ _ a)) (b.vw s q)
  | _, _, _, _, .sc _, e => by cases e
  | _, _, _, _, .er _, e => by cases e
  | _, _, _, _, .ob _ _ _ _ _ _ _, e => by cases e
theorem Ows.vw {K : PySem.W.Frag} {F H : Hp} (s : Inc F H) : ∀ {vs : List V} {xs} {fp : Fp} {ds}, Ows K F H (vs.map some) xs fp → vws xs = some ds → DpAll K H vs ds
  | [], _, _, _, .nil, e => by cases e; exact .nil
  | v :: vs, .h :: xs, _, _, .hole t, e => by unfold vws at e; unfold DL.vw at e; cases e
  | v :: vs, x :: xs, _, _, .cons a b c c2 f, e => by
    unfold vws at e
    cases q : DL.vw x with
    | none => rw [q] at e; cases e
    | some d =>
      rw [q] at e
      cases q2 : vws xs with
      | none => rw [q2] at e; cases e
      | some ds => rw [q2] at e; cases e; exact .cons (a.vw s q) (b.vw s q2)
end
@[simp] theorem vw_p (d) : vw (.p d) = some d := rfl
@[simp] theorem vws_map (ds : List PyData) : vws (ds.map .p) = some ds := by
  induction ds with
  | nil => rfl
  | cons d ds ih => simp [vws, vw, ih]
def gEq (x y : OD) : Option OD := match vw x, vw y with
  | some a, some b => if SeqAt.shaped a = true ∧ SeqAt.shaped b = true then some (oB (PyData.eqv a b)) else none
  | _, _ => none
def gNe (x y : OD) : Option OD := match vw x, vw y with
  | some a, some b => if SeqAt.shaped a = true ∧ SeqAt.shaped b = true then some (oB (!PyData.eqv a b)) else none
  | _, _ => none
theorem s_eq {K} : OpS K (rEqD K) gEq := by
  intro F H v u x y fx fy fp d Q rs lx ly ox oy e k
  unfold gEq at e
  split at e
  · rename_i a b ha hb
    split at e
    · rename_i q
      cases e
      exact ⟨a, b, ox.vw rs.sub ha, oy.vw rs.sub hb, q.1, q.2, k _ F H NoFp (Stp.rfl' ⟨rs.sub, fun _ z => z.elim⟩) (.p (.bl _))⟩
    · cases e
  · cases e
theorem s_ne {K} : OpS K (rNeD K) gNe := by
  intro F H v u x y fx fy fp d Q rs lx ly ox oy e k
  unfold gNe at e
  split at e
  · rename_i a b ha hb
    split at e
    · rename_i q
      cases e
      exact ⟨a, b, ox.vw rs.sub ha, oy.vw rs.sub hb, q.1, q.2, k _ F H NoFp (Stp.rfl' ⟨rs.sub, fun _ z => z.elim⟩) (.p (.bl _))⟩
    · cases e
  · cases e
def gIn (neg : Bool) (x y : OD) : Option OD := match vw x, vw y with
  | some a, some (.list bs) => if SeqAt.shaped a = true ∧ SeqAt.shaped (.list bs) = true then some (oB (xor neg (bs.any fun z => PyData.eqv z a))) else none
  | _, _ => none
theorem s_in {K} : OpS K (rInD K) (gIn false) := by
  intro F H v u x y fx fy fp d Q rs lx ly ox oy e k
  unfold gIn at e
  split at e
  · rename_i a b ha hb
    split at e
    · rename_i q
      cases e
      refine ⟨a, b, ox.vw rs.sub ha, oy.vw rs.sub hb, q.1, q.2, k _ F H NoFp (Stp.rfl' ⟨rs.sub, fun _ z => z.elim⟩) ?_⟩
      rw [Bool.false_xor]; exact .p (.bl _)
    · cases e
  · cases e
theorem s_notIn {K} : OpS K (rNotInD K) (gIn true) := by
  intro F H v u x y fx fy fp d Q rs lx ly ox oy e k
  unfold gIn at e
  split at e
  · rename_i a b ha hb
    split at e
    · rename_i q
      cases e
      refine ⟨a, b, ox.vw rs.sub ha, oy.vw rs.sub hb, q.1, q.2, k _ F H NoFp (Stp.rfl' ⟨rs.sub, fun _ z => z.elim⟩) ?_⟩
      rw [Bool.true_xor]; exact .p (.bl _)
    · cases e
  · cases e
def gIsN (neg : Bool) (x y : OD) : Option OD := match x, y with
  | .p a, .p .none => some (oB (xor neg (match a with | .none => true | _ => false)))
  | .l _, .p .none => some (oB neg)
  | .t _, .p .none => some (oB neg)
  | .er _ _, .p .none => some (oB neg)
  | .ob _ _ _, .p .none => some (oB neg)
  | _, _ => none
theorem isN_val {F H : Hp} {v u x y fx fy neg d} (ox : Ow K F H v x fx) (oy : Ow K F H u y fy) (e : gIsN neg x y = some d) : u = .non ∧ d = oB (xor neg (decide (v = .non))) := by
  unfold gIsN at e
  split at e
  · cases e
    cases oy with | p h => cases h; exact ⟨rfl, by cases ox with | p h => cases h <;> simp [oB]⟩
  · cases e
    cases oy with | p h => cases h; exact ⟨rfl, by cases ox; simp [oB]⟩
  · cases e
    cases oy with | p h => cases h; exact ⟨rfl, by cases ox; simp [oB]⟩
  · cases e
    cases oy with | p h => cases h; exact ⟨rfl, by cases ox; simp [oB]⟩
  · cases e
    cases oy with | p h => cases h; exact ⟨rfl, by cases ox; simp [oB]⟩
  · cases e
theorem s_isN : OpS K (fun x y H Q => y = .non ∧ Q (.bl (decide (x = .non))) H) (gIsN false) := by
  intro F H v u x y fx fy fp d Q rs lx ly ox oy e k
  obtain ⟨rfl, rfl⟩ := isN_val ox oy e
  refine ⟨rfl, k _ F H NoFp (Stp.rfl' ⟨rs.sub, fun _ z => z.elim⟩) ?_⟩
  rw [Bool.false_xor]; exact .p (.bl _)
theorem s_notN : OpS K (fun x y H Q => y = .non ∧ Q (.bl (!decide (x = .non))) H) (gIsN true) := by
  intro F H v u x y fx fy fp d Q rs lx ly ox oy e k
  obtain ⟨rfl, rfl⟩ := isN_val ox oy e
  refine ⟨rfl, k _ F H NoFp (Stp.rfl' ⟨rs.sub, fun _ z => z.elim⟩) ?_⟩
  rw [Bool.true_xor]; exact .p (.bl _)
/-! items -/
def gIx (x y : OD) : Option OD := match x, y with
  | .p (.list ds), .p (.int i) => (atI ds i).map .p
  | .p (.tuple ds), .p (.int i) => (atI ds i).map .p
  | .p (.str z), .p (.int i) => if z.length ≤ 100000 then (atI z.cps.toList i).map fun c => oS ⟨#[c]⟩ else none
  | .l xs, .p (.int i) => match atI xs i with
    | some (.p d) => some (.p d)
    | _ => none
  | .t xs, .p (.int i) => match atI xs i with
    | some (.p d) => some (.p d)
    | _ => none
  | .sc ns, .p (.int i) => (atI ns i).map oI
  | _, _ => none
theorem atI_inv {α β : Type} {xs : List α} {ys : List β} {i : Int} {y : β} (hl : xs.length = ys.length) (h : atI ys i = some y) : ∃ j : Nat, ys[j]? = some y ∧ atI xs i = xs[j]? := by
  unfold atI at h ⊢
  rw [hl]
  cases q : ixN ys.length i with
  | none => rw [q] at h; cases h
  | some j => rw [q] at h; exact ⟨j, h, rfl⟩
theorem s_ix {K} : OpS K (rIx K) gIx := by
  intro F H v u x y fx fy fp d Q rs lx ly ox oy e k
  have id' : ∀ {w : V} {dd : PyData}, Dd F w dd → (Ow K F H w (.p dd) NoFp → True) → d = .p dd → Q w H := fun h _ e => k _ F H NoFp (Stp.rfl' ⟨rs.sub, fun _ z => z.elim⟩) (e ▸ .p h)
  unfold gIx at e
  split at e
  · rename_i ds i
    cases q : atI ds i with
    | none => rw [q] at e; cases e
    | some dd =>
      rw [q] at e; cases e
      cases ox with
      | p h =>
        cases h with
        | lst a b =>
          obtain ⟨j, h1, h2⟩ := atI_inv b.len q
          obtain ⟨w, h3, h4⟩ := b.get h1
          exact .inl ⟨_, _, i, w, rfl, Ow.int oy, SqL.of (rs.sub _ _ a), h2.trans h3, id' h4 (fun _ => trivial) rfl⟩
  · rename_i ds i
    cases q : atI ds i with
    | none => rw [q] at e; cases e
    | some dd =>
      rw [q] at e; cases e
      cases ox with
      | p h =>
        cases h with
        | tup a b =>
          obtain ⟨j, h1, h2⟩ := atI_inv b.len q
          obtain ⟨w, h3, h4⟩ := b.get h1
          exact .inr (.inl ⟨_, _, i, w, rfl, Ow.int oy, SqT.of (rs.sub _ _ a), h2.trans h3, id' h4 (fun _ => trivial) rfl⟩)
  · rename_i z i
    split at e
    · rename_i hl
      cases q : atI z.cps.toList i with
      | none => rw [q] at e; cases e
      | some c =>
        rw [q] at e; cases e
        exact .inr (.inr ⟨z, i, c, Ow.str ox, Ow.int oy, szl hl, q, id' (.str _) (fun _ => trivial) rfl⟩)
    · cases e
  · rename_i xs i
    split at e
    · rename_i dd q
      cases e
      cases ox with
      | l a b c dj =>
        obtain ⟨j, h1, h2⟩ := atI_inv (ows_len c) q
        obtain ⟨w, _, _, h3, h4, _⟩ := c.get h1 (fun z => nomatch z)
        rw [List.getElem?_map] at h3
        cases q2 : ‹List V›[j]? with
        | none => rw [q2] at h3; cases h3
        | some w' =>
          rw [q2] at h3; cases h3
          cases h4 with
          | p h4 => exact .inl ⟨_, _, i, w, rfl, Ow.int oy, SqL.of b, h2.trans q2, id' h4 (fun _ => trivial) rfl⟩
    · cases e
  · rename_i xs i
    split at e
    · rename_i dd q
      cases e
      cases ox with
      | t a c =>
        obtain ⟨j, h1, h2⟩ := atI_inv (ows_len c) q
        obtain ⟨w, _, _, h3, h4, _⟩ := c.get h1 (fun z => nomatch z)
        rw [List.getElem?_map] at h3
        cases q2 : ‹List V›[j]? with
        | none => rw [q2] at h3; cases h3
        | some w' =>
          rw [q2] at h3; cases h3
          cases h4 with
          | p h4 => exact .inr (.inl ⟨_, _, i, w, rfl, Ow.int oy, SqT.of (rs.sub _ _ a), h2.trans q2, id' h4 (fun _ => trivial) rfl⟩)
    · cases e
  · rename_i ns i
    cases q : atI ns i with
    | none => rw [q] at e; cases e
    | some n =>
      rw [q] at e; cases e
      cases ox with
      | sc a =>
        obtain ⟨j, h1, h2⟩ := atI_inv (xs := ns.map V.int) (by simp) q
        exact .inl ⟨_, _, i, .int n, rfl, Ow.int oy, sqInc rs.sub a, by rw [h2, List.getElem?_map, h1]; rfl, id' (.int n) (fun _ => trivial) rfl⟩
  · cases e
/-! one-place -/
def gNeg : OD → Option OD
  | .p (.int i) => some (oI (-i))
  | _ => none
theorem s_neg : UnS K (rU fun i => .int (-i)) gNeg := by
  intro F H v x fx fp d Q rs lx ox e k
  unfold gNeg at e
  split at e
  · cases e
    exact ⟨_, Ow.int ox, k _ F H NoFp (Stp.rfl' ⟨rs.sub, fun _ z => z.elim⟩) (.p (.int _))⟩
  · cases e
end DL

namespace DL
variable {K : PySem.W.Frag}
open PySem L2
section
variable {X : Cx} {W : WX}
/-! ### operands as arguments of built-in calls -/
theorem Held.weak {F H : Hp} {σ v} {g g' : Fp} {x} (w : Held K F H σ v g x) (l : ∀ a, g a → g' a) : Held K F H σ v g' x := by
  cases x with
  | val x => exact Ow.weak w l
  | slot i => exact w
abbrev Helds (K : PySem.W.Frag) (F H : Hp) (σ : L2.St) (vs : List V) (g : Fp) (os : List Opd) : Prop := Paired (fun v o => Held K F H σ v g o) vs os
def PoVs (K : PySem.W.Frag) (mg : Mg) (W : WX) (F H : Hp) (fp : Fp) (σ : L2.St) (Q : List V → Hp → Prop) : R (List Opd) → Prop
  | .st => False
  | .ok os env' => ∀ vs F' H' fv fp', Stp F H fp F' H' (Un2 fv fp') → Dj fv fp' → Helds K F' H' σ vs fv os → Ows K F' H' σ env' fp' → Q vs H'
  | .ex C f env' => PoX K mg W F H fp σ C f env'
def dTVs (K : PySem.W.Frag) (mg : Mg) (W : WX) (f : Env' → R (List Opd)) : TA := fun σ H Q => ∃ F env fp, RS F H fp ∧ Ows K F H σ env fp ∧ PoVs K mg W F H fp σ Q (f env)
abbrev DVs (X : Cx) (W : WX) (es : List Expr) (f : Env' → R (List Opd)) : Prop := PA X es (dTVs X.K X.mg W f)
theorem PoVs.ex_ {mg : Mg} {F H : Hp} {fp : Fp} {σ} {Q} (C f e) (h : PoVs K mg W F H fp σ Q (.ex C f e)) : PoX K mg W F H fp σ C f e := h
theorem seqVs {mg : Mg} {F H F1 H1 : Hp} {fp f1 fq : Fp} {σ : L2.St} {env1 : Env'} {f : Env' → R (List Opd)} {β : Type} {P : R β → Prop} {k : List Opd → Env' → R β} {Q1 : List V → Hp → Prop} (s : Stp F H fp F1 H1 fq) (l : ∀ a, f1 a → fq a) (o : Ows K F1 H1 σ env1 f1)
    (hs : P .st → False) (hx : ∀ C f e, P (.ex C f e) → PoX K mg W F H fp σ C f e) (h : P ((f env1).bind k))
    (c : ∀ d e' v F' H' fv fp', Stp F1 H1 f1 F' H' (Un2 fv fp') → Dj fv fp' → Helds K F' H' σ v fv d → Ows K F' H' σ e' fp' → P (k d e') → Q1 v H') : dTVs K mg W f σ H1 Q1 := by
  refine ⟨F1, env1, f1, ⟨s.rs.sub, fun a q => s.rs.own a (l a q)⟩, o, ?_⟩
  cases e : f env1 with
  | st => rw [e] at h; exact (hs h).elim
  | ok d e' => rw [e] at h; exact fun v F' H' fv fp' t dj w o' => c d e' v F' H' fv fp' t dj w o' h
  | ex C x e' => rw [e] at h; exact (hx C x e' h).step s l
def vNil : Env' → R (List Opd) := fun env => .ok [] env
def vCons (f : Env' → R Opd) (g : Env' → R (List Opd)) : Env' → R (List Opd) := fun env => (f env).bind fun x e => (g e).bind fun xs e2 => .ok (x :: xs) e2
theorem dv_nil : DVs X W [] vNil := pa_weak pa_nil fun _ H _ ⟨F, env, fp, rs, o, h⟩ => h [] F H NoFp fp (Stp.id0 rs) dj0 .nil o
theorem Paired.mono {α β : Type} {F G : α → β → Prop} {xs ys} (h : Paired F xs ys) (i : ∀ a b, F a b → G a b) : Paired G xs ys := by
  induction h with
  | nil => exact .nil
  | cons a b ih => exact .cons (i _ _ a) ih
theorem vcons_core {mg : Mg} {σ : L2.St} {H : Hp} {Q : List V → Hp → Prop} {f : Env' → R Opd} {g : Env' → R (List Opd)} : dTVs K mg W (vCons f g) σ H Q → tCons (dTV K mg W f) (dTVs K mg W g) σ H Q := fun ⟨F, env, fp, rs, o, h⟩ => by
  refine seqV (Stp.rfl' rs) (fun _ q => q) o (fun h => h) PoVs.ex_ h fun a e1 v F1 H1 fv f1 s1 dj1 w1 o1 h1 => ?_
  refine seqVs s1 (fun _ q => .inr q) o1 (fun h => h) PoVs.ex_ h1 fun b e2 u F2 H2 fu f2 s2 dj2 w2 o2 h2 => ?_
  have own : ∀ a, fv a → F1 a = none ∧ H1 a ≠ none := fun a q => s1.rs.own a (.inl q)
  have w1' := w1.step s2 dj1 (fun a q => (own a q).2)
  have d3 := s2.dj dj1 fun a q => (own a q).2
  have s3 : Stp F H fp F2 H2 (Un2 (Un2 fu f2) fv) := s1.tr ((s2.frame dj1 own).from fun a q => q.elim .inr .inl)
  exact h2 (v :: u) F2 H2 (Un2 fv fu) f2 (s3.less fun a q => q.elim (fun q => q.elim .inr fun q => .inl (.inl q)) fun q => .inl (.inr q)) (fun a q z => q.elim (fun q => d3 a q (.inr z)) fun q => dj2 a q z)
    (.cons (w1'.weak fun _ => .inl) (Paired.mono w2 fun _ _ w => w.weak fun _ => .inr)) o2
theorem dv_cons {e : Expr} {es : List Expr} {f g} (ha : DV X W e f) (hr : DVs X W es g) (hs : starEach (e :: es) X.env = (false, eval e X.env) :: starEach es X.env := by rfl) : DVs X W (e :: es) (vCons f g) :=
  pa_weak (pa_cons ha hr hs) fun _ _ _ => vcons_core
def ats (e : Env') : List Opd → Option (List OD)
  | [] => some []
  | o :: os => match o.at e, ats e os with
    | some x, some xs => some (x :: xs)
    | _, _ => none
def apN (g : List OD → Option OD) (os : List Opd) (e : Env') : R OD := match ats e os with
  | some xs => R.of (g xs) e
  | none => .st
def eCall (g : List OD → Option OD) (f : Env' → R (List Opd)) : Env' → R OD := fun env => (f env).bind fun os e => apN g os e
theorem Helds.looks {F H : Hp} {σ : L2.St} {env : Env'} {g fp : Fp} (o : Ows K F H σ env fp) : ∀ {vs os xs}, Helds K F H σ vs g os → ats env os = some xs → Paired (fun v x => ∃ fx : Fp, (∀ a, fx a → Un2 g fp a) ∧ Ow K F H v x fx) vs xs
  | _, _, _, .nil, e => by cases e; exact .nil
  | _, _, xs, .cons w r, e => by
    unfold ats at e
    split at e
    · rename_i x xs' e1 e2
      cases e
      obtain ⟨fx, a, b⟩ := Held.look w o e1
      exact .cons ⟨fx, b, a⟩ (Helds.looks o r e2)
    · cases e
theorem call_core {mg : Mg} {σ : L2.St} {H : Hp} {Q : VK} {r : List V → Hp → VK → Prop} {g} {f : Env' → R (List Opd)} (hs : CaS K r g) : dTE K mg W (eCall g f) σ H Q → tCB r (dTVs K mg W f) σ H Q := fun ⟨F, env, fp, rs, o, h⟩ => by
  refine seqVs (Stp.rfl' rs) (fun _ q => q) o (fun h => h) PoE.ex_ h fun os e1 vs F1 H1 fv f1 s1 dj1 w1 o1 h1 => ?_
  unfold apN at h1
  cases ea : ats e1 os with
  | none => rw [ea] at h1; exact h1.elim
  | some xs =>
    rw [ea] at h1
    dsimp only at h1
    cases eg : g xs with
    | none => rw [eg] at h1; exact h1.elim
    | some d =>
      rw [eg] at h1
      exact hs F1 H1 vs xs (Un2 fv f1) d Q s1.rs (Helds.looks o1 w1 ea) eg (h1.fin s1 (fun _ q => .inr q) o1)
section
variable {x : Str} {id T : String} {r : List V → Hp → VK → Prop} {g : List OD → Option OD} {e : Expr} {es : List Expr} {f : Env' → R (List Opd)} {p pos : Pos}
theorem de_callB (hc : CallR X (.builtin id) r) (hs : CaS X.K r g) (hv : bootBuiltins x = some (.builtin id)) (hg : Gl X x) (hm : X.mg x = none) (ha : DVs X W (e :: es) f) (hn : x ≠ "__name__" := by decide) (hdb : (x == ("__debug__" : Str)) = false := by decide)
    (he : starEach (e :: es) X.env = (false, eval e X.env) :: starEach es X.env := by rfl) (hpl : (backTo pos (starEach es X.env)).any (·.1) = false := by rfl) : DE X W (.Call (.Name x p) (e :: es) [] pos) (eCall g f) :=
  pe_weak (pe_callB hc hg hm hv ha hn hdb he hpl) fun _ _ _ => call_core hs
theorem de_callT (hc : CallR X (.type T) r) (hs : CaS X.K r g) (hv : bootBuiltins x = some (.type T)) (hg : Gl X x) (hm : X.mg x = none) (ha : DVs X W (e :: es) f) (hn : x ≠ "__name__" := by decide) (hdb : (x == ("__debug__" : Str)) = false := by decide)
    (he : starEach (e :: es) X.env = (false, eval e X.env) :: starEach es X.env := by rfl) (hpl : (backTo pos (starEach es X.env)).any (·.1) = false := by rfl) : DE X W (.Call (.Name x p) (e :: es) [] pos) (eCall g f) :=
  pe_weak (pe_callTy hc hg hm hv ha hn hdb he hpl) fun _ _ _ => call_core hs
end
end
/-! ### what the built-in functions make -/
theorem CaS.one {r : List V → Hp → VK → Prop} {g : OD → Option OD} (h : ∀ F H v x fx fp d (Q : VK), RS F H fp → Ow K F H v x fx → g x = some d → (∀ v' F' H' f', Stp F H NoFp F' H' f' → Ow K F' H' v' d f' → Q v' H') → r [v] H Q) :
    CaS K r (fun xs => match xs with | [x] => g x | _ => none) := by
  intro F H vs xs fp d Q rs w e k
  cases w with
  | nil => cases e
  | cons a b =>
    cases b with
    | nil => obtain ⟨fx, _, o⟩ := a; exact h F H _ _ fx fp d Q rs o e k
    | cons => cases e
theorem CaS.two {r : List V → Hp → VK → Prop} {g : OD → OD → Option OD} (h : ∀ F H v u x y fx fy fp d (Q : VK), RS F H fp → Ow K F H v x fx → Ow K F H u y fy → g x y = some d → (∀ v' F' H' f', Stp F H NoFp F' H' f' → Ow K F' H' v' d f' → Q v' H') → r [v, u] H Q) :
    CaS K r (fun xs => match xs with | [x, y] => g x y | _ => none) := by
  intro F H vs xs fp d Q rs w e k
  cases w with
  | nil => cases e
  | cons a b =>
    cases b with
    | nil => cases e
    | cons b c =>
      cases c with
      | nil => obtain ⟨fx, _, o⟩ := a; obtain ⟨fy, _, o'⟩ := b; exact h F H _ _ _ _ fx fy fp d Q rs o o' e k
      | cons => cases e
theorem k0 {F H : Hp} {fp : Fp} {d : OD} {Q : VK} {v : V} (rs : RS F H fp) (k : ∀ v' F' H' f', Stp F H NoFp F' H' f' → Ow K F' H' v' d f' → Q v' H') (w : Ow K F H v d NoFp) : Q v H :=
  k v F H NoFp (Stp.rfl' ⟨rs.sub, fun _ z => z.elim⟩) w
def c1 (g : OD → Option OD) (xs : List OD) : Option OD := match xs with | [x] => g x | _ => none
def c2 (g : OD → OD → Option OD) (xs : List OD) : Option OD := match xs with | [x, y] => g x y | _ => none
@[simp] theorem c1_one (g x) : c1 g [x] = g x := rfl
@[simp] theorem c2_two (g x y) : c2 g [x, y] = g x y := rfl
def gLen : OD → Option OD
  | .p (.list ds) => some (oI ds.length)
  | .p (.tuple ds) => some (oI ds.length)
  | .p (.str z) => if z.length ≤ 100000 then some (oI z.length) else none
  | .l xs => some (oI xs.length)
  | .t xs => some (oI xs.length)
  | .sc ns => some (oI ns.length)
  | _ => none
theorem c_len {K} : CaS K (fun xs H Q => ∃ x n, xs = [x] ∧ LenV K x H n ∧ Q (.int n) H) (c1 gLen) := CaS.one fun F H v x fx fp d Q rs o e k => by
  cases o with
  | h => cases e
  | p h =>
    cases h with
    | lst a b => cases e; exact ⟨_, _, rfl, .inl ⟨_, SqL.of (rs.sub _ _ a), rfl⟩, by rw [b.len]; exact k0 rs k (.p (.int _))⟩
    | tup a b => cases e; exact ⟨_, _, rfl, .inr ⟨_, SqT.of (rs.sub _ _ a), rfl⟩, by rw [b.len]; exact k0 rs k (.p (.int _))⟩
    | str z =>
      unfold gLen at e
      dsimp only at e
      split at e
      · rename_i q; cases e; exact ⟨_, _, rfl, ⟨szl q, rfl⟩, k0 rs k (.p (.int _))⟩
      · cases e
    | _ => cases e
  | l a b c dj => cases e; exact ⟨_, _, rfl, .inl ⟨_, SqL.of b, rfl⟩, by rw [ows_len c]; exact k0 rs k (.p (.int _))⟩
  | t a c => cases e; exact ⟨_, _, rfl, .inr ⟨_, SqT.of (rs.sub _ _ a), rfl⟩, by rw [ows_len c]; exact k0 rs k (.p (.int _))⟩
  | sc a => cases e; exact ⟨_, _, rfl, .inl ⟨_, sqInc rs.sub a, by simp⟩, k0 rs k (.p (.int _))⟩
  | er => cases e
  | ob => cases e
def gInt1 (g : Int → Int) : OD → Option OD
  | .p (.int i) => some (oI (g i))
  | _ => none
theorem gInt1_inv {g x d} (e : gInt1 g x = some d) : ∃ i, x = oI i ∧ d = oI (g i) := by
  unfold gInt1 at e
  split at e
  · cases e; exact ⟨_, rfl, rfl⟩
  · cases e
def gAbs : OD → Option OD := gInt1 fun i => if i < 0 then -i else i
theorem c_abs : CaS K (fun xs H Q => ∃ i, xs = [.int i] ∧ Q (.int (if i < 0 then -i else i)) H) (c1 gAbs) := CaS.one fun F H v x fx fp d Q rs o e k => by
  obtain ⟨i, rfl, rfl⟩ := gInt1_inv e
  cases Ow.int o; exact ⟨i, rfl, k0 rs k (.p (.int _))⟩
def gMax2 : OD → OD → Option OD := int2 fun i j => some (.int (if j > i then j else i))
def gMin2 : OD → OD → Option OD := int2 fun i j => some (.int (if j < i then j else i))
theorem c_max2 : CaS K (fun xs H Q => ∃ i j, xs = [.int i, .int j] ∧ Q (.int (if j > i then j else i)) H) (c2 gMax2) := CaS.two fun F H v u x y fx fy fp d Q rs o o' e k => by
  obtain ⟨i, j, e', rfl, rfl, q, rfl⟩ := int2_inv e
  cases q; cases Ow.int o; cases Ow.int o'
  exact ⟨i, j, rfl, k0 rs k (.p (.int _))⟩
theorem c_min2 : CaS K (fun xs H Q => ∃ i j, xs = [.int i, .int j] ∧ Q (.int (if j < i then j else i)) H) (c2 gMin2) := CaS.two fun F H v u x y fx fy fp d Q rs o o' e k => by
  obtain ⟨i, j, e', rfl, rfl, q, rfl⟩ := int2_inv e
  cases q; cases Ow.int o; cases Ow.int o'
  exact ⟨i, j, rfl, k0 rs k (.p (.int _))⟩
/-- the ints of a list -/
def toInts : List PyData → Option (List Int)
  | [] => some []
  | .int i :: ds => (toInts ds).map (i :: ·)
  | _ => none
theorem toInts_eq : ∀ {ds ns}, toInts ds = some ns → ds = ns.map .int
  | [], ns, h => by cases h; rfl
  | .int i :: ds, ns, h => by
    unfold toInts at h
    cases q : toInts ds with
    | none => rw [q] at h; cases h
    | some es => rw [q] at h; cases h; rw [toInts_eq q]; rfl
  | .none :: _, _, h => nomatch h
  | .bool _ :: _, _, h => nomatch h
  | .str _ :: _, _, h => nomatch h
  | .list _ :: _, _, h => nomatch h
  | .tuple _ :: _, _, h => nomatch h
  | .dict _ :: _, _, h => nomatch h
@[simp] theorem toInts_map (ns : List Int) : toInts (ns.map .int) = some ns := by
  induction ns with
  | nil => rfl
  | cons n ns ih => simp [toInts, ih]
def intsOf : OD → Option (List Int)
  | .sc ns => some ns
  | x => (its x).bind toInts
theorem intsOf_at {F H : Hp} {v x fx ns} {K : PySem.W.Frag} (s : Inc F H) (o : Ow K F H v x fx) (e : intsOf x = some ns) : ∃ a, v = .ref a ∧ SqL K H a (ns.map V.int) := by
  unfold intsOf at e
  split at e
  · cases e
    cases o with | sc a => exact ⟨_, rfl, sqInc s a⟩
  · cases q : its x with
    | none => rw [q] at e; cases e
    | some ds =>
      rw [q] at e
      obtain ⟨a, vs, rfl, h, w⟩ := its_at s o q
      have := toInts_eq (show toInts ds = some ns from e)
      subst this
      rw [w.ints] at h
      exact ⟨a, rfl, SqL.of h⟩
def gSum (x : OD) : Option OD := (intsOf x).map fun ns => oI ns.sum
theorem c_sum {K} : CaS K (rSum K) (c1 gSum) := CaS.one fun F H v x fx fp d Q rs o e k => by
  unfold gSum at e
  cases q : intsOf x with
  | none => rw [q] at e; cases e
  | some ns =>
    rw [q] at e; cases e
    obtain ⟨a, rfl, h⟩ := intsOf_at rs.sub o q
    exact ⟨a, ns, rfl, h, k0 rs k (.p (.int _))⟩
def maxL : Int → List Int → Int
  | m, [] => m
  | m, x :: xs => maxL (if x > m then x else m) xs
def minL : Int → List Int → Int
  | m, [] => m
  | m, x :: xs => minL (if x < m then x else m) xs
theorem maxL_spec : ∀ (xs : List Int) (m : Int), (maxL m xs = m ∨ maxL m xs ∈ xs) ∧ m ≤ maxL m xs ∧ ∀ y ∈ xs, y ≤ maxL m xs
  | [], m => ⟨.inl rfl, Int.le_refl _, fun _ h => nomatch h⟩
  | x :: xs, m => by
    obtain ⟨a, b, c⟩ := maxL_spec xs (if x > m then x else m)
    unfold maxL
    refine ⟨?_, ?_, fun y h => ?_⟩
    · rcases a with a | a
      · rw [a]; split
        · exact .inr (List.mem_cons_self)
        · exact .inl rfl
      · exact .inr (List.mem_cons_of_mem _ a)
    · refine Int.le_trans ?_ b; split <;> omega
    · rcases List.mem_cons.mp h with rfl | h
      · refine Int.le_trans ?_ b; split <;> omega
      · exact c y h
theorem minL_spec : ∀ (xs : List Int) (m : Int), (minL m xs = m ∨ minL m xs ∈ xs) ∧ minL m xs ≤ m ∧ ∀ y ∈ xs, minL m xs ≤ y
  | [], m => ⟨.inl rfl, Int.le_refl _, fun _ h => nomatch h⟩
  | x :: xs, m => by
    obtain ⟨a, b, c⟩ := minL_spec xs (if x < m then x else m)
    unfold minL
    refine ⟨?_, ?_, fun y h => ?_⟩
    · rcases a with a | a
      · rw [a]; split
        · exact .inr (List.mem_cons_self)
        · exact .inl rfl
      · exact .inr (List.mem_cons_of_mem _ a)
    · refine Int.le_trans b ?_; split <;> omega
    · rcases List.mem_cons.mp h with rfl | h
      · refine Int.le_trans b ?_; split <;> omega
      · exact c y h
def maxOf : List Int → Option Int
  | [] => none
  | x :: xs => some (maxL x xs)
def minOf : List Int → Option Int
  | [] => none
  | x :: xs => some (minL x xs)
theorem maxOf_spec {ns m} (h : maxOf ns = some m) : m ∈ ns ∧ ∀ y ∈ ns, y ≤ m := by
  cases ns with
  | nil => cases h
  | cons x xs =>
    cases h
    obtain ⟨a, b, c⟩ := maxL_spec xs x
    exact ⟨a.elim (fun a => by rw [a]; exact List.mem_cons_self) (List.mem_cons_of_mem _), fun y h => (List.mem_cons.mp h).elim (fun e => e ▸ b) (c y)⟩
theorem minOf_spec {ns m} (h : minOf ns = some m) : m ∈ ns ∧ ∀ y ∈ ns, m ≤ y := by
  cases ns with
  | nil => cases h
  | cons x xs =>
    cases h
    obtain ⟨a, b, c⟩ := minL_spec xs x
    exact ⟨a.elim (fun a => by rw [a]; exact List.mem_cons_self) (List.mem_cons_of_mem _), fun y h => (List.mem_cons.mp h).elim (fun e => e ▸ b) (c y)⟩
def gMax1 (x : OD) : Option OD := ((intsOf x).bind maxOf).map oI
def gMin1 (x : OD) : Option OD := ((intsOf x).bind minOf).map oI
theorem c_max1 {K} : CaS K (rMax K) (c1 gMax1) := CaS.one fun F H v x fx fp d Q rs o e k => by
  unfold gMax1 at e
  cases q : intsOf x with
  | none => rw [q] at e; cases e
  | some ns =>
    rw [q] at e
    cases q2 : maxOf ns with
    | none => rw [show (some ns).bind maxOf = maxOf ns from rfl, q2] at e; cases e
    | some m =>
      rw [show (some ns).bind maxOf = maxOf ns from rfl, q2] at e; cases e
      obtain ⟨a, rfl, h⟩ := intsOf_at rs.sub o q
      obtain ⟨h1, h2⟩ := maxOf_spec q2
      refine ⟨a, ns, rfl, h, List.length_pos_of_mem h1, fun m' a b => ?_⟩
      have e : m' = m := Int.le_antisymm (h2 _ a) (b _ h1)
      rw [e]; exact k0 rs k (.p (.int _))
theorem c_min1 {K} : CaS K (rMin K) (c1 gMin1) := CaS.one fun F H v x fx fp d Q rs o e k => by
  unfold gMin1 at e
  cases q : intsOf x with
  | none => rw [q] at e; cases e
  | some ns =>
    rw [q] at e
    cases q2 : minOf ns with
    | none => rw [show (some ns).bind minOf = minOf ns from rfl, q2] at e; cases e
    | some m =>
      rw [show (some ns).bind minOf = minOf ns from rfl, q2] at e; cases e
      obtain ⟨a, rfl, h⟩ := intsOf_at rs.sub o q
      obtain ⟨h1, h2⟩ := minOf_spec q2
      refine ⟨a, ns, rfl, h, List.length_pos_of_mem h1, fun m' a b => ?_⟩
      have e : m' = m := Int.le_antisymm (b _ h1) (h2 _ a)
      rw [e]; exact k0 rs k (.p (.int _))
theorem CaS.or {r r' : List V → Hp → VK → Prop} {g g' : List OD → Option OD} (h : CaS K r g) (h' : CaS K r' g') : CaS K (fun x H Q => r x H Q ∨ r' x H Q) (fun x => (g x).orElse fun _ => g' x) := by
  intro F H v x fp d Q rs w e k
  dsimp only at e
  cases q : g x with
  | some z => rw [q] at e; cases e; exact .inl (h F H v x fp _ Q rs w q k)
  | none => rw [q] at e; exact .inr (h' F H v x fp _ Q rs w e k)
/-! sorted -/
def ins1 (x : Int) : List Int → List Int
  | [] => [x]
  | y :: ys => if x ≤ y then x :: y :: ys else y :: ins1 x ys
def srt : List Int → List Int
  | [] => []
  | x :: xs => ins1 x (srt xs)
theorem ins1_perm (x : Int) : ∀ l, (ins1 x l).Perm (x :: l)
  | [] => .refl _
  | y :: ys => by
    unfold ins1; split
    · exact .refl _
    · exact ((ins1_perm x ys).cons y).trans (.swap x y ys)
theorem ins1_pw (x : Int) : ∀ l, l.Pairwise (· ≤ ·) → (ins1 x l).Pairwise (· ≤ ·)
  | [], _ => by simp [ins1]
  | y :: ys, h => by
    obtain ⟨h1, h2⟩ := List.pairwise_cons.mp h
    unfold ins1; split
    · rename_i q
      exact List.pairwise_cons.mpr ⟨fun z hz => (List.mem_cons.mp hz).elim (fun e => e ▸ q) fun hz => Int.le_trans q (h1 z hz), h⟩
    · rename_i q
      refine List.pairwise_cons.mpr ⟨fun z hz => ?_, ins1_pw x ys h2⟩
      rcases List.mem_cons.mp ((ins1_perm x ys).mem_iff.mp hz) with rfl | hz
      · omega
      · exact h1 z hz
theorem srt_perm : ∀ l, (srt l).Perm l
  | [] => .refl _
  | x :: xs => (ins1_perm x _).trans ((srt_perm xs).cons x)
theorem srt_pw : ∀ l, (srt l).Pairwise (· ≤ ·)
  | [] => .nil
  | x :: xs => ins1_pw x _ (srt_pw xs)
theorem srt_uniq {l ns : List Int} (p : l.Perm ns) (s : l.Pairwise (· ≤ ·)) : l = srt ns :=
  (p.trans (srt_perm ns).symm).eq_of_pairwise (fun a b _ _ h1 h2 => Int.le_antisymm h1 h2) s (srt_pw ns)
def gSorted (x : OD) : Option OD := (intsOf x).map fun ns => .l ((srt ns).map fun i => .p (.int i))
theorem mapint (ns : List Int) : (ns.map fun i => OD.p (.int i)) = (ns.map PyData.int).map .p := by simp
theorem c_sorted {K} : CaS K (rSortedI K) (c1 gSorted) := CaS.one fun F H v x fx fp d Q rs o e k => by
  unfold gSorted at e
  cases q : intsOf x with
  | none => rw [q] at e; cases e
  | some ns =>
    rw [q] at e; cases e
    obtain ⟨a, rfl, h⟩ := intsOf_at rs.sub o q
    refine ⟨a, ns, rfl, h, fun ns' p h1 h2 h3 => ?_⟩
    rw [srt_uniq h1 h2]
    dsimp only at k
    rw [mapint] at k
    exact newL rs DdL.of_ints k p h3
/-! list(x), tuple(x), int(x), str(n) -/
def itsT : OD → Option (List PyData)
  | .p (.tuple ds) => some ds
  | x => its x
theorem itsT_at {K : PySem.W.Frag} {F H : Hp} {v x fx ds} (s : Inc F H) (o : Ow K F H v x fx) (e : itsT x = some ds) : ∃ a vs, v = .ref a ∧ (SqL K H a vs ∨ SqT K H a vs) ∧ DdL F vs ds := by
  unfold itsT at e
  split at e
  · cases e
    cases o with
    | p h => cases h with | tup a b => exact ⟨_, _, rfl, .inr (SqT.of (s _ _ a)), b⟩
  · obtain ⟨a, vs, h1, h2, h3⟩ := its_at s o e
    exact ⟨a, vs, h1, .inl (SqL.of h2), h3⟩
def gList (x : OD) : Option OD := (itsT x).map fun ds => .l (ds.map .p)
theorem c_list {K} : CaS K (fun xs H Q => ∃ p ys, xs = [.ref p] ∧ (SqL K H p ys ∨ SqT K H p ys) ∧ ∀ l, H l = none → Q (.ref l) (upd H l (.lst ys))) (c1 gList) := CaS.one fun F H v x fx fp d Q rs o e k => by
  unfold gList at e
  cases q : itsT x with
  | none => rw [q] at e; cases e
  | some ds =>
    rw [q] at e; cases e
    obtain ⟨a, vs, rfl, h, w⟩ := itsT_at rs.sub o q
    exact ⟨a, vs, rfl, h, newL rs w k⟩
theorem newT {F H : Hp} {fp : Fp} {vs : List V} {ds : List PyData} {Q : VK} (rs : RS F H fp) (w : DdL F vs ds) (k : ∀ v' F' H' f', Stp F H NoFp F' H' f' → Ow K F' H' v' (.p (.tuple ds)) f' → Q v' H') : ∀ p, H p = none → Q (.ref p) (upd H p (.tup vs)) := fun p hp => by
  have st := Stp.newPure (o := .tup vs) (fp := NoFp) ⟨rs.sub, fun _ z => z.elim⟩ hp
  exact k _ _ _ _ st (.p (.tup upd_same (w.inc st.inc)))
def gTuple : OD → Option OD
  | .p (.tuple ds) => some (.p (.tuple ds))
  | x => (its x).map fun ds => .p (.tuple ds)
theorem c_tuple {K} : CaS K (fun xs H Q => ∃ p ys, xs = [.ref p] ∧ ((SqL K H p ys ∧ ∀ l, H l = none → Q (.ref l) (upd H l (.tup ys))) ∨ (SqT K H p ys ∧ Q (.ref p) H))) (c1 gTuple) := CaS.one fun F H v x fx fp d Q rs o e k => by
  unfold gTuple at e
  split at e
  · cases e
    cases o with
    | p h => cases h with | tup a b => exact ⟨_, _, rfl, .inr ⟨SqT.of (rs.sub _ _ a), k0 rs k (.p (.tup a b))⟩⟩
  · cases q : its x with
    | none => rw [q] at e; cases e
    | some ds =>
      rw [q] at e; cases e
      obtain ⟨a, vs, rfl, h, w⟩ := its_at rs.sub o q
      exact ⟨a, vs, rfl, .inl ⟨SqL.of h, newT rs w k⟩⟩
def gInt : OD → Option OD
  | .p (.int i) => some (oI i)
  | .p (.bool b) => some (oI (if b then 1 else 0))
  | _ => none
theorem c_int : CaS K (fun xs H Q => (∃ i, xs = [.int i] ∧ Q (.int i) H) ∨ ∃ k, xs = [.bl k] ∧ Q (.int (if k then 1 else 0)) H) (c1 gInt) := CaS.one fun F H v x fx fp d Q rs o e k => by
  unfold gInt at e
  split at e
  · cases e; cases Ow.int o; exact .inl ⟨_, rfl, k0 rs k (.p (.int _))⟩
  · cases e; cases Ow.bl o; exact .inr ⟨_, rfl, k0 rs k (.p (.int _))⟩
  · cases e
def gStr : OD → Option OD
  | .p (.int i) => if i.natAbs < 2 ^ 1900 then some (oS (toString i)) else none
  | _ => none
theorem c_str : CaS K (fun xs H Q => ∃ i, xs = [.int i] ∧ i.natAbs.log2 < 1920 ∧ Q (.str (toString i)) H) (c1 gStr) := CaS.one fun F H v x fx fp d Q rs o e k => by
  unfold gStr at e
  split at e
  · split at e
    · rename_i q
      cases e; cases Ow.int o
      exact ⟨_, rfl, Nat.lt_trans (log2_lt' q (by decide)) (by decide), k0 rs k (.p (.str _))⟩
    · cases e
  · cases e
/-! isinstance of built-in classes -/
def kind : OD → Option String
  | .p .none => some "NoneType"
  | .p (.bool _) => some "bool"
  | .p (.int _) => some "int"
  | .p (.str _) => some "str"
  | .p (.list _) => some "list"
  | .p (.tuple _) => some "tuple"
  | .l _ => some "list"
  | .t _ => some "tuple"
  | _ => none
theorem kind_at {K : PySem.W.Frag} {F H : Hp} {v x fx n} (s : Inc F H) (o : Ow K F H v x fx) (e : kind x = some n) : TyX K H v (.type n) := by
  cases o with
  | h => cases e
  | p h =>
    cases h with
    | non => cases e; exact .base .non
    | bl b => cases e; exact .base (.bl b)
    | int b => cases e; exact .base (.int b)
    | str b => cases e; exact .base (.str b)
    | lst a b => cases e; exact .base (.lst (s _ _ a))
    | tup a b => cases e; exact .base (.tup (s _ _ a))
  | l a b c d => cases e; exact .base (.lst b)
  | t a b => cases e; exact .base (.tup (s _ _ a))
  | sc a => cases e
  | er => cases e
  | ob => cases e
def gIsi (T : String) (x : OD) : Option OD := (kind x).bind fun n => (kitB n T).map oB
/-- isinstance(x, T): the class is told beside -/
theorem isi_core {K : PySem.W.Frag} {T : String} {F H : Hp} {v x fx d} {fp : Fp} {Q : VK} (rs : RS F H fp) (o : Ow K F H v x fx) (e : gIsi T x = some d) (k : ∀ v' F' H' f', Stp F H NoFp F' H' f' → Ow K F' H' v' d f' → Q v' H') : rIsi K [v, .ty T] H Q := by
  unfold gIsi at e
  cases q : kind x with
  | none => rw [q] at e; cases e
  | some n =>
    rw [q] at e
    cases q2 : kitB n T with
    | none => rw [show (some n).bind (fun n => (kitB n T).map oB) = (kitB n T).map oB from rfl, q2] at e; cases e
    | some b =>
      rw [show (some n).bind (fun n => (kitB n T).map oB) = (kitB n T).map oB from rfl, q2] at e; cases e
      exact ⟨v, .ty T, _, _, b, rfl, .ty T, kind_at rs.sub o q, kit_ty q2, k0 rs k (.p (.bl _))⟩
def eIsi (T : String) (f : Env' → R Opd) : Env' → R OD := fun env => (f env).bind fun a e => ap1 (gIsi T) a e
theorem de_isi {X : Cx} {W : WX} {T : String} {a : Expr} {f : Env' → R Opd} {x : Str} {p p2 pos : Pos} (hv2 : bootBuiltins x = some (.type T)) (hg2 : Gl X x) (hm2 : X.mg x = none) (hg : Gl X "isinstance") (hm : X.mg "isinstance" = none) (ha : DV X W a f)
    (hn : x ≠ "__name__" := by decide) (hd : (x == ("__debug__" : Str)) = false := by decide)
    (he : starEach [a, .Name x p2] X.env = (false, eval a X.env) :: starEach [.Name x p2] X.env := by rfl) (he2 : starEach [.Name x p2] X.env = (false, eval (.Name x p2) X.env) :: starEach [] X.env := by rfl) (hpl : (backTo pos (starEach [.Name x p2] X.env)).any (·.1) = false := by rfl) :
    DE X W (.Call (.Name "isinstance" p) [a, .Name x p2] [] pos) (eIsi T f) := by
  refine pe_weak (pe_callB call_isi hg hm (by decide +kernel) (pa_cons ha (pa_cons (pe_bltn (v := .ty T) hg2 hm2 hv2 rfl hn hd) pa_nil he2) he) (by decide) (by decide) he hpl) fun σ H Q ⟨F, env, fp, rs, o, h⟩ => ?_
  refine seqV (Stp.rfl' rs) (fun _ q => q) o (fun h => h) PoE.ex_ h fun a e1 v F1 H1 fv f1 s1 dj1 w1 o1 h1 => ?_
  unfold ap1 at h1
  cases ea : a.at e1 with
  | none => rw [ea] at h1; exact h1.elim
  | some x =>
    rw [ea] at h1
    dsimp only at h1
    cases eg : gIsi T x with
    | none => rw [eg] at h1; exact h1.elim
    | some d =>
      rw [eg] at h1
      obtain ⟨fx, ox, lx⟩ := w1.look o1 ea
      exact isi_core s1.rs ox eg (h1.fin s1 (fun _ q => .inr q) o1)
/-! all of truth values -/
def toBls : List PyData → Option (List Bool)
  | [] => some []
  | .bool i :: ds => (toBls ds).map (i :: ·)
  | _ => none
theorem toBls_eq : ∀ {ds ns}, toBls ds = some ns → ds = ns.map .bool
  | [], ns, h => by cases h; rfl
  | .bool i :: ds, ns, h => by
    unfold toBls at h
    cases q : toBls ds with
    | none => rw [q] at h; cases h
    | some es => rw [q] at h; cases h; rw [toBls_eq q]; rfl
  | .none :: _, _, h => nomatch h
  | .int _ :: _, _, h => nomatch h
  | .str _ :: _, _, h => nomatch h
  | .list _ :: _, _, h => nomatch h
  | .tuple _ :: _, _, h => nomatch h
  | .dict _ :: _, _, h => nomatch h
@[simp] theorem toBls_map (ns : List Bool) : toBls (ns.map .bool) = some ns := by
  induction ns with
  | nil => rfl
  | cons n ns ih => simp [toBls, ih]
def gAll (x : OD) : Option OD := ((its x).bind toBls).map fun bs => oB (bs.all id)
theorem c_all {K} : CaS K (rAll K) (c1 gAll) := CaS.one fun F H v x fx fp d Q rs o e k => by
  unfold gAll at e
  cases q : its x with
  | none => rw [q] at e; cases e
  | some ds =>
    rw [q, show (some ds).bind toBls = toBls ds from rfl] at e
    cases q2 : toBls ds with
    | none => rw [q2] at e; cases e
    | some bs =>
      rw [q2] at e; cases e
      obtain ⟨a, vs, rfl, h, w⟩ := its_at rs.sub o q
      have := toBls_eq q2
      subst this
      rw [w.bls] at h
      exact ⟨a, bs, rfl, SqL.of h, k0 rs k (.p (.bl _))⟩
end DL

namespace DL
variable {K : PySem.W.Frag}
open PySem L2
/-- how a statement ends -/
inductive Out where
  | st
  | nx (env : Env')
  | rt (d : OD) (env : Env')
  | ex (C : Str) (f : Option (Str × PyData)) (env : Env')
section
variable (K : PySem.W.Frag) (mg : Mg) (W : WX) (B : List Nat) (F H : Hp) (fp : Fp) (σ : L2.St)
abbrev Bk (σ' : L2.St) : Prop := σ'.length = σ.length ∧ ∀ i ∈ B, σ'[i]? = σ[i]?
def PoS (D : Ends) : Out → Prop
  | .st => False
  | .nx env' => ∀ σ' F' H' fp', Stp F H fp F' H' fp' → Ows K F' H' σ' env' fp' → Bk B σ σ' → D.nx σ' H'
  | .rt d env' => ∀ v σ' F' H' fv fp', Stp F H fp F' H' (Un2 fv fp') → Dj fv fp' → Ow K F' H' v d fv → Ows K F' H' σ' env' fp' → Bk B σ σ' → D.rt v H'
  | .ex C f env' => ∀ σ' F' H' fp', Stp F H fp F' H' fp' → Ows K F' H' σ' env' fp' → Bk B σ σ' → ExK mg W C f F' H' σ'
end
def dTS (K : PySem.W.Frag) (mg : Mg) (W : WX) (B : List Nat) (f : Env' → Out) : TS := fun D σ H => ∃ F env fp, RS F H fp ∧ Ows K F H σ env fp ∧ PoS K mg W B F H fp σ D (f env)
abbrev DS (X : Cx) (W : WX) (B : List Nat) (s : Stmt) (f : Env' → Out) : Prop := PS X s (dTS X.K X.mg W B f)
abbrev DSs (X : Cx) (W : WX) (B : List Nat) (s : List Stmt) (f : Env' → Out) : Prop := PSs X s (dTS X.K X.mg W B f)
def R.out {α : Type} (r : R α) (k : α → Env' → Out) : Out := match r with
  | .st => .st
  | .ok a e => k a e
  | .ex C f e => .ex C f e
@[simp] theorem R.out_ok {α : Type} (a : α) (e : Env') (k : α → Env' → Out) : (R.ok a e).out k = k a e := rfl
@[simp] theorem R.out_st {α : Type} (k : α → Env' → Out) : (R.st : R α).out k = .st := rfl
@[simp] theorem R.out_ex {α : Type} (C f) (e : Env') (k : α → Env' → Out) : (R.ex C f e : R α).out k = .ex C f e := rfl
def Out.seq (o : Out) (g : Env' → Out) : Out := match o with
  | .nx e => g e
  | o => o
@[simp] theorem Out.seq_nx (e) (g : Env' → Out) : (Out.nx e).seq g = g e := rfl
@[simp] theorem Out.seq_rt (d e) (g : Env' → Out) : (Out.rt d e).seq g = .rt d e := rfl
@[simp] theorem Out.seq_st (g : Env' → Out) : Out.st.seq g = .st := rfl
@[simp] theorem Out.seq_ex (C f e) (g : Env' → Out) : (Out.ex C f e).seq g = .ex C f e := rfl
section
variable {mg : Mg} {W : WX} {B : List Nat} {F H F1 H1 : Hp} {fp f1 fq : Fp} {σ σ1 : L2.St} {env env1 : Env'} {D : Ends}
theorem Bk.tr {σ2 : L2.St} (a : Bk B σ σ1) (b : Bk B σ1 σ2) : Bk B σ σ2 := ⟨b.1.trans a.1, fun i h => (b.2 i h).trans (a.2 i h)⟩
theorem Bk.id' : Bk B σ σ := ⟨rfl, fun _ _ => rfl⟩
theorem Bk.set {i : Nat} {x} (h : i ∉ B) : Bk B σ (σ.set i x) := ⟨List.length_set, fun j hj => List.getElem?_set_ne (fun e => h (by rw [e]; exact hj))⟩
theorem PoS.step {o : Out} (s : Stp F H fp F1 H1 fq) (l : ∀ a, f1 a → fq a) (b : Bk B σ σ1) (h : PoS K mg W B F H fp σ D o) : PoS K mg W B F1 H1 f1 σ1 D o := by
  cases o with
  | st => exact h
  | nx e => exact fun σ' F' H' fp' t o b' => h σ' F' H' fp' (s.tr (t.from l)) o (b.tr b')
  | rt d e => exact fun v σ' F' H' fv fp' t dj w o b' => h v σ' F' H' fv fp' (s.tr (t.from l)) dj w o (b.tr b')
  | ex C f e => exact fun σ' F' H' fp' t o b' => h σ' F' H' fp' (s.tr (t.from l)) o (b.tr b')
theorem PoS.ex_ (C f e) (h : PoS K mg W B F H fp σ D (.ex C f e)) : PoX K mg W F H fp σ C f e := fun F' H' fp' s o => h σ F' H' fp' s o Bk.id'
/-- an expression's evaluation ahead of a statement's end -/
theorem outE {f : Env' → R OD} {k : OD → Env' → Out} {Q1 : VK} (r : RS F H fp) (o : Ows K F H σ env fp) (h : PoS K mg W B F H fp σ D ((f env).out k))
    (c : ∀ d e' v F' H' fv fp', Stp F H fp F' H' (Un2 fv fp') → Dj fv fp' → Ow K F' H' v d fv → Ows K F' H' σ e' fp' → PoS K mg W B F H fp σ D (k d e') → Q1 v H') : dTE K mg W f σ H Q1 := by
  refine ⟨F, env, fp, r, o, ?_⟩
  cases e : f env with
  | st => rw [e] at h; exact h.elim
  | ok d e' => rw [e] at h; exact fun v F' H' fv fp' t dj w o' => c d e' v F' H' fv fp' t dj w o' h
  | ex C x e' => rw [e] at h; exact h.ex_
theorem outT {f : Env' → R Bool} {k : Bool → Env' → Out} {Q1 : Bool → Hp → Prop} (r : RS F H fp) (o : Ows K F H σ env fp) (h : PoS K mg W B F H fp σ D ((f env).out k))
    (c : ∀ d e' F' H' fp', Stp F H fp F' H' fp' → Ows K F' H' σ e' fp' → PoS K mg W B F H fp σ D (k d e') → Q1 d H') : dTT K mg W f σ H Q1 := by
  refine ⟨F, env, fp, r, o, ?_⟩
  cases e : f env with
  | st => rw [e] at h; exact h.elim
  | ok d e' => rw [e] at h; exact fun F' H' fp' t o' => c d e' F' H' fp' t o' h
  | ex C x e' => rw [e] at h; exact h.ex_
theorem outA {f : Env' → R (List OD)} {k : List OD → Env' → Out} {Q1 : List V → Hp → Prop} (r : RS F H fp) (o : Ows K F H σ env fp) (h : PoS K mg W B F H fp σ D ((f env).out k))
    (c : ∀ d e' v F' H' fv fp', Stp F H fp F' H' (Un2 fv fp') → Dj fv fp' → Ows K F' H' (v.map some) d fv → Ows K F' H' σ e' fp' → PoS K mg W B F H fp σ D (k d e') → Q1 v H') : dTA K mg W f σ H Q1 := by
  refine ⟨F, env, fp, r, o, ?_⟩
  cases e : f env with
  | st => rw [e] at h; exact h.elim
  | ok d e' => rw [e] at h; exact fun v F' H' fv fp' t dj w o' => c d e' v F' H' fv fp' t dj w o' h
  | ex C x e' => rw [e] at h; exact h.ex_
end
/-- a block's first part and what follows -/
theorem PoS.split {mg : Mg} {W : WX} {B : List Nat} {F H : Hp} {fp : Fp} {σ : L2.St} {D D' : Ends} {o : Out} {g : Env' → Out} (h : PoS K mg W B F H fp σ D (o.seq g)) (hr : D'.rt = D.rt) (hn : ∀ σ' H', dTS K mg W B g D σ' H' → D'.nx σ' H') : PoS K mg W B F H fp σ D' o := by
  cases o with
  | st => exact h
  | nx e => exact fun σ' F' H' fp' s o' b => hn _ _ ⟨F', e, fp', s.rs, o', h.step s (fun _ z => z) b⟩
  | rt d e => intro v σ' F' H' fv fp' s dj w o b; rw [hr]; exact h v σ' F' H' fv fp' s dj w o b
  | ex C f e => exact h
section
variable {X : Cx} {W : WX} {B : List Nat} {pos : Pos}
/-! ### blocks -/
def sNil : Env' → Out := fun env => .nx env
def sSeq (f g : Env' → Out) : Env' → Out := fun env => (f env).seq g
theorem dss_nil : DSs X W B [] sNil := pss_weak pss_nil fun D σ H ⟨F, env, fp, r, o, h⟩ => h σ F H fp (Stp.rfl' r) o Bk.id'
theorem dss_one {s : Stmt} {f} (h : DS X W B s f) : DSs X W B [s] f := pss_one h
theorem dss_cons {s : Stmt} {ss : List Stmt} {f g} (h1 : DS X W B s f) (h2 : DSs X W B ss g) : DSs X W B (s :: ss) (sSeq f g) := pss_weak (pss_cons h1 h2) fun D σ H ⟨F, env, fp, r, o, h⟩ =>
  ⟨F, env, fp, r, o, h.split rfl fun _ _ z => z⟩
/-! ### small statements -/
def sSet (i : Nat) (f : Env' → R OD) : Env' → Out := fun env => (f env).out fun d e => .nx (e.set i d)
theorem set_core {mg : Mg} {i : Nat} {f : Env' → R OD} {D : Ends} {σ : L2.St} {H : Hp} (hB : i ∉ B) : dTS K mg W B (sSet i f) D σ H → tAsg (dTE K mg W f) (gName i) D σ H := fun ⟨F, env, fp, r, o, h⟩ =>
  outE r o h fun d e' v F' H' fv fp' s dj w o' h => h (σ.set i (some v)) F' H' (Un2 fv fp') s (Ows.store w i o' dj) (Bk.set hB)
theorem ds_set (i : Nat) {x : Str} {e : Expr} {f} {pos' : Pos} (hN : X.N.Nodup) (he : DE X W e f) (hB : i ∉ B := by decide) (hi : X.N[i]? = some x := by rfl) (hx : Loc X.env.scope x := by first | exact Or.inl rfl | exact Or.inr rfl)
    (hs : swapsWith e (some (.Name x pos')) pos.line X.env = pure false := by rfl) (hf : X.fn x = true ∨ X.env.scope.names.lookup x = some .local := by first | exact .inl rfl | exact .inr rfl) :
    DS X W B (.Assign [.Name x pos'] e pos) (sSet i f) := ps_weak (ps_set hN hi hx he hs hf) fun _ _ _ => set_core hB
def sRet (f : Env' → R OD) : Env' → Out := fun env => (f env).out fun d e => .rt d e
theorem ds_ret {e : Expr} {f} (he : DE X W e f) : DS X W B (.Return (some e) pos) (sRet f) := ps_weak (ps_ret he) fun D σ H ⟨F, env, fp, r, o, h⟩ =>
  outE r o h fun d e' v F' H' fv fp' s dj w o' h => h v σ F' H' fv fp' s dj w o' Bk.id'
def sExp (f : Env' → R OD) : Env' → Out := fun env => (f env).out fun _ e => .nx e
theorem ds_exp {e : Expr} {f} (he : DE X W e f) (hs : swapsWith e none pos.line X.env = pure false := by rfl) : DS X W B (.Expr e pos) (sExp f) := ps_weak (ps_expr he hs) fun D σ H ⟨F, env, fp, r, o, h⟩ =>
  outE r o h fun d e' v F' H' fv fp' s dj w o' h => h σ F' H' fp' (s.less fun _ => .inr) o' Bk.id'
def sIf (t : Env' → R Bool) (f g : Env' → Out) : Env' → Out := fun env => (t env).out fun b e => if b then f e else g e
theorem ds_if {c : Expr} {a b : List Stmt} {t f g} (hc : DT X W c t) (ha : DSs X W B a f) (hb : DSs X W B b g) : DS X W B (.If c a b pos) (sIf t f g) := ps_weak (ps_if hc ha hb) fun D σ H ⟨F, env, fp, r, o, h⟩ =>
  outT r o h fun d e' F' H' fp' s o' h => by
    cases d with
    | true => rw [if_pos rfl]; exact ⟨F', e', fp', s.rs, o', h.step s (fun _ z => z) Bk.id'⟩
    | false => rw [if_neg Bool.false_ne_true]; exact ⟨F', e', fp', s.rs, o', h.step s (fun _ z => z) Bk.id'⟩
def sPass : Env' → Out := fun env => .nx env
theorem ds_pass : DS X W B (.Pass pos) sPass := ps_weak ps_pass fun D σ H ⟨F, env, fp, r, o, h⟩ => h σ F H fp (Stp.rfl' r) o Bk.id'
/-- code that the proof never comes to -/
def sNever : Env' → Out := fun _ => .st
theorem ds_never {s : Stmt} : DS X W B s sNever := ps_weak ps_never fun D σ H ⟨F, env, fp, r, o, h⟩ => h
/-- names forgotten behind a statement -/
def clr : List Nat → Env' → Env'
  | [], e => e
  | j :: js, e => clr js (e.set j .h)
theorem Ows.clr {F H : Hp} {fp : Fp} : ∀ {js : List Nat} {us xs}, Ows K F H us xs fp → Ows K F H us (clr js xs) fp
  | [], _, _, o => o
  | j :: js, _, _, o => Ows.clr (js := js) (o.drop1 j)
def sFgt (js : List Nat) (f : Env' → Out) : Env' → Out := fun env => match f env with
  | .nx e => .nx (clr js e)
  | o => o
theorem fgt_core {mg : Mg} {js : List Nat} {f : Env' → Out} {D : Ends} {σ : L2.St} {H : Hp} : dTS K mg W B (sFgt js f) D σ H → dTS K mg W B f D σ H := fun ⟨F, env, fp, r, o, h⟩ => by
  refine ⟨F, env, fp, r, o, ?_⟩
  unfold sFgt at h
  cases q : f env with
  | st => rw [q] at h; exact h
  | nx e => rw [q] at h; exact fun σ' F' H' fp' s o' b => h σ' F' H' fp' s o'.clr b
  | rt d e => rw [q] at h; exact h
  | ex C f e => rw [q] at h; exact h
theorem ds_fgt (js : List Nat) {s : Stmt} {f} (h : DS X W B s f) : DS X W B s (sFgt js f) := ps_weak h fun _ _ _ => fgt_core
theorem dss_fgt (js : List Nat) {s : List Stmt} {f} (h : DSs X W B s f) : DSs X W B s (sFgt js f) := pss_weak h fun _ _ _ => fgt_core
/-! ### while -/
def whGo (t : Env' → R Bool) (f : Env' → Out) : Nat → Env' → Out
  | 0, _ => .st
  | n + 1, env => (t env).out fun b e => if b then (f e).seq (whGo t f n) else .nx e
def sWhile (fu : Env' → Nat) (t : Env' → R Bool) (f : Env' → Out) : Env' → Out := fun env => whGo t f (fu env) env
theorem while_core {mg : Mg} {fu} {t} {f} {D : Ends} {σ : L2.St} {H : Hp} : dTS K mg W B (sWhile fu t f) D σ H → tWhile (dTT K mg W t) (dTS K mg W B f) D σ H := fun ⟨F, env, fp, r, o, h⟩ => by
  refine ⟨fun m => dTS K mg W B (whGo t f m) D, ⟨fu env, F, env, fp, r, o, h⟩, fun m σ1 H1 ⟨F1, e1, f1, r1, o1, h1⟩ => ?_⟩
  cases m with
  | zero => exact h1.elim
  | succ m =>
    unfold whGo at h1
    refine outT r1 o1 h1 fun d e' F' H' fp' s o' h => ?_
    have h := h.step s (fun _ z => z) (Bk.id' (B := B))
    cases d with
    | false => rw [if_neg Bool.false_ne_true]; rw [if_neg Bool.false_ne_true] at h; exact h σ1 F' H' fp' (Stp.rfl' s.rs) o' Bk.id'
    | true =>
      rw [if_pos rfl]; rw [if_pos rfl] at h
      exact ⟨dTS K mg W B (whGo t f m) D, fun σ2 H2 h2 => ⟨m, Nat.lt_succ_self _, h2⟩, F', e', fp', s.rs, o', h.split rfl fun _ _ z => z⟩
theorem ds_while (fu : Env' → Nat) {c : Expr} {body : List Stmt} {t f} (hp : PassesOwn (model X.prog X.w) X.A X.env X.xe) (hc : DT X W c t) (hb : DSs X W B body f) : DS X W B (.While c body [] pos) (sWhile fu t f) :=
  ps_weak (ps_while hp hc hb) fun _ _ _ => while_core
/-! ### targets -/
abbrev Tg := OD → Env' → Option Env'
def dTG (K : PySem.W.Frag) (B : List Nat) (g : Tg) : TG := fun v σ H Q => ∃ F env fv fp d env', RS F H (Un2 fv fp) ∧ Dj fv fp ∧ Ow K F H v d fv ∧ Ows K F H σ env fp ∧ g d env = some env' ∧
  ∀ σ' fp', (∀ a, fp' a → Un2 fv fp a) → Ows K F H σ' env' fp' → Bk B σ σ' → Q σ' H
abbrev DG (X : Cx) (B : List Nat) (e : Expr) (g : Tg) : Prop := PG X e (dTG X.K B g)
theorem pg_weak {X : Cx} {e : Expr} {t u : TG} (h : PG X e t) (w : ∀ v σ H Q, u v σ H Q → t v σ H Q) : PG X e u := ⟨fun pins s σ H v u Q I r q => h.run pins s σ H v u Q I r (w v σ H Q q)⟩
theorem pgs_weak {X : Cx} {e : List Expr} {t u : TGs} (h : PGs X e t) (w : ∀ v σ H Q, u v σ H Q → t v σ H Q) : PGs X e u := ⟨fun pins s σ H v u Q I r q => h.run pins s σ H v u Q I r (w v σ H Q q)⟩
theorem PG.or {X : Cx} {e : Expr} {t u : TG} (h : PG X e t) (h' : PG X e u) : PG X e (fun v σ H Q => t v σ H Q ∨ u v σ H Q) := ⟨fun pins s σ H v u Q I r q =>
  q.elim (h.run pins s σ H v u Q I r) (h'.run pins s σ H v u Q I r)⟩
def gNm (i : Nat) : Tg := fun d e => some (e.set i d)
theorem dg_name (i : Nat) {x : Str} (hN : X.N.Nodup) (hB : i ∉ B := by decide) (hi : X.N[i]? = some x := by rfl) (hx : Loc X.env.scope x := by first | exact Or.inl rfl | exact Or.inr rfl)
    (hf : X.fn x = true ∨ X.env.scope.names.lookup x = some .local := by first | exact .inl rfl | exact .inr rfl) : DG X B (.Name x pos) (gNm i) :=
  pg_weak (pg_name hN hi hx hf) fun v σ H Q ⟨F, env, fv, fp, d, env', rs, dj, w, o, e, k⟩ => by
    cases e; exact k _ (Un2 fv fp) (fun _ z => z) (Ows.store w i o dj) (Bk.set hB)
abbrev Tgs := List OD → Env' → Option Env'
def dTGs (K : PySem.W.Frag) (B : List Nat) (g : Tgs) : TGs := fun vs σ H Q => ∃ F env fv fp ds env', RS F H (Un2 fv fp) ∧ Dj fv fp ∧ Ows K F H (vs.map some) ds fv ∧ Ows K F H σ env fp ∧ g ds env = some env' ∧
  ∀ σ' fp', (∀ a, fp' a → Un2 fv fp a) → Ows K F H σ' env' fp' → Bk B σ σ' → Q σ' H
abbrev DGs (X : Cx) (B : List Nat) (e : List Expr) (g : Tgs) : Prop := PGs X e (dTGs X.K B g)
def gsNil : Tgs := fun ds e => match ds with
  | [] => some e
  | _ => none
def gsCons (g : Tg) (gs : Tgs) : Tgs := fun ds e => match ds with
  | d :: ds => (g d e).bind (gs ds)
  | _ => none
theorem dgs_nil : DGs X B [] gsNil := pgs_weak pgs_nil fun vs σ H Q ⟨F, env, fv, fp, d, env', rs, dj, w, o, e, k⟩ => by
  cases d with
  | nil =>
    cases e
    have hl := ows_len w
    exact ⟨List.eq_nil_of_length_eq_zero hl, k σ fp (fun _ => .inr) o Bk.id'⟩
  | cons => cases e
theorem dgs_cons {e : Expr} {es : List Expr} {g gs} (h1 : DG X B e g) (h2 : DGs X B es gs) (hs : (assignEach (e :: es) X.env).map (·.2) = assign e X.env :: (assignEach es X.env).map (·.2) := by rfl) : DGs X B (e :: es) (gsCons g gs) :=
  pgs_weak (pgs_cons h1 h2 hs) fun vs σ H Q ⟨F, env, fv, fp, ds, env', rs, dj, w, o, e, k⟩ => by
    cases ds with
    | nil => cases e
    | cons d ds =>
      cases q : g d env with
      | none => rw [gsCons, q] at e; cases e
      | some e1 =>
        rw [gsCons, q] at e
        have e : gs ds e1 = some env' := e
        cases vs with
        | nil => cases w
        | cons v vs =>
          refine ⟨v, vs, rfl, ?_⟩
          have go : ∀ {f1 f2 : Fp}, Ow X.K F H v d f1 → Ows X.K F H (vs.map some) ds f2 → (∀ a, f1 a → fv a) → (∀ a, f2 a → fv a) → Dj f1 f2 → dTG X.K B g v σ H fun σ' H' => dTGs X.K B gs vs σ' H' Q := fun {f1 f2} w1 w2 l1 l2 d12 => by
            refine ⟨F, env, f1, fp, d, e1, ⟨rs.sub, fun a z => rs.own a (z.imp_left (l1 a))⟩, fun a z => dj a (l1 a z), w1, o, q, fun σ' fp' l o' b => ?_⟩
            refine ⟨F, e1, f2, fp', ds, env', ⟨rs.sub, fun a z => rs.own a (z.elim (fun z => .inl (l2 a z)) fun z => (l a z).imp_left (l1 a))⟩, fun a z z2 => (l a z2).elim (fun z2 => d12 a z2 z) (dj a (l2 a z)), w2, o', e, fun σ2 f3 l3 o3 b3 => ?_⟩
            exact k σ2 f3 (fun a z => (l3 a z).elim (fun z => .inl (l2 a z)) fun z => (l a z).imp_left (l1 a)) o3 (b.tr b3)
          cases w with
          | hole w => exact go (f1 := NoFp) .h w (fun _ z => z.elim) (fun _ z => z) dj0
          | cons a b c d' e' => exact go a b c d' e'
def prts : OD → Option (List OD)
  | .p (.tuple ds) => some (ds.map .p)
  | .p (.list ds) => some (ds.map .p)
  | .t xs => some xs
  | .l xs => some xs
  | _ => none
def gTp (n : Nat) (gs : Tgs) : Tg := fun d e => match prts d with
  | some ds => if ds.length = n then gs ds e else none
  | none => none
theorem dg_tup {es : List Expr} {k : Nat} {gs} (n : Nat) (hc : X.calm = true) (h : DGs X B es gs) (hn : (assignEach es X.env).length = n := by rfl) (hst : (assignEach es X.env).findIdx? (·.1) = none := by rfl) : DG X B (.Tuple es k pos) (gTp n gs) :=
  pg_weak (PG.or (pg_tup hc h hn hst) (pg_lst hc h hn hst)) fun v σ H Q ⟨F, env, fv, fp, d, env', rs, dj, w, o, e, k⟩ => by
    unfold gTp at e
    cases q : prts d with
    | none => rw [q] at e; cases e
    | some ds =>
      rw [q] at e
      dsimp only at e
      split at e
      · rename_i hl
        have go : ∀ {vs : List V}, Ows X.K F H (vs.map some) ds fv → vs.length = n ∧ dTGs X.K B gs vs σ H Q := fun {vs} w => ⟨(ows_len w).trans hl, F, env, fv, fp, ds, env', rs, dj, w, o, e, k⟩
        cases w with
        | h => cases q
        | sc => cases q
        | er => cases q
        | ob => cases q
        | p w =>
          cases w with
          | lst a b => cases q; obtain ⟨g1, g2⟩ := go (Ows.of_pure b); exact .inr ⟨_, _, rfl, SqL.of (rs.sub _ _ a), g1, g2⟩
          | tup a b => cases q; obtain ⟨g1, g2⟩ := go (Ows.of_pure b); exact .inl ⟨_, _, rfl, SqT.of (rs.sub _ _ a), g1, g2⟩
          | _ => cases q
        | l a b c d => cases q; obtain ⟨g1, g2⟩ := go (c.weak fun b z => (d b z).1); exact .inr ⟨_, _, rfl, SqL.of b, g1, g2⟩
        | t a b => cases q; obtain ⟨g1, g2⟩ := go b; exact .inl ⟨_, _, rfl, SqT.of (rs.sub _ _ a), g1, g2⟩
      · cases e
def sAsg (g : Tg) (f : Env' → R OD) : Env' → Out := fun env => (f env).out fun d e => match g d e with
  | some e' => .nx e'
  | none => .st
theorem ds_asg {tg e : Expr} {f g} (he : DE X W e f) (hg : DG X B tg g) (hs : swapsWithSole [tg] e pos.line X.env = pure false := by rfl) (hw : swappedStores [tg] e X.env = pure none := by rfl)
    (h1 : (assignEach [tg] X.env).map (·.2) = [assign tg X.env] := by rfl) : DS X W B (.Assign [tg] e pos) (sAsg g f) := ps_weak (ps_asg he hg hs hw h1) fun D σ H ⟨F, env, fp, r, o, h⟩ =>
  outE r o h fun d e' v F' H' fv fp' s dj w o' h => by
    cases q : g d e' with
    | none => rw [q] at h; exact h.elim
    | some e2 =>
      rw [q] at h
      exact ⟨F', e', fv, fp', d, e2, s.rs, dj, w, o', q, fun σ' f2 l o2 b => h σ' F' H' f2 (s.less l) o2 b⟩
/-- a, b = x, y -/
def sPar (i j : Nat) (f : Env' → R (List OD)) : Env' → Out := fun env => (f env).out fun ds e => match ds with
  | [x, y] => .nx ((e.set i x).set j y)
  | _ => .st
theorem ds_par (i j : Nat) {x y : Str} {a b : Expr} {f} {px py pt : Pos} {kt k2 pt2} (hc : X.calm = true) (hN : X.N.Nodup) (ha : DA X W [a, b] f) (hBi : i ∉ B := by decide) (hBj : j ∉ B := by decide) (hi : X.N[i]? = some x := by rfl) (hj : X.N[j]? = some y := by rfl) (hij : i ≠ j := by decide)
    (hx : X.env.scope.names.lookup x = some .local := by rfl) (hy : X.env.scope.names.lookup y = some .local := by rfl)
    (hw : swappedStores [.Tuple [.Name x px, .Name y py] kt pt] (.Tuple [a, b] k2 pt2) X.env = pure (some [x, y]) := by rfl)
    (hs : swapsWithSole [.Tuple [.Name x px, .Name y py] kt pt] (.Tuple [a, b] k2 pt2) pos.line X.env = pure false := by rfl) :
    DS X W B (.Assign [.Tuple [.Name x px, .Name y py] kt pt] (.Tuple [a, b] k2 pt2) pos) (sPar i j f) := ps_weak (ps_par hc hN hi hj hij hx hy ha hw hs) fun D σ H ⟨F, env, fp, r, o, h⟩ =>
  outA r o h fun ds e' vs F' H' fv fp' s dj w o' h => by
    cases ds with
    | nil => exact h.elim
    | cons d1 ds =>
      cases ds with
      | nil => exact h.elim
      | cons d2 ds =>
        cases ds with
        | cons => exact h.elim
        | nil =>
          have hl := ows_len w
          match vs, hl, w with
          | [v1, v2], _, w =>
            refine ⟨v1, v2, rfl, ?_⟩
            have two : ∃ f1 f2 : Fp, Ow X.K F' H' v1 d1 f1 ∧ Ow X.K F' H' v2 d2 f2 ∧ (∀ a, f1 a → fv a) ∧ (∀ a, f2 a → fv a) ∧ Dj f1 f2 := by
              have one : ∀ {g : Fp}, Ows X.K F' H' [some v2] [d2] g → ∃ f2, Ow X.K F' H' v2 d2 f2 ∧ ∀ a, f2 a → g a := fun w => by
                cases w with
                | hole => exact ⟨NoFp, .h, fun _ z => z.elim⟩
                | cons a b c d e => exact ⟨_, a, c⟩
              cases w with
              | hole w => obtain ⟨f2, a, b⟩ := one w; exact ⟨NoFp, f2, .h, a, fun _ z => z.elim, b, dj0⟩
              | cons a b c d e => obtain ⟨f2, p, q⟩ := one b; exact ⟨_, f2, a, p, c, fun z y => d z (q z y), fun z y y2 => e z y (q z y2)⟩
            obtain ⟨f1, f2, w1, w2, l1, l2, d12⟩ := two
            have o1 := Ows.store w1 i o' (fun a z => dj a (l1 a z))
            have o2 := Ows.store w2 j o1 (fun a z z2 => z2.elim (fun z2 => d12 a z2 z) (dj a (l2 a z)))
            exact h _ F' H' (Un2 f2 (Un2 f1 fp')) (s.less fun a z => z.elim (fun z => .inl (l2 a z)) fun z => z.imp_left (l1 a)) o2 ((Bk.set hBi).tr (Bk.set hBj))
end
end DL

namespace DL
variable {K : PySem.W.Frag}
open PySem L2
/-! ### methods that change a list -/
theorem Ows.split {F H : Hp} : ∀ {us xs} {fp : Fp} (n : Nat), Ows K F H us xs fp → ∃ f1 f2 : Fp, Ows K F H (us.take n) (xs.take n) f1 ∧ Ows K F H (us.drop n) (xs.drop n) f2 ∧ Dj f1 f2 ∧ (∀ a, f1 a → fp a) ∧ ∀ a, f2 a → fp a
  | _, _, fp, 0, o => ⟨fun _ => False, fp, by simpa using Ows.nil, by simpa using o, fun _ z => z.elim, fun _ z => z.elim, fun _ z => z⟩
  | _, _, fp, n + 1, .nil => ⟨fp, fun _ => False, by simpa using Ows.nil, by simpa using Ows.nil, fun _ _ z => z, fun _ z => z, fun _ z => z.elim⟩
  | _, _, fp, n + 1, .hole o => by
    obtain ⟨f1, f2, a, b, c, d, e⟩ := Ows.split n o
    exact ⟨f1, f2, by simpa using Ows.hole a, by simpa using b, c, d, e⟩
  | _, _, fp, n + 1, .cons (f1 := g1) (f2 := g2) w o l1 l2 dj => by
    obtain ⟨f1, f2, a, b, c, d, e⟩ := Ows.split n o
    exact ⟨Un2 g1 f1, f2, by simpa using Ows.cons (f1 := g1) (f2 := f1) w a (fun _ => .inl) (fun _ => .inr) (fun q z z2 => dj q z (d q z2)), by simpa using b,
      fun q z z2 => z.elim (fun z => dj q z (e q z2)) fun z => c q z z2, fun q z => z.elim (l1 q) fun z => l2 q (d q z), fun q z => l2 q (e q z)⟩
def MuS (K : PySem.W.Frag) (r : V → List V → Hp → VK → Prop) (g : List OD → List OD → Option (OD × List OD)) : Prop := ∀ F H a ws xs vs ys f1 f2 res xs' (Q : VK), Inc F H → H a = some (.lst ws) → Ows K F H (ws.map some) xs f1 → Ows K F H (vs.map some) ys f2 → Dj f1 f2 →
  g xs ys = some (res, xs') → (∀ ws' v f3 f4, Ows K F H (List.map some ws') xs' f3 → Ow K F H v res f4 → Dj f3 f4 → (∀ b, f3 b → Un2 f1 f2 b) → (∀ b, f4 b → Un2 f1 f2 b) → Q v (upd H a (.lst ws'))) → r (.ref a) vs H Q
def eMut (i : Nat) (g : List OD → List OD → Option (OD × List OD)) (f : Env' → R (List OD)) : Env' → R OD := fun env => match lk env i with
  | some (.l _) => (f env).bind fun ys e => match lk e i with
    | some (.l xs) => match g xs ys with
      | some (res, xs') => .ok res (e.set i (.l xs'))
      | none => .st
    | _ => .st
  | _ => .st
theorem mut_core {K : PySem.W.Frag} {W : WX} {mg : Mg} {i : Nat} {r g f} (hs : MuS K r g) {σ : L2.St} {H : Hp} {Q : VK} : dTE K mg W (eMut i g f) σ H Q → tBM K "list" r (tVar i) (dTA K mg W f) σ H Q := fun ⟨F, env, fp, rs, o, h⟩ => by
  unfold eMut at h
  cases e0 : lk env i with
  | none => rw [e0] at h; exact h.elim
  | some x0 =>
    rw [e0] at h
    cases x0 with
    | l xs0 =>
      dsimp only at h
      obtain ⟨e1, n1⟩ := lk_some e0
      obtain ⟨v, g1, g2, hv, w0, _⟩ := o.get e1 n1
      cases w0 with
      | l fa ha wl hd =>
        rename_i a ws0 _
        refine ⟨.ref a, hv, .inl ⟨rfl, _, SqL.of ha⟩, ?_⟩
        refine seqA (Stp.rfl' rs) (fun _ q => q) o (fun h => h) PoE.ex_ h fun ys e' vs F1 H1 fv f1 s1 dj1 w1 o1 h1 => ?_
        cases e2 : lk e' i with
        | none => rw [e2] at h1; exact h1.elim
        | some x1 =>
          rw [e2] at h1
          cases x1 with
          | l xs =>
            dsimp only at h1
            cases eg : g xs ys with
            | none => rw [eg] at h1; exact h1.elim
            | some p =>
              obtain ⟨res, xs'⟩ := p
              rw [eg] at h1
              dsimp only at h1
              obtain ⟨e3, n3⟩ := lk_some e2
              obtain ⟨v', k1, k2, hv', w2, orest, l1, l2, dk⟩ := o1.get e3 n3
              rw [hv] at hv'; cases hv'
              cases w2 with
              | l fa' ha' wl' hd' =>
                rename_i ws fq
                have dqv : Dj fq fv := fun b z z2 => dj1 b z2 (l1 b (hd' b z).1)
                refine hs F1 H1 a ws xs vs ys fq fv res xs' Q s1.rs.sub ha' wl' w1 dqv eg fun ws' u f3 f4 o3 w4 d34 l3 l4 => ?_
                have ai : f1 a := l1 a fa'
                have na3 : ∀ b, Un2 fq fv b → b ≠ a := fun b z e => z.elim (fun z => (hd' b z).2 e) fun z => dj1 b z (e ▸ ai)
                have st := Stp.put (o := .lst ws') s1.rs (a := a) (.inr ai)
                have o3' := o3.mono st.inc (H' := upd H1 a (.lst ws')) fun b z => upd_ne (na3 b (l3 b z))
                have w4' := w4.mono st.inc (H' := upd H1 a (.lst ws')) fun b z => upd_ne (na3 b (l4 b z))
                have or' := orest.mono st.inc (H' := upd H1 a (.lst ws')) fun b z => upd_ne fun e => dk a fa' (e ▸ z)
                have wn : Ow K F1 (upd H1 a (.lst ws')) (.ref a) (.l xs') (Un2 (fun b => b = a) f3) := .l (.inl rfl) upd_same o3' fun b z => ⟨.inr z, na3 b (l3 b z)⟩
                have dn : Dj (Un2 (fun b => b = a) f3) k2 := fun b z z2 => z.elim (fun e => dk a fa' (e ▸ z2)) fun z => (l3 b z).elim (fun z => dk b (hd' b z).1 z2) fun z => dj1 b z (l2 b z2)
                have op := Ows.put wn or' hv dn
                rw [List.set_set] at op
                have up : ∀ b, Un2 fq fv b → Un2 fv f1 b := fun b z => z.elim (fun z => .inr (l1 b (hd' b z).1)) .inl
                refine h1 u F1 _ f4 _ ((s1.tr st).less fun b z => ?_) (fun b z z2 => ?_) w4' op
                · rcases z with z | (z | z) | z
                  · exact up b (l4 b z)
                  · exact .inr (z ▸ ai)
                  · exact up b (l3 b z)
                  · exact .inr (l2 b z)
                · rcases z2 with (z2 | z2) | z2
                  · exact na3 b (l4 b z) z2
                  · exact d34 b z2 z
                  · exact (l4 b z).elim (fun z => dk b (hd' b z).1 z2) fun z => dj1 b z (l2 b z2)
          | _ => exact h1.elim
    | _ => exact h.elim
abbrev Mu := List OD → List OD → Option (OD × List OD)
def gAppend : Mu
  | xs, [y] => if xs.length < 100000 then some (.p .none, xs ++ [y]) else none
  | _, _ => none
def gClear : Mu
  | _, [] => some (.p .none, [])
  | _, _ => none
def popOf : Option OD → List OD → Option (OD × List OD)
  | none, _ => none
  | some .h, _ => none
  | some x, xs => some (x, xs.dropLast)
def gPop : Mu
  | xs, [] => popOf (xs[xs.length - 1]?) xs
  | _, _ => none
def gInsert : Mu
  | xs, [.p (.int i), y] => if xs.length < 100000 ∧ 0 ≤ i ∧ i < 2 ^ 63 then some (.p .none, xs.take i.toNat ++ [y] ++ xs.drop i.toNat) else none
  | _, _ => none
def xpd : OD → Option (List OD)
  | .l zs => some zs
  | .p (.list ds) => some (ds.map .p)
  | _ => none
def extOf (xs : List OD) : Option (List OD) → Option (OD × List OD)
  | some zs => if xs.length + zs.length ≤ 100000 then some (.p .none, xs ++ zs) else none
  | none => none
def gExtend : Mu
  | xs, [y] => extOf xs (xpd y)
  | _, _ => none
theorem m_append : MuS K rAppend gAppend := by
  intro F H a ws xs vs ys f1 f2 res xs' Q s ha o1 o2 dj e k
  have hl := ows_len o2
  match ys, vs, hl, e with
  | [y], [v], _, e =>
    change (if xs.length < 100000 then some (OD.p .none, xs ++ [y]) else none) = some (res, xs') at e
    split at e
    · rename_i q
      cases e
      refine ⟨a, ws, v, rfl, rfl, ha, szlt (by rw [ows_len o1]; exact q), ?_⟩
      have o := Ows.app o2 o1 (fun b z z2 => dj b z2 z)
      rw [← List.map_append] at o
      exact k _ _ _ (fun _ => False) o (.p .non) (fun _ _ z => z) (fun _ z => z) fun _ z => z.elim
    · cases e
theorem m_clear : MuS K rClear gClear := by
  intro F H a ws xs vs ys f1 f2 res xs' Q s ha o1 o2 dj e k
  have hl := ows_len o2
  match ys, vs, hl, e with
  | [], [], _, e =>
    cases e
    exact ⟨a, ws, rfl, rfl, ha, k [] _ (fun _ => False) (fun _ => False) .nil (.p .non) (fun _ z => z.elim) (fun _ z => z.elim) fun _ z => z.elim⟩
theorem m_pop : MuS K rPop gPop := by
  intro F H a ws xs vs ys f1 f2 res xs' Q s ha o1 o2 dj e k
  have hl := ows_len o2
  match ys, vs, hl, e with
  | [], [], _, e =>
    change popOf (xs[xs.length - 1]?) xs = some (res, xs') at e
    cases q : xs[xs.length - 1]? with
    | none => rw [q] at e; cases e
    | some y =>
      rw [q] at e
      have hy : y ≠ .h := fun z => by subst z; cases e
      have e : some (y, xs.dropLast) = some (res, xs') := by
        cases y <;> first | exact e | exact (hy rfl).elim
      cases e
      obtain ⟨v, g1, g2, a1, a2, a3, a4, a5, a6⟩ := o1.get q hy
      have hw := ows_len o1
      rw [List.getElem?_map, ← hw] at a1
      cases q2 : ws[ws.length - 1]? with
      | none => rw [q2] at a1; cases a1
      | some v' =>
        rw [q2] at a1; cases a1
        refine ⟨a, ws, v, rfl, rfl, ha, q2, ?_⟩
        have o3 : Ows K F H (ws.dropLast.map some) xs.dropLast g2 := by
          obtain ⟨h1, h2, b1, b2, b3, b4, b5⟩ := a3.split (xs.length - 1)
          have e1 : (xs.set (xs.length - 1) .h).take (xs.length - 1) = xs.dropLast := by rw [List.dropLast_eq_take, List.take_set_of_le (Nat.le_refl _)]
          rw [e1, ← List.map_take, ← hw, ← List.dropLast_eq_take] at b1
          exact b1.weak b4
        exact k _ _ _ _ o3 a2 (fun b z z2 => a6 b z2 z) (fun b z => .inl (a5 b z)) fun b z => .inl (a4 b z)
theorem m_insert : MuS K (fun x vs H Q => ∃ (l : Addr) (xs : List V) (i : Int) (y : V), x = .ref l ∧ vs = [.int i, y] ∧ H l = some (.lst xs) ∧ xs.length < sizeLine ∧ 0 ≤ i ∧ i < 2 ^ 63 ∧ Q .non (upd H l (.lst (xs.take i.toNat ++ [y] ++ xs.drop i.toNat))))
    gInsert := by
  intro F H a ws xs vs ys f1 f2 res xs' Q s ha o1 o2 dj e k
  unfold gInsert at e
  split at e
  · rename_i i y
    have hl := ows_len o2
    match vs, hl, o2 with
    | [v0, v1], _, o2 =>
      split at e
      · rename_i q
        cases e
        have h0 : v0 = .int i ∧ ∃ f, Ows K F H [some v1] [y] f ∧ ∀ a, f a → f2 a := by
          cases o2 with
          | cons a b c d e => cases a with | p a => cases a; exact ⟨rfl, _, b, d⟩
        obtain ⟨rfl, fy, oy, ly⟩ := h0
        refine ⟨a, ws, i, v1, rfl, rfl, ha, szlt (by rw [ows_len o1]; exact q.1), q.2.1, q.2.2, ?_⟩
        obtain ⟨h1, h2, b1, b2, b3, b4, b5⟩ := o1.split i.toNat
        have c1 := Ows.app b2 oy (fun b z z2 => dj b (b5 b z) (ly b z2))
        have c2 := Ows.app c1 b1 (fun b z z2 => z.elim (fun z => dj b (b4 b z2) (ly b z)) fun z => b3 b z2 z)
        rw [← List.map_take, ← List.map_drop, ← List.map_singleton, ← List.map_append, ← List.map_append, ← List.append_assoc, ← List.append_assoc] at c2
        exact k _ _ _ (fun _ => False) c2 (.p .non) (fun _ _ z => z) (fun b z => z.elim (fun z => .inl (b4 b z)) fun z => z.elim (fun z => .inr (ly b z)) fun z => .inl (b5 b z)) fun _ z => z.elim
      · cases e
  · cases e
theorem m_extend : MuS K rExtend gExtend := by
  intro F H a ws xs vs ys f1 f2 res xs' Q s ha o1 o2 dj e k
  have hl := ows_len o2
  match ys, vs, hl, e, o2 with
  | [y], [v], _, e, o2 =>
    change extOf xs (xpd y) = some (res, xs') at e
    cases q0 : xpd y with
    | none => rw [q0] at e; cases e
    | some zs =>
      rw [q0] at e
      change (if xs.length + zs.length ≤ 100000 then some (OD.p .none, xs ++ zs) else none) = some (res, xs') at e
      split at e
      · rename_i q
        cases e
        have h0 : ∃ b us f, v = .ref b ∧ H b = some (.lst us) ∧ Ows K F H (us.map some) zs f ∧ ∀ a, f a → f2 a := by
          cases o2 with
          | hole => cases q0
          | cons a b c d e =>
            cases a with
            | h => cases q0
            | sc => cases q0
            | er => cases q0
            | ob => cases q0
            | t => cases q0
            | p a =>
              cases a with
              | lst p r => cases q0; exact ⟨_, _, fun _ => False, rfl, s _ _ p, Ows.of_pure r, fun _ z => z.elim⟩
              | _ => cases q0
            | l p r t u => cases q0; exact ⟨_, _, _, rfl, r, t, fun a z => c a (u a z).1⟩
        obtain ⟨b, us, f, rfl, hb, ob, lb⟩ := h0
        refine ⟨a, b, ws, us, rfl, rfl, ha, hb, szl (by rw [ows_len o1, ows_len ob]; exact q), ?_⟩
        have o := Ows.app ob o1 (fun b z z2 => dj b z2 (lb b z))
        rw [← List.map_append] at o
        exact k _ _ _ (fun _ => False) o (.p .non) (fun _ _ z => z) (fun b z => z.imp_right (lb b)) fun _ z => z.elim
      · cases e
section
variable {X : Cx} {W : WX} {B : List Nat} {pos : Pos}
theorem de_mut (i : Nat) {x name : Str} {id : String} {r g f} {e : Expr} {es : List Expr} {p apos cpos : Pos} (slot : Slot "list" name id) (hty : typeOf (.builtin id) = pure (.type "method_descriptor")) (hm : MtR X id r) (hs : MuS X.K r g) (ha : DA X W (e :: es) f)
    (hN : X.N[i]? = some x := by rfl) (hv : Vis X.env.scope x := by first | exact Or.inl rfl | exact Or.inr (Or.inl rfl) | exact Or.inr (Or.inr rfl)) (hd : (x == ("__debug__" : Str)) = false := by decide) (hcd : (x == ("__classdict__" : Str)) = false := by decide)
    (hbase : attributeBase (.Name x p) name X.env (eval (.Name x p) X.env) = eval (.Name x p) X.env := by rfl)
    (hfew : ((backTo cpos (starEach (e :: es) X.env)).all (fun x => !x.1) && (backToKw cpos (keywordEach [] X.env)).all (fun x => x.1.isSome)
      && decide ((e :: es).length + ([] : List Keyword).length + (if ([] : List Keyword).isEmpty then 0 else 1) < 30)) = true := by rfl)
    (hline : (apos.endLine == cpos.line) = true := by rfl) (hst : starEach (e :: es) X.env = (false, eval e X.env) :: starEach es X.env := by rfl) (hpl : (backTo cpos (starEach es X.env)).any (·.1) = false := by rfl) :
    DE X W (.Call (.Attribute (.Name x p) name apos) (e :: es) [] cpos) (eMut i g f) :=
  pe_weak (pe_bm PySem.F.plainAttrs_list slot hty hm (pe_var hN hv hd hcd) ha hbase hfew hline hst hpl) fun _ _ _ => mut_core hs
theorem de_mut0 (i : Nat) {x name : Str} {id : String} {r g} {p apos cpos : Pos} (slot : Slot "list" name id) (hty : typeOf (.builtin id) = pure (.type "method_descriptor")) (hm : MtR X id r) (hs : MuS X.K r g)
    (hN : X.N[i]? = some x := by rfl) (hv : Vis X.env.scope x := by first | exact Or.inl rfl | exact Or.inr (Or.inl rfl) | exact Or.inr (Or.inr rfl)) (hd : (x == ("__debug__" : Str)) = false := by decide) (hcd : (x == ("__classdict__" : Str)) = false := by decide)
    (hbase : attributeBase (.Name x p) name X.env (eval (.Name x p) X.env) = eval (.Name x p) X.env := by rfl) (hline : (apos.endLine == cpos.line) = true := by rfl) :
    DE X W (.Call (.Attribute (.Name x p) name apos) [] [] cpos) (eMut i g aNil) :=
  pe_weak (pe_bm0 PySem.F.plainAttrs_list slot hty hm (pe_var hN hv hd hcd) hbase hline) fun σ H Q h => by
    obtain ⟨v, a, b, c⟩ := mut_core (K := X.K) hs h
    obtain ⟨F, env, fp, rs, o, h2⟩ := c
    exact ⟨v, a, b, h2 [] F H NoFp fp (Stp.id0 rs) dj0 .nil o⟩
end
theorem units65 {k : Nat} {A : Around} (r : Room k A) : A.units + 65 < cLine := by have := r.un; omega
end DL

namespace DL
variable {K : PySem.W.Frag}
open PySem PySem.Spec PyProof.Rows L2
/-! ### defs: what a def is worth, as a function of trees; its promise -/
abbrev Fn := List OD → R OD
def PoF (K : PySem.W.Frag) (mg : Mg) (F H : Hp) (fp : Fp) (vs : List V) (Q : VK) (E : XK) : R OD → Prop
  | .st => False
  | .ok d ods' => ∀ v F' H' fv fp', Stp F H fp F' H' (Un2 fv fp') → Dj fv fp' → Ow K F' H' v d fv → Ows K F' H' (vs.map some) ods' fp' → Q v H'
  | .ex C f ods' => ∀ F' H' fp', Stp F H fp F' H' fp' → Ows K F' H' (vs.map some) ods' fp' → ExK mg (fun c d _ H => E c d H) C f F' H' []
def spD (K : PySem.W.Frag) (mg : Mg) (n : Nat) (φ : Fn) : Sp := fun vs H Q E => vs.length = n ∧ ∃ F ods fp, RS F H fp ∧ Ows K F H (vs.map some) ods fp ∧ PoF K mg F H fp vs Q E (φ ods)
def mask (B : List Nat) (e : Env') : Nat → List OD
  | 0 => []
  | n + 1 => mask B e n ++ [if n ∈ B then (e[n]?).getD OD.h else OD.h]
def fnOfBody (n m : Nat) (B : List Nat) (g : Env' → Out) : Fn := fun ods => match g (ods ++ List.replicate (m - n) .h) with
  | .st => .st
  | .nx e => .ok (.p .none) (mask B e n)
  | .rt d e => .ok d (mask B e n)
  | .ex C f e => .ex C f (mask B e n)
theorem mask_len (B e) : ∀ n, (mask B e n).length = n
  | 0 => rfl
  | n + 1 => by unfold mask; rw [List.length_append, mask_len B e n]; rfl
theorem Ows.only {F H : Hp} {us : List (Option V)} {xs : List OD} {fp : Fp} (o : Ows K F H us xs fp) {us' : List (Option V)} {xs' : List OD} : us'.length = xs'.length → (∀ i : Nat, xs'[i]? = some OD.h ∨ xs'[i]? = none ∨ (xs'[i]? = xs[i]? ∧ us'[i]? = us[i]?)) → Ows K F H us' xs' fp := by
  induction us generalizing xs fp us' xs' with
  | nil =>
    intro hl k
    cases o
    have all : ∀ (us' : List (Option V)) (xs' : List OD), us'.length = xs'.length → (∀ x ∈ xs', x = OD.h) → Ows K F H us' xs' fp := fun us' => by
      induction us' with
      | nil => intro xs' hl _; cases xs' with | nil => exact .nil | cons => cases hl
      | cons u us' ih => intro xs' hl h; cases xs' with
        | nil => cases hl
        | cons x xs' =>
          have := h x List.mem_cons_self
          subst this
          exact .hole (ih xs' (by simpa using hl) fun x q => h x (List.mem_cons_of_mem _ q))
    refine all us' xs' hl fun x q => ?_
    obtain ⟨i, hi⟩ := List.getElem?_of_mem q
    rcases k i with z | z | ⟨z, _⟩
    · rw [hi] at z; exact Option.some.inj z
    · rw [hi] at z; cases z
    · rw [hi] at z; simp at z
  | cons u us ih =>
    intro hl k
    cases xs' with
    | nil => cases us' with | nil => exact .nil | cons => cases hl
    | cons x' xs' =>
      cases us' with
      | nil => cases hl
      | cons u' us' =>
        have hl' : us'.length = xs'.length := by simpa using hl
        cases o with
        | hole o =>
          have t := ih (us' := us') (xs' := xs') o hl' fun i => by simpa using k (i + 1)
          rcases k 0 with z | z | ⟨z, _⟩
          · have z : x' = .h := by simpa using z
            subst z; exact .hole t
          · simp at z
          · have z : x' = .h := by simpa using z
            subst z; exact .hole t
        | cons a b c d e =>
          have t := ih (us' := us') (xs' := xs') b hl' fun i => by simpa using k (i + 1)
          rcases k 0 with z | z | ⟨z, z2⟩
          · have z : x' = .h := by simpa using z
            subst z; exact .hole (t.weak d)
          · simp at z
          · simp only [List.getElem?_cons_zero, Option.some.injEq] at z z2
            subst z z2; exact .cons a t c d e
theorem mask_get (B e) : ∀ {n i : Nat}, i < n → (mask B e n)[i]? = some (if i ∈ B then (e[i]?).getD OD.h else OD.h)
  | 0, _, h => by omega
  | n + 1, i, h => by
    unfold mask
    by_cases q : i < n
    · rw [List.getElem?_append_left (by rw [mask_len]; exact q), mask_get B e q]
    · have : i = n := by omega
      subst this
      rw [List.getElem?_append_right (by rw [mask_len]; exact Nat.le_refl _), mask_len, Nat.sub_self]; rfl
theorem Ows.masked {F H : Hp} {σ : L2.St} {e : Env'} {fp : Fp} {vs : List V} {B : List Nat} (o : Ows K F H σ e fp) (b : ∀ i ∈ B, i < vs.length → σ[i]? = some (some (vs.getD i .non))) : Ows K F H (vs.map some) (mask B e vs.length) fp := by
  refine o.only (by rw [List.length_map, mask_len]) fun i => ?_
  by_cases hi : i < vs.length
  · rw [mask_get B e hi]
    by_cases hB : i ∈ B
    · rw [if_pos hB]
      cases q : e[i]? with
      | none => exact .inl rfl
      | some x =>
        refine .inr (.inr ⟨rfl, ?_⟩)
        rw [b i hB hi, List.getElem?_map, List.getD_eq_getElem?_getD, List.getElem?_eq_getElem hi]; rfl
    · rw [if_neg hB]; exact .inl rfl
  · exact .inr (.inl (List.getElem?_eq_none (by rw [mask_len]; omega)))
theorem start_len {N : List Str} {vs : List V} (h : vs.length ≤ N.length) : (L2.start N vs).length = N.length := by
  unfold L2.start; rw [List.length_append, List.length_map, List.length_replicate]; omega
section
variable {P : Program} {w : World} {K : PySem.W.Frag} {mg : Mg} {base : Heap}
/-- THE RULE for a def -/
theorem fn_ok {x qual : Str} {st : Stmt} {f : Addr} {fd : FuncData} {N ps : List Str} {k : Nat} (B : List Nat) {g : Env' → Out} (F : Fun K x qual st f fd) (S : FnScope N ps (defScope st)) (hn : ps.length ≤ N.length)
    (hbody : ∀ (cdv : Value) (A : Around) (outer : List Env) (s : Shared) (H : Hp) (E : XK), Room k (A.deeper (envOfC qual (defScope st) s.heap.objs.size f cdv)) →
      DSs (cxOf (L2.CX P w) P w K mg base N qual (defScope st) f cdv A outer s H E) (fun c d _ H => E c d H) B (defBody st) g) :
    FnOk P w K mg base (L2.CX P w) (k + 1) f fd ps (spD K mg ps.length (fnOfBody ps.length N.length B g)) := by
  refine F.okX S (fun vs H Q E h => h.1) fun cdv A outer s H vs Q E hr h => ⟨_, hbody cdv A outer s H E hr, ?_⟩
  obtain ⟨hl, F0, ods, fp, rs, o, h⟩ := h
  have ol := ows_len o
  have oe : Ows K F0 H (L2.start N vs) (ods ++ List.replicate (N.length - ps.length) .h) fp := by
    refine o.only (by rw [start_len (by omega), List.length_append, List.length_replicate]; omega) fun i => ?_
    by_cases hi : i < ods.length
    · refine .inr (.inr ⟨List.getElem?_append_left hi, ?_⟩)
      unfold L2.start; rw [List.getElem?_append_left (by rw [List.length_map]; omega)]
    · rw [List.getElem?_append_right (by omega), List.getElem?_replicate]
      split
      · exact .inl rfl
      · exact .inr (.inl rfl)
  have bk : ∀ {σ' : L2.St}, Bk B (L2.start N vs) σ' → ∀ i ∈ B, i < vs.length → σ'[i]? = some (some (vs.getD i .non)) := fun b i hB hi => by
    rw [b.2 i hB]
    unfold L2.start
    rw [List.getElem?_append_left (by rw [List.length_map]; exact hi), List.getElem?_map, List.getD_eq_getElem?_getD, List.getElem?_eq_getElem hi]; rfl
  refine ⟨F0, _, fp, rs, oe, ?_⟩
  show PoS K mg _ B F0 H fp _ _ (g (ods ++ List.replicate (N.length - ps.length) .h))
  unfold fnOfBody at h
  cases e : g (ods ++ List.replicate (N.length - ps.length) .h) with
  | st => rw [e] at h; exact h.elim
  | nx e' =>
    rw [e] at h
    refine fun σ' F' H' fp' s o' b => h .non F' H' NoFp fp' (s.less fun a q => q.elim False.elim id) dj0 (.p .non) ?_
    rw [← hl]; exact o'.masked (bk b)
  | rt d e' =>
    rw [e] at h
    refine fun v σ' F' H' fv fp' s dj w o' b => h v F' H' fv fp' s dj w ?_
    rw [← hl]; exact o'.masked (bk b)
  | ex C f e' =>
    rw [e] at h
    refine fun σ' F' H' fp' s o' b => h F' H' fp' s ?_
    rw [← hl]; exact o'.masked (bk b)
end
/-! ### calls of defs -/
abbrev BO := OD × Option Nat
def Backs (σ : L2.St) : List V → List BO → Prop := fun vs ys => Paired (fun v (y : BO) => ∀ i, y.2 = some i → σ[i]? = some (some v)) vs ys
def PoB (K : PySem.W.Frag) (mg : Mg) (W : WX) (F H : Hp) (fp : Fp) (σ : L2.St) (Q : VK) : R BO → Prop
  | .st => False
  | .ok y env' => ∀ v F' H' fv fp', Stp F H fp F' H' (Un2 fv fp') → Dj fv fp' → Ow K F' H' v y.1 fv → (∀ i, y.2 = some i → σ[i]? = some (some v)) → Ows K F' H' σ env' fp' → Q v H'
  | .ex C f env' => PoX K mg W F H fp σ C f env'
def PoBs (K : PySem.W.Frag) (mg : Mg) (W : WX) (F H : Hp) (fp : Fp) (σ : L2.St) (Q : List V → Hp → Prop) : R (List BO) → Prop
  | .st => False
  | .ok ys env' => ∀ vs F' H' fv fp', Stp F H fp F' H' (Un2 fv fp') → Dj fv fp' → Ows K F' H' (vs.map some) (ys.map (·.1)) fv → Backs σ vs ys → Ows K F' H' σ env' fp' → Q vs H'
  | .ex C f env' => PoX K mg W F H fp σ C f env'
def dTB (K : PySem.W.Frag) (mg : Mg) (W : WX) (f : Env' → R BO) : TE := fun σ H Q => ∃ F env fp, RS F H fp ∧ Ows K F H σ env fp ∧ PoB K mg W F H fp σ Q (f env)
def dTBs (K : PySem.W.Frag) (mg : Mg) (W : WX) (f : Env' → R (List BO)) : TA := fun σ H Q => ∃ F env fp, RS F H fp ∧ Ows K F H σ env fp ∧ PoBs K mg W F H fp σ Q (f env)
abbrev DB (X : Cx) (W : WX) (e : Expr) (f : Env' → R BO) : Prop := PE X e (dTB X.K X.mg W f)
abbrev DBs (X : Cx) (W : WX) (e : List Expr) (f : Env' → R (List BO)) : Prop := PA X e (dTBs X.K X.mg W f)
section
variable {X : Cx} {W : WX}
def bVal (f : Env' → R OD) : Env' → R BO := fun env => (f env).bind fun d e => .ok (d, none) e
theorem PoB.ex_ {mg : Mg} {F H : Hp} {fp : Fp} {σ} {Q} (C f e) (h : PoB K mg W F H fp σ Q (.ex C f e)) : PoX K mg W F H fp σ C f e := h
theorem PoBs.ex_ {mg : Mg} {F H : Hp} {fp : Fp} {σ} {Q} (C f e) (h : PoBs K mg W F H fp σ Q (.ex C f e)) : PoX K mg W F H fp σ C f e := h
theorem db_val {e : Expr} {f} (h : DE X W e f) : DB X W e (bVal f) := pe_weak h fun σ H Q ⟨F, env, fp, r, o, h⟩ =>
  seqE (Stp.rfl' r) (fun _ q => q) o (fun h => h) PoB.ex_ h fun d e' v F' H' fv fp' s dj w o' h => h v F' H' fv fp' s dj w (fun _ z => nomatch z) o'
def bSlot (i : Nat) : Env' → R BO := fun env => match lk env i with
  | none => .st
  | some (.p d) => .ok (.p d, none) env
  | some (.sc ns) => .ok (.sc ns, none) env
  | some (.er C f) => .ok (.er C f, none) env
  | some x => .ok (x, some i) (env.set i .h)
theorem db_slot (i : Nat) {x : Str} {pos : Pos} (hN : X.N[i]? = some x := by rfl) (hv : Vis X.env.scope x := by first | exact Or.inl rfl | exact Or.inr (Or.inl rfl) | exact Or.inr (Or.inr rfl)) (hd : (x == ("__debug__" : Str)) = false := by decide)
    (hcd : (x == ("__classdict__" : Str)) = false := by decide) : DB X W (.Name x pos) (bSlot i) := by
  refine pe_weak (pe_var hN hv hd hcd) fun σ H Q ⟨F, env, fp, r, o, h⟩ => ?_
  unfold bSlot at h
  cases e : lk env i with
  | none => rw [e] at h; exact h.elim
  | some x =>
    rw [e] at h
    obtain ⟨e', n⟩ := lk_some e
    obtain ⟨v, f1, f2, a, b, c, s1, s2, dj⟩ := o.get e' n
    refine ⟨v, a, ?_⟩
    have mvd : PoB X.K X.mg W F H fp σ Q (.ok (x, some i) (env.set i .h)) → Q v H := fun h => h v F H f1 f2 ((Stp.rfl' r).less fun a q => q.elim (s1 a) (s2 a)) dj b (fun j z => by cases z; exact a) c
    cases x with
    | p d => exact h v F H NoFp fp (Stp.id0 r) dj0 b.np (fun _ z => nomatch z) o
    | sc ns => exact h v F H NoFp fp (Stp.id0 r) dj0 (by cases b with | sc b => exact .sc b) (fun _ z => nomatch z) o
    | er C f => exact h v F H NoFp fp (Stp.id0 r) dj0 (by cases b with | er b => exact .er b) (fun _ z => nomatch z) o
    | ob C ns xs => exact mvd h
    | h => exact (n rfl).elim
    | l xs => exact mvd h
    | t xs => exact mvd h
def bNil : Env' → R (List BO) := fun env => .ok [] env
def bCons (f : Env' → R BO) (g : Env' → R (List BO)) : Env' → R (List BO) := fun env => (f env).bind fun x e => (g e).bind fun xs e2 => .ok (x :: xs) e2
theorem dbs_nil : DBs X W [] bNil := pa_weak pa_nil fun _ H _ ⟨F, env, fp, rs, o, h⟩ => h [] F H NoFp fp (Stp.id0 rs) dj0 .nil .nil o
theorem bcons_core {mg : Mg} {σ : L2.St} {H : Hp} {Q : List V → Hp → Prop} {f : Env' → R BO} {g : Env' → R (List BO)} : dTBs K mg W (bCons f g) σ H Q → tCons (dTB K mg W f) (dTBs K mg W g) σ H Q := fun ⟨F, env, fp, rs, o, h⟩ => by
  refine ⟨F, env, fp, rs, o, ?_⟩
  unfold bCons at h
  cases e : f env with
  | st => rw [e] at h; exact h.elim
  | ex C x e' => rw [e] at h; exact h
  | ok x e1 =>
    rw [e] at h
    intro v F1 H1 fv f1 s1 dj1 w1 bk1 o1
    refine ⟨F1, e1, f1, ⟨s1.rs.sub, fun a q => s1.rs.own a (.inr q)⟩, o1, ?_⟩
    cases e2 : g e1 with
    | st => rw [R.bind_ok, e2] at h; exact h.elim
    | ex C x e' => rw [R.bind_ok, e2] at h; exact PoX.step (C := C) (f := x) s1 (fun _ q => .inr q) h
    | ok ys e' =>
      rw [R.bind_ok, e2] at h
      intro u F2 H2 fu f2 s2 dj2 w2 bk2 o2
      have own : ∀ a, fv a → F1 a = none ∧ H1 a ≠ none := fun a q => s1.rs.own a (.inl q)
      have w1' := w1.step s2 dj1 (fun a q => (own a q).2)
      have d3 := s2.dj dj1 fun a q => (own a q).2
      have s3 : Stp F H fp F2 H2 (Un2 (Un2 fu f2) fv) := s1.tr ((s2.frame dj1 own).from fun a q => q.elim .inr .inl)
      exact h (v :: u) F2 H2 (Un2 fv fu) f2 (s3.less fun a q => q.elim (fun q => q.elim .inr fun q => .inl (.inl q)) fun q => .inl (.inr q)) (fun a q z => q.elim (fun q => d3 a q (.inr z)) fun q => dj2 a q z)
        (.cons (f1 := fv) (f2 := fu) w1' w2 (fun _ => .inl) (fun _ => .inr) fun a q z => d3 a q (.inl z)) (.cons bk1 bk2) o2
theorem dbs_cons {e : Expr} {es : List Expr} {f g} (ha : DB X W e f) (hr : DBs X W es g) (hs : starEach (e :: es) X.env = (false, eval e X.env) :: starEach es X.env := by rfl) : DBs X W (e :: es) (bCons f g) :=
  pa_weak (pa_cons ha hr hs) fun _ _ _ => bcons_core
def putBack : List (Option Nat) → List OD → Env' → Env'
  | some i :: bs, x :: xs, e => putBack bs xs (e.set i x)
  | none :: bs, _ :: xs, e => putBack bs xs e
  | _, _, e => e
theorem Ows.back {F H : Hp} {σ : L2.St} : ∀ {vs : List V} {ys : List BO} {xs : List OD} {e : Env'} {fa fp : Fp}, Backs σ vs ys → Ows K F H (vs.map some) xs fa → Ows K F H σ e fp → Dj fa fp → Ows K F H σ (putBack (ys.map (·.2)) xs e) (Un2 fa fp)
  | [], _, _, _, _, _, .nil, _, o, _ => o.weak fun _ => .inr
  | v :: vs, (y, none) :: ys, .h :: xs, e, fa, fp, .cons a b, .hole w, o, dj => Ows.back (ys := ys) b w o dj
  | v :: vs, (y, none) :: ys, x :: xs, e, fa, fp, .cons a b, .cons w t l1 l2 d, o, dj => (Ows.back (ys := ys) b t o fun q z => dj q (l2 q z)).weak fun q z => z.imp_left (l2 q)
  | v :: vs, (y, some i) :: ys, .h :: xs, e, fa, fp, .cons a b, .hole w, o, dj => Ows.back (ys := ys) b w (o.drop1 i) dj
  | v :: vs, (y, some i) :: ys, x :: xs, e, fa, fp, .cons a b, .cons (f1 := g1) (f2 := g2) w t l1 l2 d, o, dj => by
    have o1 := Ows.put w o (a i rfl) (fun q z => dj q (l1 q z))
    exact (Ows.back (ys := ys) b t o1 fun q z z2 => z2.elim (fun z2 => d q z2 z) (dj q (l2 q z))).weak fun q z => z.elim (fun z => .inl (l2 q z)) fun z => z.imp_left (l1 q)
def eFn (φ : Fn) (f : Env' → R (List BO)) : Env' → R OD := fun env => (f env).bind fun ys e => match φ (ys.map (·.1)) with
  | .st => .st
  | .ok d xs => .ok d (putBack (ys.map (·.2)) xs e)
  | .ex C x xs => .ex C x (putBack (ys.map (·.2)) xs e)
theorem fn_core {n : Nat} {φ : Fn} {f : Env' → R (List BO)} {σ : L2.St} {H : Hp} {Q : VK} {mg : Mg} (hn : ∀ env ys e, f env = .ok ys e → ys.length = n) : dTE K mg W (eFn φ f) σ H Q → tCallS (spD K mg n φ) (WE W) (dTBs K mg W f) σ H Q := fun ⟨F, env, fp, rs, o, h⟩ => by
  refine ⟨F, env, fp, rs, o, ?_⟩
  unfold eFn at h
  cases e : f env with
  | st => rw [e] at h; exact h.elim
  | ex C x e' => rw [e] at h; exact h
  | ok ys e1 =>
    rw [e, R.bind_ok] at h
    intro vs F1 H1 fv f1 s1 dj1 w1 bk o1
    have hl := ows_len w1
    rw [List.length_map] at hl
    refine ⟨hl.trans (hn _ _ _ e), F1, _, fv, ⟨s1.rs.sub, fun a q => s1.rs.own a (.inl q)⟩, w1, ?_⟩
    have own : ∀ a, f1 a → F1 a = none ∧ H1 a ≠ none := fun a q => s1.rs.own a (.inr q)
    have dj1' : Dj f1 fv := fun a z z2 => dj1 a z2 z
    cases q : φ (ys.map (·.1)) with
    | st => rw [q] at h; exact h.elim
    | ok d xs =>
      rw [q] at h
      intro v F2 H2 fd fa s2 dj2 wd wa
      have o2 := o1.step s2 dj1' fun a q => (own a q).2
      have d3 := s2.dj dj1' fun a q => (own a q).2
      have s3 : Stp F H fp F2 H2 (Un2 (Un2 fd fa) f1) := s1.tr ((s2.frame dj1' own))
      have ob := Ows.back bk wa o2 fun a z z2 => d3 a z2 (.inr z)
      exact h v F2 H2 fd _ (s3.less fun a z => z.elim (fun z => .inl (.inl z)) fun z => z.elim (fun z => .inl (.inr z)) .inr) (fun a z z2 => z2.elim (dj2 a z) fun z2 => d3 a z2 (.inl z)) wd ob
    | ex C x xs =>
      rw [q] at h
      intro F2 H2 fa s2 wa
      have o2 := o1.step s2 dj1' fun a q => (own a q).2
      have d3 := s2.dj dj1' fun a q => (own a q).2
      have s3 : Stp F H fp F2 H2 (Un2 fa f1) := s1.tr ((s2.frame dj1' own))
      have ob := Ows.back bk wa o2 fun a z z2 => d3 a z2 z
      exact h F2 H2 _ s3 ob
end
end DL

namespace DL
variable {K : PySem.W.Frag}
open PySem PySem.Spec PyProof.Rows L2
/-- a def of the text, by its name: its worth -/
structure Def (P : Program) (w : World) (K : PySem.W.Frag) (mg : Mg) (base : Heap) (x : Str) (n : Nat) (φ : Fn) (k : Nat) : Prop where
  ex : ∃ f fd ps, mg x = some (.ref f) ∧ FnOk P w K mg base (L2.CX P w) k f fd ps (spD K mg n φ) ∧ Binds K fd ps [] ∧ PySem.W.keepIn K (.ref f) = true
section
variable {X : Cx} {W : WX} {pos : Pos}
abbrev DefX (X : Cx) (x : Str) (n : Nat) (φ : Fn) (k : Nat) : Prop := Def X.prog X.w X.K X.mg X.base x n φ k
theorem bl_nil : ∀ env ys e, bNil env = .ok ys e → ys.length = 0 := fun env ys e h => by cases h; rfl
theorem bl_cons {f : Env' → R BO} {g : Env' → R (List BO)} {n : Nat} (h : ∀ env ys e, g env = .ok ys e → ys.length = n) : ∀ env ys e, bCons f g env = .ok ys e → ys.length = n + 1 := fun env ys e q => by
  unfold bCons at q
  cases a : f env with
  | st => rw [a] at q; cases q
  | ex => rw [a] at q; cases q
  | ok x e1 =>
    rw [a, R.bind_ok] at q
    cases b : g e1 with
    | st => rw [b] at q; cases q
    | ex => rw [b] at q; cases q
    | ok xs e2 => rw [b, R.bind_ok] at q; cases q; rw [List.length_cons, h _ _ _ b]
structure DBn (X : Cx) (W : WX) (es : List Expr) (n : Nat) (f : Env' → R (List BO)) : Prop where
  pa : DBs X W es f
  ln : ∀ env ys e, f env = .ok ys e → ys.length = n
theorem db_nil : DBn X W [] 0 bNil := ⟨dbs_nil, bl_nil⟩
theorem db_cons {e : Expr} {es : List Expr} {f g} {n : Nat} (ha : DB X W e f) (hr : DBn X W es n g) (hs : starEach (e :: es) X.env = (false, eval e X.env) :: starEach es X.env := by rfl) : DBn X W (e :: es) (n + 1) (bCons f g) := ⟨dbs_cons ha hr.pa hs, bl_cons hr.ln⟩
theorem de_call {x : Str} {n j k : Nat} {φ : Fn} {e : Expr} {es : List Expr} {fb} {p : Pos} (G : DefX X x n φ j) (hr : Room k X.A) (tk : Takes X W) (ha : DBn X W (e :: es) n fb) (hj : j ≤ k := by decide) (hg : Gl X x := by rfl) (hdb : (x == ("__debug__" : Str)) = false := by decide)
    (he : starEach (e :: es) X.env = (false, eval e X.env) :: starEach es X.env := by rfl) (hpl : (backTo pos (starEach es X.env)).any (·.1) = false := by rfl) : DE X W (.Call (.Name x p) (e :: es) [] pos) (eFn φ fb) := by
  obtain ⟨f, fd, ps, hm, F, hb, hk⟩ := G.ex
  exact pe_weak (pe_callS F (hr.mono hj) hg hm hk hb (fun σ => passAt tk σ) ha.pa hdb he hpl) fun _ _ _ => fn_core ha.ln
/-! ### what a loop walks -/
def JOk (F : Hp) (J : It) (ds : List PyData) : Prop := ∀ F1 H1, Inc F F1 → Inc F1 H1 → ∀ i : Nat, (i < ds.length → J.go i H1) ∧ (ds.length ≤ i → J.stop i H1) ∧ ∀ d, ds[i]? = some d → ∀ x H', J.yld i H1 x H' → ∃ F', Stp F1 H1 NoFp F' H' NoFp ∧ Dd F' x d
def PoI (K : PySem.W.Frag) (mg : Mg) (W : WX) (F H : Hp) (fp : Fp) (σ : L2.St) (Q : It → Hp → Prop) : R (List PyData) → Prop
  | .st => False
  | .ok ds env' => ∀ J F' H' fp', Stp F H fp F' H' fp' → JOk F' J ds → Ows K F' H' σ env' fp' → Q J H'
  | .ex C f env' => PoX K mg W F H fp σ C f env'
def dTI (K : PySem.W.Frag) (mg : Mg) (W : WX) (f : Env' → R (List PyData)) : TI := fun σ H Q => ∃ F env fp, RS F H fp ∧ Ows K F H σ env fp ∧ PoI K mg W F H fp σ Q (f env)
abbrev DI (X : Cx) (W : WX) (tg e : Expr) (f : Env' → R (List PyData)) : Prop := PI X tg e (dTI X.K X.mg W f)
theorem pi_weak {tg e : Expr} {t u : TI} (h : PI X tg e t) (w : ∀ σ H Q, u σ H Q → t σ H Q) : PI X tg e u := ⟨fun pins s σ H Q I q => h.run pins s σ H Q I (w σ H Q q)⟩
theorem PI.or {tg e : Expr} {t u : TI} (h : PI X tg e t) (h' : PI X tg e u) : PI X tg e (fun σ H Q => t σ H Q ∨ u σ H Q) := ⟨fun pins s σ H Q I q => q.elim (h.run pins s σ H Q I) (h'.run pins s σ H Q I)⟩
def itsF : OD → Option (List PyData)
  | .p (.list ds) => some ds
  | .p (.tuple ds) => some ds
  | .l xs => frzs xs
  | .t xs => frzs xs
  | _ => none
def iSeq (f : Env' → R OD) : Env' → R (List PyData) := fun env => (f env).bind fun d e => R.of (itsF d) e
theorem PoI.ex_ {mg : Mg} {F H : Hp} {fp : Fp} {σ} {Q} (C f e) (h : PoI K mg W F H fp σ Q (.ex C f e)) : PoX K mg W F H fp σ C f e := h
theorem jok_list {K : PySem.W.Frag} {F : Hp} {a : Addr} {vs : List V} {ds : List PyData} (h : F a = some (.lst vs)) (w : DdL F vs ds) : JOk F (Itl K a) ds := fun F1 H1 i1 i2 i => by
  have hH : SqL K H1 a vs := SqL.of (i2 _ _ (i1 _ _ h))
  refine ⟨fun hi => ?_, fun hi => ⟨vs, hH, by rw [w.len]; exact hi⟩, fun d hd x H' hy => ?_⟩
  · obtain ⟨d, hd⟩ : ∃ d, ds[i]? = some d := ⟨_, List.getElem?_eq_getElem hi⟩
    obtain ⟨v, hv, _⟩ := w.get hd
    exact ⟨vs, v, hH, hv⟩
  · obtain ⟨rfl, hx⟩ := hy
    obtain ⟨v, hv, q⟩ := w.get hd
    have := hx vs hH
    rw [hv] at this; cases this
    exact ⟨F1, Stp.rfl' ⟨i2, fun _ z => z.elim⟩, q.inc i1⟩
theorem jok_tup {K : PySem.W.Frag} {F : Hp} {a : Addr} {vs : List V} {ds : List PyData} (h : F a = some (.tup vs)) (w : DdL F vs ds) : JOk F (Itt K a) ds := fun F1 H1 i1 i2 i => by
  have hH : SqT K H1 a vs := SqT.of (i2 _ _ (i1 _ _ h))
  refine ⟨fun hi => ?_, fun hi => ⟨vs, hH, by rw [w.len]; exact hi⟩, fun d hd x H' hy => ?_⟩
  · obtain ⟨d, hd⟩ : ∃ d, ds[i]? = some d := ⟨_, List.getElem?_eq_getElem hi⟩
    obtain ⟨v, hv, _⟩ := w.get hd
    exact ⟨vs, v, hH, hv⟩
  · obtain ⟨rfl, hx⟩ := hy
    obtain ⟨v, hv, q⟩ := w.get hd
    have := hx vs hH
    rw [hv] at this; cases this
    exact ⟨F1, Stp.rfl' ⟨i2, fun _ z => z.elim⟩, q.inc i1⟩
/-- a value frozen: its items -/
theorem itsF_at {F H : Hp} {v d fv ds} {fp : Fp} (rs : RS F H (Un2 fv fp)) (dj : Dj fv fp) (w : Ow K F H v d fv) (e : itsF d = some ds) : ∃ F' a vs, Stp F H (Un2 fv fp) F' H fp ∧ v = .ref a ∧ ((F' a = some (.lst vs)) ∨ F' a = some (.tup vs)) ∧ DdL F' vs ds := by
  cases w with
  | h => cases e
  | sc => cases e
  | er => cases e
  | ob => cases e
  | p w =>
    cases w with
    | lst a b => cases e; exact ⟨F, _, _, (Stp.rfl' rs).less fun _ => .inr, rfl, .inl a, b⟩
    | tup a b => cases e; exact ⟨F, _, _, (Stp.rfl' rs).less fun _ => .inr, rfl, .inr a, b⟩
    | _ => cases e
  | l a b c d =>
    have st := Stp.freeze rs dj
    exact ⟨fz F H fv, _, _, st, rfl, .inl ((fz_in a).trans b), c.fz rs.sub (fun q z => (d q z).1) e⟩
  | t a b =>
    have st := Stp.freeze rs dj
    exact ⟨fz F H fv, _, _, st, rfl, .inr (fz_inc rs.sub _ _ a), b.fz rs.sub (fun q z => z) e⟩
theorem di_seq {tg e : Expr} {f} (h : DE X W e f) : DI X W tg e (iSeq f) := pi_weak (PI.or (pi_list h) (pi_tup h)) fun σ H Q ⟨F, env, fp, rs, o, h⟩ => by
  unfold iSeq at h
  cases e : f env with
  | st => rw [e] at h; exact h.elim
  | ex C x e' => exact .inl ⟨F, env, fp, rs, o, by rw [e] at h ⊢; exact h⟩
  | ok d e' =>
    rw [e, R.bind_ok] at h
    cases q : itsF d with
    | none => rw [q] at h; exact h.elim
    | some ds =>
      rw [q] at h
      have lst : (∀ F H v fv, Ow X.K F H v d fv → ∀ F' a vs, v = .ref a → F' a = some (.tup vs) → Inc F F' → Inc F' H → False) → iList X.K (dTE X.K X.mg W f) σ H Q := fun no => by
        refine ⟨F, env, fp, rs, o, ?_⟩
        rw [e]
        intro v F' H' fv fp' s dj w o'
        obtain ⟨F2, a, vs, s2, rfl, ha, wd⟩ := itsF_at s.rs dj w q
        have ha := ha.resolve_right fun z => no _ _ _ _ w F2 a vs rfl z s2.inc s2.rs.sub
        exact ⟨a, rfl, ⟨vs, SqL.of (s2.rs.sub _ _ ha)⟩, h _ F2 H' fp' (s.tr s2) (jok_list ha wd) (o'.mono s2.inc fun _ _ => rfl)⟩
      have tup : (∀ F H v fv, Ow X.K F H v d fv → ∀ F' a vs, v = .ref a → F' a = some (.lst vs) → Inc F F' → Inc F' H → False) → iTup X.K (dTE X.K X.mg W f) σ H Q := fun no => by
        refine ⟨F, env, fp, rs, o, ?_⟩
        rw [e]
        intro v F' H' fv fp' s dj w o'
        obtain ⟨F2, a, vs, s2, rfl, ha, wd⟩ := itsF_at s.rs dj w q
        have ha := ha.resolve_left fun z => no _ _ _ _ w F2 a vs rfl z s2.inc s2.rs.sub
        exact ⟨a, rfl, ⟨vs, SqT.of (s2.rs.sub _ _ ha)⟩, h _ F2 H' fp' (s.tr s2) (jok_tup ha wd) (o'.mono s2.inc fun _ _ => rfl)⟩
      cases d with
      | h => cases q
      | sc => cases q
      | er => cases q
      | ob => cases q
      | p d =>
        cases d with
        | list ds => exact .inl (lst fun F H v fv w F' a vs ev z i1 i2 => by
            cases w with | p w => cases w with | lst x y => cases ev; rw [i1 _ _ x] at z; cases z)
        | tuple ds => exact .inr (tup fun F H v fv w F' a vs ev z i1 i2 => by
            cases w with | p w => cases w with | tup x y => cases ev; rw [i1 _ _ x] at z; cases z)
        | _ => cases q
      | l xs => exact .inl (lst fun F H v fv w F' a vs ev z i1 i2 => by
            cases w with | l x y _ _ => cases ev; rw [i2 _ _ z] at y; cases y)
      | t xs => exact .inr (tup fun F H v fv w F' a vs ev z i1 i2 => by
            cases w with | t x y => cases ev; rw [i1 _ _ x] at z; cases z)
/-! range -/
def rngL (lo : Int) (n : Nat) : List PyData := (List.range n).map fun (i : Nat) => PyData.int (lo + (i : Int))
theorem rngL_len (lo n) : (rngL lo n).length = n := by unfold rngL; simp
theorem rngL_get {lo n} {i : Nat} {d} (h : (rngL lo n)[i]? = some d) : i < n ∧ d = .int (lo + i) := by
  unfold rngL at h
  rw [List.getElem?_map] at h
  by_cases hi : i < n
  · rw [List.getElem?_range hi] at h; cases h; exact ⟨hi, rfl⟩
  · rw [List.getElem?_eq_none (by simpa using hi)] at h; cases h
theorem jok_rng {F : Hp} {lo : Int} {n : Nat} : JOk F (Itr lo n) (rngL lo n) := fun F1 H1 i1 i2 i => by
  rw [rngL_len]
  refine ⟨fun h => h, fun h => h, fun d hd x H' hy => ?_⟩
  obtain ⟨rfl, rfl⟩ := hy
  obtain ⟨_, rfl⟩ := rngL_get hd
  exact ⟨F1, Stp.rfl' ⟨i2, fun _ z => z.elim⟩, .int _⟩
noncomputable def rng1 : List OD → Option (List PyData)
  | [.p (.int n)] => if RngOk n then some (rngL 0 n.toNat) else none
  | _ => none
noncomputable def rng2 : List OD → Option (List PyData)
  | [.p (.int m), .p (.int n)] => if RngOk m ∧ RngOk n then some (rngL m (n - m).toNat) else none
  | _ => none
def iArgs (g : List OD → Option (List PyData)) (f : Env' → R (List Opd)) : Env' → R (List PyData) := fun env => (f env).bind fun os e => match ats e os with
  | some xs => R.of (g xs) e
  | none => .st
theorem rng_core {f : Env' → R (List Opd)} {g : List OD → Option (List PyData)} {σ : L2.St} {H : Hp} {Q : It → Hp → Prop} {mg : Mg} (t : List V → Hp → (It → Hp → Prop) → Prop)
    (k : ∀ F H vs xs ds (Q : It → Hp → Prop), Inc F H → Paired (fun v x => ∃ fx : Fp, True ∧ Ow K F H v x fx) vs xs → g xs = some ds → (∀ J, JOk F J ds → Q J H) → t vs H Q) :
    dTI K mg W (iArgs g f) σ H Q → dTVs K mg W f σ H fun vs H1 => t vs H1 Q := fun ⟨F, env, fp, rs, o, h⟩ => by
  refine seqVs (Stp.rfl' rs) (fun _ q => q) o (fun h => h) PoI.ex_ h fun os e1 vs F1 H1 fv f1 s1 dj1 w1 o1 h1 => ?_
  cases ea : ats e1 os with
  | none => rw [ea] at h1; exact h1.elim
  | some xs =>
    rw [ea] at h1
    dsimp only at h1
    cases eg : g xs with
    | none => rw [eg] at h1; exact h1.elim
    | some ds =>
      rw [eg] at h1
      exact k F1 H1 vs xs ds Q s1.rs.sub (Paired.mono (Helds.looks o1 w1 ea) fun _ _ ⟨fx, _, w⟩ => ⟨fx, trivial, w⟩) eg fun J hJ => h1 J F1 H1 f1 (s1.less fun _ => .inr) hJ o1
theorem di_rng1 {tg a : Expr} {f} {p pos : Pos} (hg : Gl X "range") (hm : X.mg "range" = none) (ha : DVs X W [a] f) (hs : starEach [a] X.env = [(false, eval a X.env)] := by rfl) : DI X W tg (.Call (.Name "range" p) [a] [] pos) (iArgs rng1 f) :=
  pi_weak (pi_range1 hg hm ha hs) fun σ H Q h => rng_core (fun vs H1 Q => ∃ j : Int, vs = [.int j] ∧ -(2 ^ 62) ≤ j ∧ j < 2 ^ 62 ∧ Q (Itr 0 j.toNat) H1) (fun F H vs xs ds Q i pr e k => by
    unfold rng1 at e
    split at e
    · split at e
      · rename_i q
        cases e
        cases pr with
        | cons a b =>
          cases b
          obtain ⟨_, _, w⟩ := a
          exact ⟨_, by rw [Ow.int w], And.left q, And.right q, k _ jok_rng⟩
      · cases e
    · cases e) h
theorem di_rng2 {tg a b : Expr} {f} {p pos : Pos} (hg : Gl X "range") (hm : X.mg "range" = none) (ha : DVs X W [a, b] f) (hs : starEach [a, b] X.env = [(false, eval a X.env), (false, eval b X.env)] := by rfl) (hs2 : starEach [b] X.env = [(false, eval b X.env)] := by rfl) :
    DI X W tg (.Call (.Name "range" p) [a, b] [] pos) (iArgs rng2 f) :=
  pi_weak (pi_range2 hg hm ha hs hs2) fun σ H Q h => rng_core (fun vs H1 Q => ∃ i j : Int, vs = [.int i, .int j] ∧ (-(2 ^ 62) ≤ i ∧ i < 2 ^ 62 ∧ -(2 ^ 62) ≤ j ∧ j < 2 ^ 62) ∧ Q (Itr i (j - i).toNat) H1) (fun F H vs xs ds Q i pr e k => by
    unfold rng2 at e
    split at e
    · split at e
      · rename_i q
        cases e
        cases pr with
        | cons a b =>
          cases b with
          | cons b c =>
            cases c
            obtain ⟨_, _, w⟩ := a
            obtain ⟨_, _, w2⟩ := b
            exact ⟨_, _, by rw [Ow.int w, Ow.int w2], ⟨And.left q.1, And.right q.1, And.left q.2, And.right q.2⟩, k _ jok_rng⟩
      · cases e
    · cases e) h
/-! enumerate -/
def enumL : Nat → List PyData → List PyData
  | _, [] => []
  | i, d :: ds => .tuple [.int (i : Int), d] :: enumL (i + 1) ds
theorem enumL_len : ∀ (ds : List PyData) (i : Nat), (enumL i ds).length = ds.length
  | [], _ => rfl
  | _ :: ds, i => by unfold enumL; rw [List.length_cons, enumL_len ds, List.length_cons]
theorem enumL_get : ∀ (ds : List PyData) (k i : Nat) {d}, (enumL k ds)[i]? = some d → ∃ e, ds[i]? = some e ∧ d = .tuple [.int ((k + i : Nat) : Int), e]
  | [], _, _, _, h => by simp [enumL] at h
  | e :: ds, k, 0, d, h => by simp [enumL] at h; exact ⟨e, rfl, by rw [← h]; rfl⟩
  | e :: ds, k, i + 1, d, h => by
    obtain ⟨x, h1, h2⟩ := enumL_get ds (k + 1) i (by simpa [enumL] using h)
    refine ⟨x, by simpa using h1, ?_⟩
    rw [h2, show k + 1 + i = k + (i + 1) by omega]
theorem jok_enum {K : PySem.W.Frag} {F : Hp} {a : Addr} {vs : List V} {ds : List PyData} (h : F a = some (.lst vs)) (w : DdL F vs ds) : JOk F (Ite K a) (enumL 0 ds) := fun F1 H1 i1 i2 i => by
  have hH : SqL K H1 a vs := SqL.of (i2 _ _ (i1 _ _ h))
  rw [enumL_len]
  refine ⟨fun hi => ?_, fun hi => ⟨vs, hH, by rw [w.len]; exact hi⟩, fun d hd x H' hy => ?_⟩
  · obtain ⟨d, hd⟩ : ∃ d, ds[i]? = some d := ⟨_, List.getElem?_eq_getElem hi⟩
    obtain ⟨v, hv, _⟩ := w.get hd
    exact ⟨vs, v, hH, hv⟩
  · obtain ⟨e, he, rfl⟩ := enumL_get ds 0 i hd
    obtain ⟨T, y, rfl, hT, rfl, hx⟩ := hy
    obtain ⟨v, hv, q⟩ := w.get he
    have ev : v = y := Option.some.inj (hv.symm.trans (hx vs hH))
    subst ev
    have st := Stp.newPure (o := .tup [.int (i : Nat), v]) (fp := NoFp) ⟨i2, fun _ z => z.elim⟩ hT
    rw [Nat.zero_add]
    exact ⟨_, st, .tup upd_same (.cons (.int _) (.cons ((q.inc i1).inc st.inc) .nil))⟩
def lstOf : List OD → Option (List PyData)
  | [.p (.list ds)] => some ds
  | [.l xs] => frzs xs
  | _ => none
def iEnu (f : Env' → R (List OD)) : Env' → R (List PyData) := fun env => (f env).bind fun os e => R.of ((lstOf os).map (enumL 0)) e
theorem lst_at {F H : Hp} {v d fv ds} {fp : Fp} (rs : RS F H (Un2 fv fp)) (dj : Dj fv fp) (w : Ow K F H v d fv) (e : lstOf [d] = some ds) : ∃ F' a vs, Stp F H (Un2 fv fp) F' H fp ∧ v = .ref a ∧ F' a = some (.lst vs) ∧ DdL F' vs ds := by
  cases w with
  | h => cases e
  | sc => cases e
  | er => cases e
  | ob => cases e
  | t => cases e
  | p w =>
    cases w with
    | lst a b => cases e; exact ⟨F, _, _, (Stp.rfl' rs).less fun _ => .inr, rfl, a, b⟩
    | _ => cases e
  | l a b c d =>
    have st := Stp.freeze rs dj
    exact ⟨fz F H fv, _, _, st, rfl, (fz_in a).trans b, c.fz rs.sub (fun q z => (d q z).1) e⟩
theorem di_enum {elts : List Expr} {kk : Nat} {a : Expr} {f} {p pos tpos : Pos} (hg : Gl X "enumerate") (hm : X.mg "enumerate" = none) (ha : DA X W [a] f) (hs : starEach [a] X.env = [(false, eval a X.env)] := by rfl) :
    DI X W (.Tuple elts kk tpos) (.Call (.Name "enumerate" p) [a] [] pos) (iEnu f) := pi_weak (pi_enum hg hm ha hs) fun σ H Q ⟨F, env, fp, rs, o, h⟩ => by
  refine seqA (Stp.rfl' rs) (fun _ q => q) o (fun h => h) PoI.ex_ h fun os e1 vs F1 H1 fv f1 s1 dj1 w1 o1 h1 => ?_
  cases q : lstOf os with
  | none => rw [q] at h1; exact h1.elim
  | some ds =>
    rw [q] at h1
    have hl := ows_len w1
    obtain ⟨d, rfl⟩ : ∃ d, os = [d] := by
      unfold lstOf at q
      split at q
      · exact ⟨_, rfl⟩
      · exact ⟨_, rfl⟩
      · cases q
    match vs, hl, w1 with
    | [v], _, w1 =>
      have one : ∃ f2, Ow X.K F1 H1 v d f2 ∧ ∀ a, f2 a → fv a := by
        cases w1 with
        | hole => exact ⟨NoFp, .h, fun _ z => z.elim⟩
        | cons a b c d e => exact ⟨_, a, c⟩
      obtain ⟨f2, w2, l2⟩ := one
      have rs2 : RS F1 H1 (Un2 f2 f1) := ⟨s1.rs.sub, fun a z => s1.rs.own a (z.imp_left (l2 a))⟩
      obtain ⟨F2, a, us, s2, rfl, ha, wd⟩ := lst_at rs2 (fun a z => dj1 a (l2 a z)) w2 q
      have s2' : Stp F1 H1 (Un2 fv f1) F2 H1 f1 := s2.from fun a z => z.imp_left (l2 a)
      exact ⟨a, us, rfl, SqL.of (s2.rs.sub _ _ ha), h1 _ F2 H1 f1 (s1.tr s2') (jok_enum ha wd) (o1.mono s2.inc fun _ _ => rfl)⟩
/-! ### for -/
def forGo (g : Tg) (f : Env' → Out) : List PyData → Env' → Out
  | [], e => .nx e
  | d :: ds, e => match g (.p d) e with
    | none => .st
    | some e1 => (f e1).seq (forGo g f ds)
def sFor (it : Env' → R (List PyData)) (g : Tg) (f : Env' → Out) : Env' → Out := fun env => (it env).out fun ds e => forGo g f ds e
end
section
variable {X : Cx} {W : WX} {B : List Nat} {pos : Pos}
theorem for_core {mg : Mg} {it g f} {D : Ends} {σ : L2.St} {H : Hp} : dTS K mg W B (sFor it g f) D σ H → tFor (dTI K mg W it) (dTG K B g) (dTS K mg W B f) D σ H := fun ⟨F, env, fp, rs, o, h⟩ => by
  refine ⟨F, env, fp, rs, o, ?_⟩
  unfold sFor at h
  cases e : it env with
  | st => rw [e] at h; exact h.elim
  | ex C x e' => rw [e] at h; exact h.ex_
  | ok ds e0 =>
    rw [e, R.out_ok] at h
    intro J F0 H0 f0 s0 hJ o0
    have h := h.step s0 (fun _ z => z) (Bk.id' (B := B))
    refine ⟨fun i m σ1 H1 => m = ds.length - i ∧ ∃ F1 e1 f1, RS F1 H1 f1 ∧ Inc F0 F1 ∧ Ows K F1 H1 σ1 e1 f1 ∧ PoS K mg W B F1 H1 f1 σ1 D (forGo g f (ds.drop i) e1), ⟨_, rfl, F0, e0, f0, s0.rs, Inc.rfl', o0, h⟩, fun i m σ1 H1 ⟨hm, F1, e1, f1, r1, in1, o1, h1⟩ => ?_⟩
    obtain ⟨jg, js, jy⟩ := hJ F1 H1 in1 r1.sub i
    by_cases hi : i < ds.length
    · refine .inr ⟨jg hi, ?_⟩
      have ed : ds.drop i = ds[i] :: ds.drop (i + 1) := List.drop_eq_getElem_cons hi
      rw [ed] at h1
      unfold forGo at h1
      cases q : g (.p ds[i]) e1 with
      | none => rw [q] at h1; exact h1.elim
      | some e2 =>
        rw [q] at h1
        dsimp only at h1
        refine ⟨fun σ2 H2 => ∃ F2 e2 f2, RS F2 H2 f2 ∧ Inc F0 F2 ∧ Ows K F2 H2 σ2 e2 f2 ∧ PoS K mg W B F2 H2 f2 σ2 D (forGo g f (ds.drop (i + 1)) e2), fun σ2 H2 h2 => ⟨ds.length - (i + 1), by omega, rfl, h2⟩, fun x H' hy => ?_⟩
        obtain ⟨F2, s2, wx⟩ := jy ds[i] (List.getElem?_eq_getElem hi) x H' hy
        have own : ∀ a, f1 a → F1 a = none ∧ H1 a ≠ none := r1.own
        have s3 := (s2.frame (g := f1) dj0' own)
        have s3' : Stp F1 H1 f1 F2 H' f1 := (s3.from fun a z => z.elim False.elim id).less fun a z => .inr z
        have o2 := o1.step s2 dj0' fun a q => (own a q).2
        refine ⟨F2, e1, NoFp, f1, .p ds[i], e2, ⟨s3.rs.sub, fun a z => z.elim False.elim (s3'.rs.own a)⟩, dj0, .p wx, o2, q, fun σ2 f3 l3 o3 b3 => ?_⟩
        have l3' : ∀ a, f3 a → f1 a := fun a z => (l3 a z).elim False.elim id
        have h2 := h1.step s3' l3' b3
        refine ⟨F2, e2, f3, ⟨s3'.rs.sub, fun a z => s3'.rs.own a (l3' a z)⟩, o3, ?_⟩
        -- the turn, then the rest
        cases q2 : f e2 with
        | st => rw [q2] at h2; exact h2.elim
        | nx e4 =>
          rw [q2] at h2
          exact fun σ4 F4 H4 f4 s4 o4 b4 => ⟨F4, e4, f4, s4.rs, (in1.tr s2.inc).tr s4.inc, o4, h2.step s4 (fun _ z => z) b4⟩
        | rt d e4 => rw [q2] at h2; exact h2
        | ex C y e4 => rw [q2] at h2; exact h2
    · refine .inl ⟨js (by omega), ?_⟩
      rw [List.drop_eq_nil_of_le (by omega)] at h1
      exact h1 σ1 F1 H1 f1 (Stp.rfl' r1) o1 Bk.id'
theorem ds_for {tg iter : Expr} {body : List Stmt} {it g f} (hp : PassesOwn (model X.prog X.w) X.A X.env X.xe) (hc : X.calm = true) (hi : DI X W tg iter it) (hg : DG X B tg g) (hb : DSs X W B body f) (hs : ∀ x, foldedSetIterable iter X.env x = pure x := by intro _; rfl) :
    DS X W B (.For tg iter body [] pos) (sFor it g f) := ps_weak (ps_for hp hc hi hg hb hs) fun _ _ _ => for_core
end
end DL

namespace DL
variable {K : PySem.W.Frag}
open PySem PySem.Spec PyProof.Rows L2
/-! ### list comprehensions -/
def lcGo (js : List Nat) (g : Tg) (t : Env' → R Bool) (f : Env' → R OD) : List PyData → Env' → Option (List OD × Env')
  | [], e => some ([], e)
  | d :: ds, e => match g (.p d) e with
    | none => none
    | some e1 => match t e1 with
      | .ok true e2 => match f e2 with
        | .ok x e3 => (lcGo js g t f ds (clr js e3)).map fun p => (x :: p.1, p.2)
        | _ => none
      | .ok false e2 => lcGo js g t f ds (clr js e2)
      | _ => none
def hol (js : List Nat) (e : Env') : Bool := js.all fun j => match e[j]? with
  | some .h => true
  | none => true
  | _ => false
def lcOut : Option (List OD × Env') → R OD
  | some (xs, e) => .ok (.l xs) e
  | none => .st
def eLc (js : List Nat) (it : Env' → R (List PyData)) (g : Tg) (t : Env' → R Bool) (f : Env' → R OD) : Env' → R OD := fun env => (it env).bind fun ds e => if hol js e = true ∧ ds.length ≤ 40000 then lcOut (lcGo js g t f ds e) else .st
def Hol (js : List Nat) (e : Env') : Prop := ∀ j ∈ js, e[j]? = some OD.h ∨ e[j]? = none
theorem hol_Hol {js e} (h : hol js e = true) : Hol js e := fun j hj => by
  have := List.all_eq_true.mp h j hj
  cases q : e[j]? with
  | none => exact .inr rfl
  | some x =>
    rw [q] at this
    cases x with
    | h => exact .inl rfl
    | _ => cases this
theorem clr_get : ∀ (js : List Nat) (e : Env') (i : Nat), e[i]? = some OD.h ∨ e[i]? = none → (clr js e)[i]? = some OD.h ∨ (clr js e)[i]? = none
  | [], _, _, h => h
  | j :: js, e, i, h => clr_get js _ i (by
      by_cases q : j = i
      · subst q
        by_cases hl : j < e.length
        · exact .inl (List.getElem?_set_self hl)
        · exact .inr (List.getElem?_eq_none (by simpa using hl))
      · rw [List.getElem?_set_ne q]; exact h)
theorem clr_Hol : ∀ (js : List Nat) (e : Env'), Hol js (clr js e)
  | [], _ => fun _ h => nomatch h
  | j :: js, e => fun i hi => by
    rcases List.mem_cons.mp hi with rfl | hi
    · refine clr_get js _ i ?_
      by_cases hl : i < e.length
      · exact .inl (List.getElem?_set_self hl)
      · exact .inr (List.getElem?_eq_none (by simpa using hl))
    · exact clr_Hol js _ i hi
theorem wipe_in {σ : L2.St} : ∀ {vs : List Nat} {i : Nat}, i ∈ vs → i < σ.length → (wipe σ vs)[i]? = some none
  | v :: vs, i, h, hl => by
    unfold wipe
    by_cases q : v = i
    · subst q; exact List.getElem?_set_self (by rw [wipe_length]; exact hl)
    · rw [List.getElem?_set_ne q]
      exact wipe_in ((List.mem_cons.mp h).resolve_left fun z => q z.symm) hl
def cpl (n : Nat) (js : List Nat) : List Nat := (List.range n).filter fun i => !js.contains i
theorem wipe_eq {σ σ2 : L2.St} {js : List Nat} {n : Nat} (hn : σ.length ≤ n) (b : Bk (cpl n js) (wipe σ js) σ2) : wipe σ2 js = wipe σ js := by
  have l2 : σ2.length = σ.length := b.1.trans (wipe_length σ js)
  apply List.ext_getElem?
  intro i
  by_cases hi : i < σ.length
  · by_cases hj : i ∈ js
    · rw [wipe_in hj (by omega), wipe_in hj hi]
    · rw [wipe_out hj]
      exact b.2 i (List.mem_filter.mpr ⟨List.mem_range.mpr (by omega), by simp [hj]⟩)
  · rw [List.getElem?_eq_none (by rw [wipe_length]; omega), List.getElem?_eq_none (by rw [wipe_length]; omega)]
abbrev W0 : WX := fun _ _ _ _ => False
section
variable {X : Cx} {W : WX} {pos : Pos}
abbrev DTs (X : Cx) (W : WX) (e : List Expr) (f : Env' → R Bool) : Prop := PTs X e (dTT X.K X.mg W f)
def tYs : Env' → R Bool := fun env => .ok true env
theorem dts_nil : DTs X W [] tYs := ⟨fun pins s σ H Q I ⟨F, env, fp, rs, o, h⟩ => pts_nil.run pins s σ H Q I (h F H fp (Stp.rfl' rs) o)⟩
theorem dts_one {c : Expr} {t} (h : DT X W c t) : DTs X W [c] t := pts_one h
theorem lc_core' {mg : Mg} {n : Nat} {js : List Nat} {it g t f} {σ : L2.St} {H : Hp} {Q : VK} (hn : σ.length ≤ n) : dTE K mg W (eLc js it g t f) σ H Q → tLc (dTI K mg W it) (dTG K (cpl n js) g) (dTT K mg W0 t) (dTE K mg W0 f) js σ H Q := fun ⟨F, env, fp, rs, o, h⟩ => by
  refine ⟨F, env, fp, rs, o, ?_⟩
  unfold eLc at h
  cases e : it env with
  | st => rw [e] at h; exact h.elim
  | ex C x e' => rw [e] at h; exact h
  | ok ds e0 =>
    rw [e, R.bind_ok] at h
    split at h
    case isFalse => exact h.elim
    rename_i hh
    cases el : lcGo js g t f ds e0 with
    | none => rw [el] at h; exact h.elim
    | some p =>
    obtain ⟨xsF, eF⟩ := p
    rw [el] at h
    have h : PoE K mg W F H fp σ Q (.ok (.l xsF) eF) := h
    intro J F0 H0 f0 s0 hJ o0 D hD
    have st0 := Stp.newOwn (o := .lst []) s0.rs hD
    have ow0 : Ows K F0 (upd H0 D (.lst [])) (wipe σ js) e0 f0 := by
      have o1 := o0.mono st0.inc (H' := upd H0 D (.lst [])) fun a q => upd_ne fun z => (s0.rs.own a q).2 (z ▸ hD)
      refine o1.only (by rw [wipe_length]; exact o0.len) fun i => ?_
      by_cases hj : i ∈ js
      · exact (hol_Hol hh.1 i hj).imp_right .inl
      · exact .inr (.inr ⟨rfl, wipe_out hj⟩)
    refine ⟨fun i m H1 => m = ds.length - i ∧ i ≤ ds.length ∧ ∃ F1 e1 f1 fa xs vs rest, Stp F H fp F1 H1 (Un2 (Un2 (fun b => b = D) fa) f1) ∧ ¬ fa D ∧ ¬ f1 D ∧ Dj fa f1 ∧ H1 D = some (.lst vs) ∧ Ows K F1 H1 (vs.map some) xs fa ∧ Ows K F1 H1 (wipe σ js) e1 f1 ∧ Hol js e1 ∧ Inc F0 F1 ∧ xs.length ≤ i ∧
      lcGo js g t f (ds.drop i) e1 = some (rest, eF) ∧ xsF = xs ++ rest, ⟨_, rfl, Nat.zero_le _, F0, e0, f0, NoFp, [], [], xsF, (s0.tr st0).less fun a q => q.elim (fun q => q.elim .inl False.elim) .inr, id, fun z => (s0.rs.own D z).2 hD, dj0, upd_same, .nil, ow0, hol_Hol hh.1, Inc.rfl', Nat.le_refl _, el, rfl⟩, ?_⟩
    rintro i m H1 ⟨hm, hle, F1, e1, f1, fa, xs, vs, rest, s1, na, nf, daf, hl, oa, o1, hol1, in1, hxl, eg, ex⟩
    have own1 : ∀ a, Un2 (Un2 (fun b => b = D) fa) f1 a → F1 a = none ∧ H1 a ≠ none := s1.rs.own
    obtain ⟨jg, jstop, jy⟩ := hJ F1 H1 in1 s1.rs.sub i
    by_cases hi : i < ds.length
    · refine .inr ⟨jg hi, ?_⟩
      have ed : ds.drop i = ds[i] :: ds.drop (i + 1) := List.drop_eq_getElem_cons hi
      rw [ed] at eg
      unfold lcGo at eg
      cases q : g (.p ds[i]) e1 with
      | none => rw [q] at eg; cases eg
      | some e2 =>
      rw [q] at eg
      dsimp only at eg
      refine ⟨fun H2 => ∃ F1 e1 f1 fa xs vs rest, Stp F H fp F1 H2 (Un2 (Un2 (fun b => b = D) fa) f1) ∧ ¬ fa D ∧ ¬ f1 D ∧ Dj fa f1 ∧ H2 D = some (.lst vs) ∧ Ows K F1 H2 (List.map some vs) xs fa ∧ Ows K F1 H2 (wipe σ js) e1 f1 ∧ Hol js e1 ∧ Inc F0 F1 ∧ xs.length ≤ i + 1 ∧
        lcGo js g t f (ds.drop (i + 1)) e1 = some (rest, eF) ∧ xsF = xs ++ rest, fun H2 h2 => ⟨ds.length - (i + 1), by omega, rfl, hi, h2⟩, fun x H' hy => ?_⟩
      obtain ⟨F2, s2, wx⟩ := jy ds[i] (List.getElem?_eq_getElem hi) x H' hy
      have s3 := (s2.frame (g := Un2 (Un2 (fun b => b = D) fa) f1) dj0' own1)
      have s4 : Stp F H fp F2 H' (Un2 (Un2 (fun b => b = D) fa) f1) := s1.tr ((s3.from fun a z => z.elim False.elim id).less fun a z => .inr z)
      have keep2 : ∀ a, Un2 (Un2 (fun b => b = D) fa) f1 a → H' a = H1 a := fun a z => (s2.keep a id (own1 a z).2).1
      have o2 := o1.mono s2.inc fun a z => keep2 a (.inr z)
      have oa2 := oa.mono s2.inc fun a z => keep2 a (.inl (.inr z))
      have hl2 := (keep2 D (.inl (.inl rfl))).trans hl
      refine ⟨F2, e1, NoFp, f1, .p ds[i], e2, ⟨s4.rs.sub, fun a z => z.elim False.elim fun z => s4.rs.own a (.inr z)⟩, dj0, .p wx, o2, q, fun σ2 f3 l3 o3 b3 => ⟨wipe_eq hn b3, ?_⟩⟩
      have l3' : ∀ a, f3 a → f1 a := fun a z => (l3 a z).elim False.elim id
      have back : ∀ {F5 H5 e5 f5}, Ows K F5 H5 σ2 e5 f5 → Ows K F5 H5 (wipe σ js) (clr js e5) f5 := fun {F5 H5 e5 f5} o5 => by
        refine (o5.clr (js := js)).only (by rw [← wipe_eq hn b3, wipe_length]; exact (o5.clr (js := js)).len) fun i => ?_
        by_cases hj : i ∈ js
        · exact (clr_Hol js e5 i hj).imp_right .inl
        · refine .inr (.inr ⟨rfl, ?_⟩)
          rw [← wipe_eq hn b3, wipe_out hj]
      have own2 : ∀ a, Un2 (fun b => b = D) fa a → F2 a = none ∧ H' a ≠ none := fun a z => s4.rs.own a (.inl z)
      have djf : Dj (Un2 (fun b => b = D) fa) f3 := fun a z z2 => z.elim (fun z => nf (z ▸ l3' a z2)) fun z => daf a z (l3' a z2)
      cases qt : t e2 with
      | st => rw [qt] at eg; cases eg
      | ex C y e3 => rw [qt] at eg; cases eg
      | ok b e3 =>
      refine ⟨F2, e2, f3, ⟨s4.rs.sub, fun a z => s4.rs.own a (.inr (l3' a z))⟩, o3, ?_⟩
      rw [qt] at eg ⊢
      intro F5 H5 f5 s5 o5
      have s5f := s5.frame djf own2
      have s6 : Stp F H fp F5 H5 (Un2 (Un2 (fun b => b = D) fa) f5) := s4.tr ((s5f.from fun a z => z.elim (fun z => .inr (l3' a z)) .inl).less fun a z => z.elim .inr .inl)
      have keep5 : ∀ a, Un2 (fun b => b = D) fa a → H5 a = H' a := fun a z => (s5.keep a (djf a z) (own2 a z).2).1
      have oa5 := oa2.mono s5.inc fun a z => keep5 a (.inr z)
      have hl5 := (keep5 D (.inl rfl)).trans hl2
      have nD5 : ¬ f5 D := fun z => s5.dj djf (fun a z => (own2 a z).2) D (.inl rfl) z
      have daf5 : Dj fa f5 := fun a z => s5.dj djf (fun a z => (own2 a z).2) a (.inr z)
      cases b with
      | false =>
        rw [if_neg Bool.false_ne_true]
        exact ⟨F5, clr js e3, f5, fa, xs, vs, rest, s6, na, nD5, daf5, hl5, oa5, back o5, clr_Hol js e3, (in1.tr s2.inc).tr s5.inc, by omega, eg, ex⟩
      | true =>
        rw [if_pos rfl]
        dsimp only at eg
        cases qf : f e3 with
        | st => rw [qf] at eg; cases eg
        | ex C y e4 => rw [qf] at eg; cases eg
        | ok x e4 =>
        rw [qf] at eg
        dsimp only at eg
        cases qr : lcGo js g t f (ds.drop (i + 1)) (clr js e4) with
        | none => rw [qr] at eg; cases eg
        | some pr =>
        rw [qr] at eg
        have eg : some (x :: pr.1, pr.2) = some (rest, eF) := eg
        have er : rest = x :: pr.1 := (congrArg Prod.fst (Option.some.inj eg)).symm
        have ef : pr.2 = eF := congrArg Prod.snd (Option.some.inj eg)
        refine ⟨F5, e3, f5, ⟨s6.rs.sub, fun a z => s6.rs.own a (.inr z)⟩, o5, ?_⟩
        rw [qf]
        intro y F7 H7 fy f7 s7 dj7 w7 o7
        have own5 : ∀ a, Un2 (fun b => b = D) fa a → F5 a = none ∧ H5 a ≠ none := fun a z => s6.rs.own a (.inl z)
        have dj5 : Dj (Un2 (fun b => b = D) fa) f5 := fun a z => z.elim (fun z => z ▸ nD5) fun z => daf5 a z
        have s7f := s7.frame dj5 own5
        have s8 : Stp F H fp F7 H7 (Un2 (Un2 fy f7) (Un2 (fun b => b = D) fa)) := s6.tr (s7f.from fun a z => z.elim .inr .inl)
        have keep7 : ∀ a, Un2 (fun b => b = D) fa a → H7 a = H5 a := fun a z => (s7.keep a (dj5 a z) (own5 a z).2).1
        have oa7 := oa5.mono s7.inc fun a z => keep7 a (.inr z)
        have hl7 := (keep7 D (.inl rfl)).trans hl5
        have d7 := s7.dj dj5 fun a z => (own5 a z).2
        have nDy : ¬ fy D := fun z => d7 D (.inl rfl) (.inl z)
        have nD7 : ¬ f7 D := fun z => d7 D (.inl rfl) (.inr z)
        have lv : vs.length = xs.length := ows_len oa
        refine ⟨vs, hl7, szlt (by omega), ?_⟩
        have stp := Stp.put (o := .lst (vs ++ [y])) s8.rs (a := D) (.inr (.inl rfl))
        have oA := Ows.app (Ows.one w7) oa7 (fun a z z2 => d7 a (.inr z2) (.inl z))
        rw [show List.map some vs ++ [some y] = List.map some (vs ++ [y]) by simp] at oA
        have oA' := oA.mono stp.inc (H' := upd H7 D (.lst (vs ++ [y]))) fun a z => upd_ne fun e => z.elim (fun z => na (e ▸ z)) fun z => nDy (e ▸ z)
        have o7' := o7.mono stp.inc (H' := upd H7 D (.lst (vs ++ [y]))) fun a z => upd_ne fun e => nD7 (e ▸ z)
        refine ⟨F7, clr js e4, f7, Un2 fa fy, xs ++ [x], vs ++ [y], pr.1, (s8.tr stp).less fun a z => ?_, fun z => z.elim na nDy, nD7, fun a z => z.elim (fun z z2 => d7 a (.inr z) (.inr z2)) (dj7 a), upd_same, oA', back o7', clr_Hol js e4, ((in1.tr s2.inc).tr s5.inc).tr s7.inc, by simp; omega, by rw [qr, ← ef], by rw [ex, er]; simp⟩
        rcases z with (z | z | z) | z
        · exact .inr (.inl z)
        · exact .inr (.inr z)
        · exact .inl (.inl z)
        · exact .inl (.inr z)
    · refine .inl ⟨jstop (by omega), ?_⟩
      rw [List.drop_eq_nil_of_le (by omega)] at eg
      have eg : some ([], e1) = some (rest, eF) := eg
      have er : rest = [] := (congrArg Prod.fst (Option.some.inj eg)).symm
      have ef : e1 = eF := congrArg Prod.snd (Option.some.inj eg)
      subst er ef
      rw [List.append_nil] at ex
      subst ex
      refine h (.ref D) F1 H1 (Un2 (fun b => b = D) fa) f1 s1 (fun a z z2 => z.elim (fun z => nf (z ▸ z2)) fun z => daf a z z2) (.l (.inl rfl) hl oa fun b z => ⟨.inr z, fun e => na (e ▸ z)⟩) (o1.only (by rw [← wipe_length σ js]; exact o1.len) fun i => ?_)
      by_cases hj : i ∈ js
      · exact (hol1 i hj).imp_right .inl
      · exact .inr (.inr ⟨rfl, (wipe_out hj).symm⟩)
theorem pe_weakI {e : Expr} {t u : TE} (h : PE X e t) (w : ∀ σ H Q, σ.length = X.N.length → u σ H Q → t σ H Q) : PE X e u := ⟨fun pins s σ H Q I q => h.run pins s σ H Q I (w σ H Q I.len q)⟩
theorem ps_weakI {e : Stmt} {t u : TS} (h : PS X e t) (w : ∀ D σ H, σ.length = X.N.length → u D σ H → t D σ H) : PS X e u := ⟨fun pins s σ H D I q => h.run pins s σ H D I (w D σ H I.len q)⟩
theorem de_lc {elt tg iter : Expr} {ifs : List Expr} {scope : Scope} {it g t f} (n : Nat) (own : List (Str × Nat)) (hc : X.calm = true) (hN : X.N.Nodup) (ok : BlkOk X.N X.env.scope scope own) (hi : DI X W tg iter it)
    (hg : ∀ (s : Shared) (H : Hp) (C : Addr) (cl : List (Str × Addr)) (fp : List Addr), DG (X.blk s H scope (compEnvC scope cl C X.env) fp) (cpl n (own.map (·.2))) tg g)
    (ht : ∀ (s : Shared) (H : Hp) (C : Addr) (cl : List (Str × Addr)) (fp : List Addr), DTs (X.blk s H scope (compEnvC scope cl C X.env) fp) W0 ifs t)
    (he : ∀ (s : Shared) (H : Hp) (C : Addr) (cl : List (Str × Addr)) (fp : List Addr), DE (X.blk s H scope (compEnvC scope cl C X.env) fp) W0 elt f)
    (hn : X.N.length = n := by rfl) (hs : ∀ x, foldedSetIterable iter X.env x = pure x := by intro _; rfl) : DE X W (.ListComp elt [⟨tg, iter, ifs, 0⟩] scope pos) (eLc (own.map (·.2)) it g t f) :=
  pe_weakI (pe_lc hc hN hi ok hg ht he hs) fun σ H Q hl => lc_core' (by omega)
theorem ds_setLc {elt tg iter : Expr} {ifs : List Expr} {scope : Scope} {it g t f} {B : List Nat} (i : Nat) {y : Str} {py spos : Pos} (n : Nat) (own : List (Str × Nat)) (hc : X.calm = true) (hN : X.N.Nodup) (ok : BlkOk X.N X.env.scope scope own) (hi : DI X W tg iter it)
    (hg : ∀ (s : Shared) (H : Hp) (C : Addr) (cl : List (Str × Addr)) (fp : List Addr), DG (X.blk s H scope (compEnvC scope cl C X.env) fp) (cpl n (own.map (·.2))) tg g)
    (ht : ∀ (s : Shared) (H : Hp) (C : Addr) (cl : List (Str × Addr)) (fp : List Addr), DTs (X.blk s H scope (compEnvC scope cl C X.env) fp) W0 ifs t)
    (he : ∀ (s : Shared) (H : Hp) (C : Addr) (cl : List (Str × Addr)) (fp : List Addr), DE (X.blk s H scope (compEnvC scope cl C X.env) fp) W0 elt f)
    (hsw : swapsWith (.ListComp elt [⟨tg, iter, ifs, 0⟩] scope pos) (some (.Name y py)) spos.line X.env = pure true) (hB : i ∉ B := by decide) (hy : X.N[i]? = some y := by rfl) (hyl : X.env.scope.names.lookup y = some .local := by rfl)
    (hn : X.N.length = n := by rfl) (hs : ∀ x, foldedSetIterable iter X.env x = pure x := by intro _; rfl) : DS X W B (.Assign [.Name y py] (.ListComp elt [⟨tg, iter, ifs, 0⟩] scope pos) spos) (sSet i (eLc (own.map (·.2)) it g t f)) :=
  ps_weakI (ps_setLc hc hN hy hyl hsw hi ok hg ht he hs) fun D σ H hl h => by
    have h2 := set_core (B := B) hB h
    exact lc_core' (n := n) (by omega) h2
end
end DL

namespace DL
variable {K : PySem.W.Frag}
open PySem PySem.Spec PyProof.Rows L2
section
variable {X : Cx} {W : WX} {B : List Nat} {pos : Pos}
theorem op_addD : OpR X (binaryOp .Add) rAdd := op_add.or (op_add_str.or op_cat)
theorem op_mulD : OpR X (binaryOp .Mult) rMul := (op_mulW.or op_mul).or op_rep
theorem dt_cmp {op : CmpOp} {r : R2} {g} {a b : Expr} {fa fb} (ho : OpR X (compareOp op) r) (hs : OpS X.K r g) (hm : behindInMarks op b = false) (ha : DV X W a fa) (hb : DV X W b fb) : DT X W (.Compare a [op] [b] pos) (eB (eBin g fa fb)) :=
  pt_weak (pt_cmpR ho ha hb hm) fun _ _ _ h => bin_core hs (bool_core h)
/-! ### slices -/
def dTO (K : PySem.W.Frag) (mg : Mg) (W : WX) (f : Env' → R (Option Int)) : TO := fun σ H Q => ∃ F env fp, RS F H fp ∧ Ows K F H σ env fp ∧ (match f env with
  | .st => False
  | .ok o env' => ∀ F' H' fp', Stp F H fp F' H' fp' → Ows K F' H' σ env' fp' → Q o H'
  | .ex C x env' => PoX K mg W F H fp σ C x env')
abbrev DO (X : Cx) (W : WX) (e : Option Expr) (f : Env' → R (Option Int)) : Prop := PO X e (dTO X.K X.mg W f)
def oNone : Env' → R (Option Int) := fun env => .ok none env
def oSome (f : Env' → R OD) : Env' → R (Option Int) := fun env => (f env).bind fun d e => match d with
  | .p (.int i) => .ok (some i) e
  | _ => .st
theorem po_weak {e : Option Expr} {t u : TO} (h : PO X e t) (w : ∀ σ H Q, u σ H Q → t σ H Q) : PO X e u := ⟨fun pins s σ H Q I q => h.run pins s σ H Q I (w σ H Q q)⟩
theorem po0 : DO X W none oNone := po_weak po_none fun σ H Q ⟨F, env, fp, rs, o, h⟩ => h F H fp (Stp.rfl' rs) o
theorem po1 {e : Expr} {f} (h : DE X W e f) : DO X W (some e) (oSome f) := po_weak (po_some h) fun σ H Q ⟨F, env, fp, rs, o, h⟩ => by
  refine ⟨F, env, fp, rs, o, ?_⟩
  unfold oSome at h
  cases e : f env with
  | st => rw [e] at h; exact h
  | ex C x e' => rw [e] at h; exact h
  | ok d e' =>
    rw [e, R.bind_ok] at h
    intro v F' H' fv fp' s dj w o'
    cases d with
    | p d =>
      cases d with
      | int i => cases Ow.int w; exact ⟨i, rfl, h F' H' fp' (s.less fun _ => .inr) o'⟩
      | _ => exact h.elim
    | _ => exact h.elim
theorem seqO {mg : Mg} {F H F1 H1 : Hp} {fp f1 fq : Fp} {σ : L2.St} {env1 : Env'} {f : Env' → R (Option Int)} {β : Type} {P : R β → Prop} {k : Option Int → Env' → R β} {Q1 : Option Int → Hp → Prop} (s : Stp F H fp F1 H1 fq) (l : ∀ a, f1 a → fq a) (o : Ows K F1 H1 σ env1 f1)
    (hs : P .st → False) (hx : ∀ C f e, P (.ex C f e) → PoX K mg W F H fp σ C f e) (h : P ((f env1).bind k))
    (c : ∀ d e' F' H' fp', Stp F1 H1 f1 F' H' fp' → Ows K F' H' σ e' fp' → P (k d e') → Q1 d H') : dTO K mg W f σ H1 Q1 := by
  refine ⟨F1, env1, f1, ⟨s.rs.sub, fun a q => s.rs.own a (l a q)⟩, o, ?_⟩
  cases e : f env1 with
  | st => rw [e] at h; exact (hs h).elim
  | ok d e' => rw [e] at h; exact fun F' H' fp' t o' => c d e' F' H' fp' t o' h
  | ex C x e' => rw [e] at h; exact (hx C x e' h).step s l
def cut {α : Type} (xs : List α) (lo hi : Option Int) : List α := (xs.drop (HT.sIx xs.length 0 lo)).take (HT.sIx xs.length xs.length hi - HT.sIx xs.length 0 lo)
def gSlice (x : OD) (lo hi : Option Int) : Option OD := match x with
  | .sc ns => some (.l ((cut ns lo hi).map fun i => .p (.int i)))
  | .p (.str z) => if z.length ≤ 100000 then some (oS (cutS z lo hi)) else none
  | x => (its x).map fun ds => .l ((cut ds lo hi).map .p)
def eSl (fv : Env' → R Opd) (fl fu : Env' → R (Option Int)) : Env' → R OD := fun env => (fv env).bind fun a e1 => (fl e1).bind fun l e2 => (fu e2).bind fun u e3 => match a.at e3 with
  | some x => R.of (gSlice x l u) e3
  | none => .st
theorem DdL.cut {F : Hp} {vs ds} (w : DdL F vs ds) (lo hi : Option Int) : DdL F (cutV vs lo hi) (DL.cut ds lo hi) := by
  unfold cutV DL.cut
  rw [w.len]
  exact (w.drop _).take _
theorem slice_sp {K : PySem.W.Frag} {F H : Hp} {v : V} {x : OD} {fx fp : Fp} {lo hi : Option Int} {d : OD} {Q : VK} (rs : RS F H fp) (o : Ow K F H v x fx) (e : gSlice x lo hi = some d)
    (k : ∀ v' F' H' f', Stp F H NoFp F' H' f' → Ow K F' H' v' d f' → Q v' H') : rSlL K v lo hi H Q ∨ rSlS v lo hi H Q := by
  unfold gSlice at e
  split at e
  · rename_i ns
    cases e
    cases o with
    | sc a =>
      refine .inl ⟨_, ns.map V.int, rfl, sqInc rs.sub a, ?_⟩
      have w : DdL F (cutV (ns.map V.int) lo hi) ((cut ns lo hi).map PyData.int) := by
        have e : cutV (ns.map V.int) lo hi = (cut ns lo hi).map V.int := by unfold cutV cut; simp [List.map_take, List.map_drop]
        rw [e]; exact DdL.of_ints
      rw [mapint] at k
      exact newL rs w k
  · split at e
    · rename_i q
      cases e
      exact .inr ⟨_, Ow.str o, szl q, k0 rs k (.p (.str _))⟩
    · cases e
  · cases q : its x with
    | none => rw [q] at e; cases e
    | some ds =>
      rw [q] at e; cases e
      obtain ⟨a, vs, rfl, h, w⟩ := its_at rs.sub o q
      exact .inl ⟨a, vs, rfl, SqL.of h, newL rs (w.cut lo hi) k⟩
theorem de_slice {e : Expr} {lo hi : Option Expr} {fv fl fu} {p2 : Pos} (he : DV X W e fv) (hl : DO X W lo fl) (hu : DO X W hi fu) : DE X W (.Subscript e (.Slice lo hi none p2) pos) (eSl fv fl fu) :=
  pe_weak (pe_slice (SlR.or sl_list sl_str) he hl hu) fun σ H Q ⟨F, env, fp, rs, o, h⟩ => by
    refine seqV (Stp.rfl' rs) (fun _ q => q) o (fun h => h) PoE.ex_ h fun a e1 v F1 H1 fv f1 s1 dj1 w1 o1 h1 => ?_
    have own : ∀ a, fv a → F1 a = none ∧ H1 a ≠ none := fun a q => s1.rs.own a (.inl q)
    refine seqO s1 (fun _ q => .inr q) o1 (fun h => h) PoE.ex_ h1 fun l e2 F2 H2 f2 s2 o2 h2 => ?_
    have w2 := w1.step s2 dj1 (fun a q => (own a q).2)
    have s3 : Stp F H fp F2 H2 (Un2 f2 fv) := s1.tr ((s2.frame dj1 own).from fun a q => q.elim .inr .inl)
    have dj2 := s2.dj dj1 fun a q => (own a q).2
    have own2 : ∀ a, fv a → F2 a = none ∧ H2 a ≠ none := fun a q => s3.rs.own a (.inr q)
    refine seqO s3 (fun _ q => .inl q) o2 (fun h => h) PoE.ex_ h2 fun u e3 F3 H3 f3 s4 o3 h3 => ?_
    have w3 := w2.step s4 dj2 (fun a q => (own2 a q).2)
    have s5 : Stp F H fp F3 H3 (Un2 f3 fv) := s3.tr (s4.frame dj2 own2)
    cases ea : a.at e3 with
    | none => rw [ea] at h3; exact h3.elim
    | some x =>
      rw [ea] at h3
      dsimp only at h3
      cases eg : gSlice x l u with
      | none => rw [eg] at h3; exact h3.elim
      | some d =>
        rw [eg] at h3
        obtain ⟨fx, ox, lx⟩ := w3.look o3 ea
        exact slice_sp s5.rs ox eg (h3.fin s5 (fun a q => .inl q) o3)
def gRev (x : OD) : Option OD := (its x).map fun ds => .l (ds.reverse.map .p)
theorem DdL.rev {F : Hp} : ∀ {vs ds}, DdL F vs ds → DdL F vs.reverse ds.reverse
  | _, _, .nil => .nil
  | _, _, .cons h t => by
    rw [List.reverse_cons, List.reverse_cons]
    exact t.rev.app (.cons h .nil)
theorem de_rev {e : Expr} {fv} {k : Nat} {p1 p2 p3 : Pos} (he : DV X W e fv) : DE X W (.Subscript e (.Slice none none (some (.UnaryOp .USub (.Constant (.int 1) k p1) p2)) p3) pos) (eUn gRev fv) :=
  pe_weak (pe_revL he) fun σ H Q h => un_core (r := fun x H1 Q => ∃ a xs, x = .ref a ∧ SqL X.K H1 a xs ∧ ∀ p, H1 p = none → Q (.ref p) (upd H1 p (.lst xs.reverse))) (g := gRev) (fun F H v x fx fp d Q rs lx o e k => by
    unfold gRev at e
    cases q : its x with
    | none => rw [q] at e; cases e
    | some ds =>
      rw [q] at e; cases e
      obtain ⟨a, vs, rfl, h, w⟩ := its_at rs.sub o q
      exact ⟨a, vs, rfl, SqL.of h, newL rs w.rev k⟩) h
theorem outE2 {mg : Mg} {F H F1 H1 : Hp} {fp f1 fq : Fp} {σ : L2.St} {env1 : Env'} {D : Ends} {f : Env' → R OD} {k : OD → Env' → Out} {Q1 : VK} (s : Stp F H fp F1 H1 fq) (l : ∀ a, f1 a → fq a) (o : Ows K F1 H1 σ env1 f1) (h : PoS K mg W B F H fp σ D ((f env1).out k))
    (c : ∀ d e' v F' H' fv fp', Stp F1 H1 f1 F' H' (Un2 fv fp') → Dj fv fp' → Ow K F' H' v d fv → Ows K F' H' σ e' fp' → PoS K mg W B F H fp σ D (k d e') → Q1 v H') : dTE K mg W f σ H1 Q1 := by
  refine ⟨F1, env1, f1, ⟨s.rs.sub, fun a q => s.rs.own a (l a q)⟩, o, ?_⟩
  cases e : f env1 with
  | st => rw [e] at h; exact h.elim
  | ok d e' => rw [e] at h; exact fun v F' H' fv fp' t dj w o' => c d e' v F' H' fv fp' t dj w o' h
  | ex C x e' => rw [e] at h; exact PoX.step (C := C) (f := x) s l h.ex_
/-! ### x[i] = e -/
def itmOut (i : Nat) (d : OD) (k : OD) (e : Env') : Out := match k, lk e i with
  | .p (.int n), some (.l xs) => match ixN xs.length n with
    | some j => .nx (e.set i (.l (xs.set j d)))
    | none => .st
  | _, _ => .st
def sItem (i : Nat) (f fi : Env' → R OD) : Env' → Out := fun env => (f env).out fun d e1 => match lk e1 i with
  | some (.l _) => (fi e1).out fun k e2 => itmOut i d k e2
  | _ => .st
theorem ds_item (i : Nat) {x : Str} {e ie : Expr} {f fi} {px ps : Pos} (he : DE X W e f) (hi : DE X W ie fi) (hN : X.N[i]? = some x := by rfl) (hv : Vis X.env.scope x := by first | exact Or.inl rfl | exact Or.inr (Or.inl rfl) | exact Or.inr (Or.inr rfl)) (hd : (x == ("__debug__" : Str)) = false := by decide)
    (hcd : (x == ("__classdict__" : Str)) = false := by decide) (ha : ∀ v, assign (.Subscript (.Name x px) ie ps) X.env v = (do
      let ov ← holding [v] (eval (.Name x px) X.env)
      let iv ← holding [v, ov] (eval ie X.env)
      standAt ps
      holding [v, ov, iv] (setItem ov iv v)
      release [v, ov, iv] []) := by intro _; rfl)
    (hs : swapsWithSole [.Subscript (.Name x px) ie ps] e pos.line X.env = pure false := by rfl) (hw : swappedStores [.Subscript (.Name x px) ie ps] e X.env = pure none := by rfl)
    (h1 : (assignEach [.Subscript (.Name x px) ie ps] X.env).map (·.2) = [assign (.Subscript (.Name x px) ie ps) X.env] := by rfl) :
    DS X W B (.Assign [.Subscript (.Name x px) ie ps] e pos) (sItem i f fi) := ps_weak (ps_asg he (pg_sub (pe_var hN hv hd hcd) hi set_list ha) hs hw h1) fun D σ H ⟨F, env, fp, rs, o, h⟩ => by
  refine outE rs o h fun d e1 v F1 H1 fv f1 s1 dj1 w1 o1 h1 => ?_
  have own : ∀ a, fv a → F1 a = none ∧ H1 a ≠ none := fun a q => s1.rs.own a (.inl q)
  cases e0 : lk e1 i with
  | none => rw [e0] at h1; exact h1.elim
  | some x0 =>
    rw [e0] at h1
    cases x0 with
    | l xs0 =>
      dsimp only at h1
      obtain ⟨q1, n1⟩ := lk_some e0
      obtain ⟨u, g1, g2, hu, w0, _⟩ := o1.get q1 n1
      refine ⟨u, hu, ?_⟩
      refine outE2 s1 (fun _ z => .inr z) o1 h1 fun k e2 v2 F2 H2 f3 f2 s2 dj2 w2 o2 h3 => ?_
      have w1' := w1.step s2 dj1 (fun a q => (own a q).2)
      have d3 := s2.dj dj1 fun a q => (own a q).2
      have s3 := s2.frame dj1 own
      unfold itmOut at h3
      split at h3
      · rename_i n xs e4
        split at h3
        · rename_i j ej
          obtain ⟨q3, n3⟩ := lk_some e4
          obtain ⟨u', k1, k2, hu', w4, orest, l1, l2, dk⟩ := o2.get q3 n3
          rw [hu] at hu'; cases hu'
          cases w4 with
          | l fa ha wl hd =>
            rename_i a ws fq
            cases Ow.int w2
            have dvq : Dj fv fq := fun b z z2 => d3 b z (.inr (l1 b (hd b z2).1))
            have ol := Ows.store w1' j wl dvq
            rw [← List.map_set] at ol
            refine ⟨a, ws, n, j, rfl, rfl, ha, by rw [ows_len wl]; exact ej, ?_⟩
            have ai : f2 a := l1 a fa
            have rs3 : RS F2 H2 (Un2 (Un2 f3 f2) fv) := s3.rs
            have nv : ∀ b, fv b → b ≠ a := fun b z e => d3 b z (.inr (e ▸ ai))
            have st := Stp.put (o := .lst (ws.set j v)) rs3 (a := a) (.inl (.inr ai))
            have ol' := ol.mono st.inc (H' := upd H2 a (.lst (ws.set j v))) fun b z => upd_ne (z.elim (nv b) fun z => (hd b z).2)
            have or' := orest.mono st.inc (H' := upd H2 a (.lst (ws.set j v))) fun b z => upd_ne fun e => dk a fa (e ▸ z)
            have wn : Ow X.K F2 (upd H2 a (.lst (ws.set j v))) (.ref a) (.l (xs.set j d)) (Un2 (fun b => b = a) (Un2 fv fq)) := .l (.inl rfl) upd_same ol' fun b z => ⟨.inr z, z.elim (nv b) fun z => (hd b z).2⟩
            have dn : Dj (Un2 (fun b => b = a) (Un2 fv fq)) k2 := fun b z z2 => z.elim (fun e => dk a fa (e ▸ z2)) fun z => z.elim (fun z => d3 b z (.inr (l2 b z2))) fun z => dk b (hd b z).1 z2
            have op := Ows.put wn or' hu dn
            rw [List.set_set] at op
            have sF := (s1.tr (s3.from fun b z => z.elim .inr .inl)).tr st
            refine h3 σ F2 _ _ (sF.less fun b z => ?_) op Bk.id'
            rcases z with (z | z | z) | z
            · exact .inl (.inr (z ▸ ai))
            · exact .inr z
            · exact .inl (.inr (l1 b (hd b z).1))
            · exact .inl (.inr (l2 b z))
        · exact h3.elim
      · exact h3.elim
    | _ => exact h1.elim
end
end DL

namespace DL
open PySem PySem.Spec PyProof.Rows L2
/-! ### the law's own promise, and the end -/
def spL (K : PySem.W.Frag) : Sp := fun vs H Q _ => ∃ (a : Addr) (ns : List Int), vs = [V.ref a] ∧ SqL K H a (ns.map V.int) ∧ ns.length ≤ 63 ∧ ∀ H', Q (.bl true) H'
/-- the law's worth is True at every script -/
def LawTrue (φ : Fn) : Prop := ∀ ns : List Int, ns.length ≤ 63 → ∃ e, φ [.sc ns] = .ok (oB true) e
theorem law_fn {P : Program} {w : World} {K : PySem.W.Frag} {mg : Mg} {base : Heap} {k : Nat} {f : Addr} {fd : FuncData} {ps : List Str} {φ : Fn} (F : FnOk P w K mg base (L2.CX P w) k f fd ps (spD K mg 1 φ)) (h : LawTrue φ) :
    FnOk P w K mg base (L2.CX P w) k f fd ps (spL K) := F.imp fun vs H Q E ⟨a, ns, e1, e2, e3, q⟩ => by
  subst e1
  obtain ⟨e, he⟩ := h ns e3
  refine ⟨rfl, H, [.sc ns], fun _ => False, ⟨Inc.rfl', fun _ z => z.elim⟩, Ows.one (.sc e2), ?_⟩
  rw [he]
  intro v F' H' fv fp' s dj w o
  cases Ow.bl w
  exact q H'
theorem cx_no {P : Program} {w : World} {l : List Env} {H : Hp} {s s' : Shared} {e : Value} (h : L2.CX P w l H s (fun _ _ _ => False) e s') : False := by
  obtain ⟨_, _, _, _, _, _, _, _, _, _, _, _, z⟩ := h
  exact z
theorem def_mk {P : Program} {w : World} {K : PySem.W.Frag} {mg : Mg} {base : Heap} {x : Str} {n k : Nat} {φ : Fn} {f : Addr} {fd : FuncData} {ps : List Str} (m : mg x = some (.ref f)) (F : FnOk P w K mg base (L2.CX P w) k f fd ps (spD K mg n φ)) (b : Binds K fd ps []) (kp : PySem.W.keepIn K (.ref f) = true) :
    Def P w K mg base x n φ k := ⟨f, fd, ps, m, F, b, kp⟩
end DL

namespace DL
variable {K : PySem.W.Frag}
open PySem PySem.Spec PyProof.Rows L2
/-! ### loops over a name's list: the list is not frozen, it has to stand as it is -/
def itsA : OD → Option (List PyData)
  | .p (.list ds) => some ds
  | .l xs => allp xs
  | _ => none
theorem seqA_at {F H : Hp} {v x ds fx} (s : Inc F H) (w : Ow K F H v x fx) (e : itsA x = some ds) : ∃ a vs, v = .ref a ∧ H a = some (.lst vs) ∧ DdL F vs ds := by
  cases w with
  | h => cases e
  | sc => cases e
  | er => cases e
  | ob => cases e
  | t => cases e
  | p w =>
    cases w with
    | lst a b => cases e; exact ⟨_, _, rfl, s _ _ a, b⟩
    | _ => cases e
  | l a b c d =>
    have q := allp_eq (show allp _ = some ds from e)
    subst q
    exact ⟨_, _, rfl, b, c.pure⟩
/-- what a walk yields, of a list that stands -/
def JA (K : PySem.W.Frag) (J : Addr → It) (κ : List PyData → List PyData) : Prop := ∀ F H a vs ds, H a = some (.lst vs) → Inc F H → DdL F vs ds → ∀ i : Nat, (i < (κ ds).length → (J a).go i H) ∧ ((κ ds).length ≤ i → (J a).stop i H) ∧
  ∀ d, (κ ds)[i]? = some d → ∀ x H', (J a).yld i H x H' → ∃ F', Stp F H NoFp F' H' NoFp ∧ Dd F' x d
theorem ja_list : JA K (Itl K) id := fun F H a vs ds h i2 w i => by
  have hH : SqL K H a vs := SqL.of h
  refine ⟨fun hi => ?_, fun hi => ⟨vs, hH, by rw [w.len]; exact hi⟩, fun d hd x H' hy => ?_⟩
  · obtain ⟨d, hd⟩ : ∃ d, ds[i]? = some d := ⟨_, List.getElem?_eq_getElem hi⟩
    obtain ⟨v, hv, _⟩ := w.get hd
    exact ⟨vs, v, hH, hv⟩
  · obtain ⟨rfl, hx⟩ := hy
    obtain ⟨v, hv, q⟩ := w.get hd
    have := hx vs hH
    rw [hv] at this; cases this
    exact ⟨F, Stp.rfl' ⟨i2, fun _ z => z.elim⟩, q⟩
theorem ja_enum : JA K (Ite K) (enumL 0) := fun F H a vs ds h i2 w i => by
  have hH : SqL K H a vs := SqL.of h
  rw [enumL_len]
  refine ⟨fun hi => ?_, fun hi => ⟨vs, hH, by rw [w.len]; exact hi⟩, fun d hd x H' hy => ?_⟩
  · obtain ⟨d, hd⟩ : ∃ d, ds[i]? = some d := ⟨_, List.getElem?_eq_getElem hi⟩
    obtain ⟨v, hv, _⟩ := w.get hd
    exact ⟨vs, v, hH, hv⟩
  · obtain ⟨e, he, rfl⟩ := enumL_get ds 0 i hd
    obtain ⟨T, y, rfl, hT, rfl, hx⟩ := hy
    obtain ⟨v, hv, q⟩ := w.get he
    have ev : v = y := Option.some.inj (hv.symm.trans (hx vs hH))
    subst ev
    have st := Stp.newPure (o := .tup [.int (i : Nat), v]) (fp := NoFp) ⟨i2, fun _ z => z.elim⟩ hT
    rw [Nat.zero_add]
    exact ⟨_, st, .tup upd_same (.cons (.int _) (.cons (q.inc st.inc) .nil))⟩
open Classical in
noncomputable def forGoA (i : Nat) (x : OD) (g : Tg) (f : Env' → Out) : List PyData → Env' → Out
  | [], e => if lk e i = some x then .nx e else .st
  | d :: ds, e => if lk e i = some x then (match g (.p d) e with
    | none => .st
    | some e1 => (f e1).seq (forGoA i x g f ds)) else .st
noncomputable def sForA (κ : List PyData → List PyData) (i : Nat) (fall : Env' → Out) (g : Tg) (f : Env' → Out) : Env' → Out := fun env => match lk env i with
  | none => .st
  | some x => match itsA x with
    | some ds => forGoA i x g f (κ ds) env
    | none => fall env
def tIA (K : PySem.W.Frag) (i : Nat) (J : Addr → It) : TI := fun σ H Q => ∃ a vs, σ[i]? = some (some (.ref a)) ∧ SqL K H a vs ∧ Q (J a) H
theorem PoS.up {mg : Mg} {W : WX} {B B' : List Nat} {F H : Hp} {fp : Fp} {σ : L2.St} {D : Ends} {o : Out} (l : ∀ i, i ∈ B → i ∈ B') (h : PoS K mg W B F H fp σ D o) : PoS K mg W B' F H fp σ D o := by
  have up : ∀ σ', Bk B' σ σ' → Bk B σ σ' := fun σ' b => ⟨b.1, fun i hi => b.2 i (l i hi)⟩
  cases o with
  | st => exact h
  | nx e => exact fun σ' F' H' fp' t o b' => h σ' F' H' fp' t o (up _ b')
  | rt d e => exact fun v σ' F' H' fv fp' t dj w o b' => h v σ' F' H' fv fp' t dj w o (up _ b')
  | ex C f e => exact fun σ' F' H' fp' t o b' => h σ' F' H' fp' t o (up _ b')
theorem forA_core {mg : Mg} {W : WX} {B : List Nat} {κ : List PyData → List PyData} {J : Addr → It} (ja : JA K J κ) (i : Nat) {fall g f} {tf : TI} {D : Ends} {σ : L2.St} {H : Hp}
    (hf : dTS K mg W (i :: B) fall D σ H → tFor tf (dTG K (i :: B) g) (dTS K mg W (i :: B) f) D σ H) :
    dTS K mg W B (sForA κ i fall g f) D σ H → tFor (fun σ H Q => tIA K i J σ H Q ∨ tf σ H Q) (dTG K (i :: B) g) (dTS K mg W (i :: B) f) D σ H := fun ⟨F, env, fp, rs, o, h⟩ => by
  have h := h.up (B' := i :: B) fun j z => List.mem_cons_of_mem _ z
  unfold sForA at h
  cases e0 : lk env i with
  | none => rw [e0] at h; exact h.elim
  | some x =>
    rw [e0] at h
    dsimp only at h
    cases q : itsA x with
    | none => rw [q] at h; exact .inr (hf ⟨F, env, fp, rs, o, h⟩)
    | some ds0 =>
      rw [q] at h
      dsimp only at h
      obtain ⟨n1, n2⟩ := lk_some e0
      obtain ⟨v, g1, g2, hv, w0, _⟩ := o.get n1 n2
      obtain ⟨a, vs, rfl, ha, _⟩ := seqA_at rs.sub w0 q
      refine .inl ⟨a, vs, hv, SqL.of ha, ?_⟩
      have jy0 : ∀ F1 H1 σ1 e1 f1, Inc F1 H1 → Ows K F1 H1 σ1 e1 f1 → σ1[i]? = σ[i]? → lk e1 i = some x → ∀ k : Nat, (k < (κ ds0).length → (J a).go k H1) ∧ ((κ ds0).length ≤ k → (J a).stop k H1) ∧
          ∀ d, (κ ds0)[k]? = some d → ∀ y H', (J a).yld k H1 y H' → ∃ F', Stp F1 H1 NoFp F' H' NoFp ∧ Dd F' y d := fun F1 H1 σ1 e1 f1 i2 o1 hs hl k => by
        obtain ⟨m1, m2⟩ := lk_some hl
        obtain ⟨v1, _, _, hv1, w1, _⟩ := o1.get m1 m2
        rw [hs, hv] at hv1; cases hv1
        obtain ⟨a1, vs1, ea, ha1, wd⟩ := seqA_at i2 w1 q
        cases ea
        exact ja F1 H1 a vs1 ds0 ha1 i2 wd k
      generalize κ ds0 = ds at *
      refine ⟨fun k m σ1 H1 => m = ds.length - k ∧ ∃ F1 e1 f1, RS F1 H1 f1 ∧ Ows K F1 H1 σ1 e1 f1 ∧ σ1[i]? = σ[i]? ∧ PoS K mg W (i :: B) F1 H1 f1 σ1 D (forGoA i x g f (ds.drop k) e1), ⟨_, rfl, F, env, fp, rs, o, rfl, h⟩, fun k m σ1 H1 ⟨hm, F1, e1, f1, r1, o1, hs1, h1⟩ => ?_⟩
      by_cases hl : lk e1 i = some x
      case neg =>
        have : forGoA i x g f (ds.drop k) e1 = .st := by
          cases ds.drop k with
          | nil => unfold forGoA; exact if_neg hl
          | cons => unfold forGoA; exact if_neg hl
        rw [this] at h1; exact h1.elim
      obtain ⟨jg, js, jy⟩ := jy0 F1 H1 σ1 e1 f1 r1.sub o1 hs1 hl k
      by_cases hi : k < ds.length
      · refine .inr ⟨jg hi, ?_⟩
        have ed : ds.drop k = ds[k] :: ds.drop (k + 1) := List.drop_eq_getElem_cons hi
        rw [ed] at h1
        unfold forGoA at h1
        rw [if_pos hl] at h1
        cases q : g (.p ds[k]) e1 with
        | none => rw [q] at h1; exact h1.elim
        | some e2 =>
          rw [q] at h1
          dsimp only at h1
          refine ⟨fun σ2 H2 => ∃ F2 e2 f2, RS F2 H2 f2 ∧ Ows K F2 H2 σ2 e2 f2 ∧ σ2[i]? = σ[i]? ∧ PoS K mg W (i :: B) F2 H2 f2 σ2 D (forGoA i x g f (ds.drop (k + 1)) e2), fun σ2 H2 h2 => ⟨ds.length - (k + 1), by omega, rfl, h2⟩, fun y H' hy => ?_⟩
          obtain ⟨F2, s2, wx⟩ := jy ds[k] (List.getElem?_eq_getElem hi) y H' hy
          have own : ∀ a, f1 a → F1 a = none ∧ H1 a ≠ none := r1.own
          have s3 := (s2.frame (g := f1) dj0' own)
          have s3' : Stp F1 H1 f1 F2 H' f1 := (s3.from fun a z => z.elim False.elim _root_.id).less fun a z => .inr z
          have o2 := o1.step s2 dj0' fun a q => (own a q).2
          refine ⟨F2, e1, NoFp, f1, .p ds[k], e2, ⟨s3.rs.sub, fun a z => z.elim False.elim (s3'.rs.own a)⟩, dj0, .p wx, o2, q, fun σ2 f3 l3 o3 b3 => ?_⟩
          have l3' : ∀ a, f3 a → f1 a := fun a z => (l3 a z).elim False.elim _root_.id
          have h2 := h1.step s3' l3' b3
          refine ⟨F2, e2, f3, ⟨s3'.rs.sub, fun a z => s3'.rs.own a (l3' a z)⟩, o3, ?_⟩
          have hs2 : σ2[i]? = σ[i]? := (b3.2 i List.mem_cons_self).trans hs1
          cases q2 : f e2 with
          | st => rw [q2] at h2; exact h2.elim
          | nx e4 =>
            rw [q2] at h2
            exact fun σ4 F4 H4 f4 s4 o4 b4 => ⟨F4, e4, f4, s4.rs, o4, (b4.2 i List.mem_cons_self).trans hs2, h2.step s4 (fun _ z => z) b4⟩
          | rt d e4 => rw [q2] at h2; exact h2
          | ex C y e4 => rw [q2] at h2; exact h2
      · refine .inl ⟨js (by omega), ?_⟩
        rw [List.drop_eq_nil_of_le (by omega)] at h1
        unfold forGoA at h1
        rw [if_pos hl] at h1
        exact h1 σ1 F1 H1 f1 (Stp.rfl' r1) o1 Bk.id'
section
variable {X : Cx} {W : WX} {B : List Nat} {pos : Pos}
/-- a walk over a name's list -/
structure DIA (X : Cx) (W : WX) (tg e : Expr) (i : Nat) (κ : List PyData → List PyData) (fit : Env' → R (List PyData)) : Prop where
  ex : ∃ J, JA X.K J κ ∧ PI X tg e (tIA X.K i J)
  fa : DI X W tg e fit
theorem dia_name (i : Nat) {x : Str} {p : Pos} {tg : Expr} (hN : X.N[i]? = some x := by rfl) (hv : Vis X.env.scope x := by first | exact Or.inl rfl | exact Or.inr (Or.inl rfl) | exact Or.inr (Or.inr rfl)) (hd : (x == ("__debug__" : Str)) = false := by decide) (hcd : (x == ("__classdict__" : Str)) = false := by decide) :
    DIA X W tg (.Name x p) i id (iSeq (eVar i)) := ⟨⟨Itl X.K, ja_list, pi_weak (pi_list (pe_var hN hv hd hcd)) fun σ H Q ⟨a, vs, h1, h2, h3⟩ => ⟨.ref a, h1, a, rfl, ⟨vs, h2⟩, h3⟩⟩, di_seq (de_var i hN hv hd hcd)⟩
theorem dia_enum (i : Nat) {elts : List Expr} {kk : Nat} {x : Str} {p p2 pos tpos : Pos} (hg : Gl X "enumerate") (hm : X.mg "enumerate" = none) (hN : X.N[i]? = some x := by rfl) (hv : Vis X.env.scope x := by first | exact Or.inl rfl | exact Or.inr (Or.inl rfl) | exact Or.inr (Or.inr rfl)) (hd : (x == ("__debug__" : Str)) = false := by decide) (hcd : (x == ("__classdict__" : Str)) = false := by decide)
    (hs : starEach [.Name x p2] X.env = (false, eval (.Name x p2) X.env) :: starEach [] X.env := by rfl) :
    DIA X W (.Tuple elts kk tpos) (.Call (.Name "enumerate" p) [.Name x p2] [] pos) i (enumL 0) (iEnu (aCons (eVar i) aNil)) :=
  ⟨⟨Ite X.K, ja_enum, pi_weak (pi_enum hg hm (pa_cons (pe_var hN hv hd hcd) pa_nil hs) hs) fun σ H Q ⟨a, vs, h1, h2, h3⟩ => ⟨.ref a, h1, a, vs, rfl, h2, h3⟩⟩, di_enum hg hm (da_cons (de_var i hN hv hd hcd) da_nil hs) hs⟩
theorem ds_forA {tg iter : Expr} {body : List Stmt} {i : Nat} {κ fit g f} (hp : PassesOwn (model X.prog X.w) X.A X.env X.xe) (hc : X.calm = true) (hi : DIA X W tg iter i κ fit) (hg : DG X (i :: B) tg g) (hb : DSs X W (i :: B) body f) (hs : ∀ x, foldedSetIterable iter X.env x = pure x := by intro _; rfl) :
    DS X W B (.For tg iter body [] pos) (sForA κ i (sFor fit g f) g f) := by
  obtain ⟨⟨J, ja, h1⟩, h2⟩ := hi
  exact ps_weak (ps_for hp hc (PI.or h1 h2) hg hb hs) fun D σ H => forA_core ja i fun h => for_core h
end
end DL

namespace DL
variable {K : PySem.W.Frag}
open PySem PySem.Spec PyProof.Rows L2
/-! ### comprehensions over a name's list that stands as it is -/
open Classical in
noncomputable def lcGoA (i : Nat) (x0 : OD) (js : List Nat) (g : Tg) (t : Env' → R Bool) (f : Env' → R OD) : List PyData → Env' → Option (List OD × Env')
  | [], e => if lk e i = some x0 then some ([], e) else none
  | d :: ds, e => if lk e i = some x0 then (match g (.p d) e with
    | none => none
    | some e1 => match t e1 with
      | .ok true e2 => match f e2 with
        | .ok x e3 => (lcGoA i x0 js g t f ds (clr js e3)).map fun p => (x :: p.1, p.2)
        | _ => none
      | .ok false e2 => lcGoA i x0 js g t f ds (clr js e2)
      | _ => none) else none
noncomputable def eLcA (κ : List PyData → List PyData) (i : Nat) (js : List Nat) (fit : Env' → R (List PyData)) (g : Tg) (t : Env' → R Bool) (f : Env' → R OD) : Env' → R OD := fun env => match lk env i with
  | none => .st
  | some x0 => match itsA x0 with
    | some ds => if hol js env = true ∧ (κ ds).length ≤ 40000 ∧ js.contains i = false then lcOut (lcGoA i x0 js g t f (κ ds) env) else .st
    | none => eLc js fit g t f env
section
variable {X : Cx} {W : WX} {pos : Pos}
theorem lcA_core {mg : Mg} {n : Nat} {κ : List PyData → List PyData} {J : Addr → It} (ja : JA K J κ) (si : Nat) {js : List Nat} {fit g t f} {σ : L2.St} {H : Hp} {Q : VK} (hn : σ.length ≤ n) : dTE K mg W (eLcA κ si js fit g t f) σ H Q → tLc (fun σ H Q => tIA K si J σ H Q ∨ dTI K mg W fit σ H Q) (dTG K (cpl n js) g) (dTT K mg W0 t) (dTE K mg W0 f) js σ H Q := fun ⟨F, env, fp, rs, o, h⟩ => by
  unfold eLcA at h
  cases e0 : lk env si with
  | none => rw [e0] at h; exact h.elim
  | some x0 =>
  rw [e0] at h
  dsimp only at h
  cases q0 : itsA x0 with
  | none => rw [q0] at h; exact .inr (lc_core' hn ⟨F, env, fp, rs, o, h⟩)
  | some ds0 =>
    rw [q0] at h
    dsimp only at h
    obtain ⟨n1, n2⟩ := lk_some e0
    obtain ⟨v0, g1, g2, hv, w0, _⟩ := o.get n1 n2
    obtain ⟨a0, vs0, rfl, ha0, _⟩ := seqA_at rs.sub w0 q0
    refine .inl ⟨a0, vs0, hv, SqL.of ha0, ?_⟩
    have jy0 : ∀ F1 H1 σ1 e1 f1, Inc F1 H1 → Ows K F1 H1 σ1 e1 f1 → σ1[si]? = σ[si]? → lk e1 si = some x0 → ∀ k : Nat, (k < (κ ds0).length → (J a0).go k H1) ∧ ((κ ds0).length ≤ k → (J a0).stop k H1) ∧
        ∀ d, (κ ds0)[k]? = some d → ∀ y H', (J a0).yld k H1 y H' → ∃ F', Stp F1 H1 NoFp F' H' NoFp ∧ Dd F' y d := fun F1 H1 σ1 e1 f1 i2 o1 hs hl k => by
      obtain ⟨m1, m2⟩ := lk_some hl
      obtain ⟨v1, _, _, hv1, w1, _⟩ := o1.get m1 m2
      rw [hs, hv] at hv1; cases hv1
      obtain ⟨a1, vs1, ea, ha1, wd⟩ := seqA_at i2 w1 q0
      cases ea
      exact ja F1 H1 a0 vs1 ds0 ha1 i2 wd k
    generalize κ ds0 = ds at *
    split at h
    case isFalse => exact h.elim
    rename_i hh
    have hsi : (wipe σ js)[si]? = σ[si]? := wipe_out fun z => by
      have := hh.2.2
      rw [List.contains_iff_mem.mpr z] at this
      cases this
    cases el : lcGoA si x0 js g t f ds env with
    | none => rw [el] at h; exact h.elim
    | some p =>
    obtain ⟨xsF, eF⟩ := p
    rw [el] at h
    have h : PoE K mg W F H fp σ Q (.ok (.l xsF) eF) := h
    have s0 := Stp.rfl' rs
    have o0 := o
    intro D hD
    have st0 := Stp.newOwn (o := .lst []) s0.rs hD
    have ow0 : Ows K F (upd H D (.lst [])) (wipe σ js) env fp := by
      have o1 := o0.mono st0.inc (H' := upd H D (.lst [])) fun a q => upd_ne fun z => (rs.own a q).2 (z ▸ hD)
      refine o1.only (by rw [wipe_length]; exact o0.len) fun i => ?_
      by_cases hj : i ∈ js
      · exact (hol_Hol hh.1 i hj).imp_right .inl
      · exact .inr (.inr ⟨rfl, wipe_out hj⟩)
    refine ⟨fun i m H1 => m = ds.length - i ∧ i ≤ ds.length ∧ ∃ F1 e1 f1 fa xs vs rest, Stp F H fp F1 H1 (Un2 (Un2 (fun b => b = D) fa) f1) ∧ ¬ fa D ∧ ¬ f1 D ∧ Dj fa f1 ∧ H1 D = some (.lst vs) ∧ Ows K F1 H1 (vs.map some) xs fa ∧ Ows K F1 H1 (wipe σ js) e1 f1 ∧ Hol js e1 ∧ Inc F F1 ∧ xs.length ≤ i ∧
      lcGoA si x0 js g t f (ds.drop i) e1 = some (rest, eF) ∧ xsF = xs ++ rest, ⟨_, rfl, Nat.zero_le _, F, env, fp, NoFp, [], [], xsF, (s0.tr st0).less fun a q => q.elim (fun q => q.elim .inl False.elim) .inr, id, fun z => (rs.own D z).2 hD, dj0, upd_same, .nil, ow0, hol_Hol hh.1, Inc.rfl', Nat.le_refl _, el, rfl⟩, ?_⟩
    rintro i m H1 ⟨hm, hle, F1, e1, f1, fa, xs, vs, rest, s1, na, nf, daf, hl, oa, o1, hol1, in1, hxl, eg, ex⟩
    have own1 : ∀ a, Un2 (Un2 (fun b => b = D) fa) f1 a → F1 a = none ∧ H1 a ≠ none := s1.rs.own
    by_cases hl0 : lk e1 si = some x0
    case neg =>
      have : lcGoA si x0 js g t f (ds.drop i) e1 = none := by
        cases ds.drop i with
        | nil => unfold lcGoA; exact if_neg hl0
        | cons => unfold lcGoA; exact if_neg hl0
      rw [this] at eg; cases eg
    obtain ⟨jg, jstop, jy⟩ := jy0 F1 H1 _ e1 f1 s1.rs.sub o1 hsi hl0 i
    by_cases hi : i < ds.length
    · refine .inr ⟨jg hi, ?_⟩
      have ed : ds.drop i = ds[i] :: ds.drop (i + 1) := List.drop_eq_getElem_cons hi
      rw [ed] at eg
      unfold lcGoA at eg
      rw [if_pos hl0] at eg
      cases q : g (.p ds[i]) e1 with
      | none => rw [q] at eg; cases eg
      | some e2 =>
      rw [q] at eg
      dsimp only at eg
      refine ⟨fun H2 => ∃ F1 e1 f1 fa xs vs rest, Stp F H fp F1 H2 (Un2 (Un2 (fun b => b = D) fa) f1) ∧ ¬ fa D ∧ ¬ f1 D ∧ Dj fa f1 ∧ H2 D = some (.lst vs) ∧ Ows K F1 H2 (List.map some vs) xs fa ∧ Ows K F1 H2 (wipe σ js) e1 f1 ∧ Hol js e1 ∧ Inc F F1 ∧ xs.length ≤ i + 1 ∧
        lcGoA si x0 js g t f (ds.drop (i + 1)) e1 = some (rest, eF) ∧ xsF = xs ++ rest, fun H2 h2 => ⟨ds.length - (i + 1), by omega, rfl, hi, h2⟩, fun x H' hy => ?_⟩
      obtain ⟨F2, s2, wx⟩ := jy ds[i] (List.getElem?_eq_getElem hi) x H' hy
      have s3 := (s2.frame (g := Un2 (Un2 (fun b => b = D) fa) f1) dj0' own1)
      have s4 : Stp F H fp F2 H' (Un2 (Un2 (fun b => b = D) fa) f1) := s1.tr ((s3.from fun a z => z.elim False.elim id).less fun a z => .inr z)
      have keep2 : ∀ a, Un2 (Un2 (fun b => b = D) fa) f1 a → H' a = H1 a := fun a z => (s2.keep a id (own1 a z).2).1
      have o2 := o1.mono s2.inc fun a z => keep2 a (.inr z)
      have oa2 := oa.mono s2.inc fun a z => keep2 a (.inl (.inr z))
      have hl2 := (keep2 D (.inl (.inl rfl))).trans hl
      refine ⟨F2, e1, NoFp, f1, .p ds[i], e2, ⟨s4.rs.sub, fun a z => z.elim False.elim fun z => s4.rs.own a (.inr z)⟩, dj0, .p wx, o2, q, fun σ2 f3 l3 o3 b3 => ⟨wipe_eq hn b3, ?_⟩⟩
      have l3' : ∀ a, f3 a → f1 a := fun a z => (l3 a z).elim False.elim id
      have back : ∀ {F5 H5 e5 f5}, Ows K F5 H5 σ2 e5 f5 → Ows K F5 H5 (wipe σ js) (clr js e5) f5 := fun {F5 H5 e5 f5} o5 => by
        refine (o5.clr (js := js)).only (by rw [← wipe_eq hn b3, wipe_length]; exact (o5.clr (js := js)).len) fun i => ?_
        by_cases hj : i ∈ js
        · exact (clr_Hol js e5 i hj).imp_right .inl
        · refine .inr (.inr ⟨rfl, ?_⟩)
          rw [← wipe_eq hn b3, wipe_out hj]
      have own2 : ∀ a, Un2 (fun b => b = D) fa a → F2 a = none ∧ H' a ≠ none := fun a z => s4.rs.own a (.inl z)
      have djf : Dj (Un2 (fun b => b = D) fa) f3 := fun a z z2 => z.elim (fun z => nf (z ▸ l3' a z2)) fun z => daf a z (l3' a z2)
      cases qt : t e2 with
      | st => rw [qt] at eg; cases eg
      | ex C y e3 => rw [qt] at eg; cases eg
      | ok b e3 =>
      refine ⟨F2, e2, f3, ⟨s4.rs.sub, fun a z => s4.rs.own a (.inr (l3' a z))⟩, o3, ?_⟩
      rw [qt] at eg ⊢
      intro F5 H5 f5 s5 o5
      have s5f := s5.frame djf own2
      have s6 : Stp F H fp F5 H5 (Un2 (Un2 (fun b => b = D) fa) f5) := s4.tr ((s5f.from fun a z => z.elim (fun z => .inr (l3' a z)) .inl).less fun a z => z.elim .inr .inl)
      have keep5 : ∀ a, Un2 (fun b => b = D) fa a → H5 a = H' a := fun a z => (s5.keep a (djf a z) (own2 a z).2).1
      have oa5 := oa2.mono s5.inc fun a z => keep5 a (.inr z)
      have hl5 := (keep5 D (.inl rfl)).trans hl2
      have nD5 : ¬ f5 D := fun z => s5.dj djf (fun a z => (own2 a z).2) D (.inl rfl) z
      have daf5 : Dj fa f5 := fun a z => s5.dj djf (fun a z => (own2 a z).2) a (.inr z)
      cases b with
      | false =>
        rw [if_neg Bool.false_ne_true]
        exact ⟨F5, clr js e3, f5, fa, xs, vs, rest, s6, na, nD5, daf5, hl5, oa5, back o5, clr_Hol js e3, (in1.tr s2.inc).tr s5.inc, by omega, eg, ex⟩
      | true =>
        rw [if_pos rfl]
        dsimp only at eg
        cases qf : f e3 with
        | st => rw [qf] at eg; cases eg
        | ex C y e4 => rw [qf] at eg; cases eg
        | ok x e4 =>
        rw [qf] at eg
        dsimp only at eg
        cases qr : lcGoA si x0 js g t f (ds.drop (i + 1)) (clr js e4) with
        | none => rw [qr] at eg; cases eg
        | some pr =>
        rw [qr] at eg
        have eg : some (x :: pr.1, pr.2) = some (rest, eF) := eg
        have er : rest = x :: pr.1 := (congrArg Prod.fst (Option.some.inj eg)).symm
        have ef : pr.2 = eF := congrArg Prod.snd (Option.some.inj eg)
        refine ⟨F5, e3, f5, ⟨s6.rs.sub, fun a z => s6.rs.own a (.inr z)⟩, o5, ?_⟩
        rw [qf]
        intro y F7 H7 fy f7 s7 dj7 w7 o7
        have own5 : ∀ a, Un2 (fun b => b = D) fa a → F5 a = none ∧ H5 a ≠ none := fun a z => s6.rs.own a (.inl z)
        have dj5 : Dj (Un2 (fun b => b = D) fa) f5 := fun a z => z.elim (fun z => z ▸ nD5) fun z => daf5 a z
        have s7f := s7.frame dj5 own5
        have s8 : Stp F H fp F7 H7 (Un2 (Un2 fy f7) (Un2 (fun b => b = D) fa)) := s6.tr (s7f.from fun a z => z.elim .inr .inl)
        have keep7 : ∀ a, Un2 (fun b => b = D) fa a → H7 a = H5 a := fun a z => (s7.keep a (dj5 a z) (own5 a z).2).1
        have oa7 := oa5.mono s7.inc fun a z => keep7 a (.inr z)
        have hl7 := (keep7 D (.inl rfl)).trans hl5
        have d7 := s7.dj dj5 fun a z => (own5 a z).2
        have nDy : ¬ fy D := fun z => d7 D (.inl rfl) (.inl z)
        have nD7 : ¬ f7 D := fun z => d7 D (.inl rfl) (.inr z)
        have lv : vs.length = xs.length := ows_len oa
        refine ⟨vs, hl7, szlt (by omega), ?_⟩
        have stp := Stp.put (o := .lst (vs ++ [y])) s8.rs (a := D) (.inr (.inl rfl))
        have oA := Ows.app (Ows.one w7) oa7 (fun a z z2 => d7 a (.inr z2) (.inl z))
        rw [show List.map some vs ++ [some y] = List.map some (vs ++ [y]) by simp] at oA
        have oA' := oA.mono stp.inc (H' := upd H7 D (.lst (vs ++ [y]))) fun a z => upd_ne fun e => z.elim (fun z => na (e ▸ z)) fun z => nDy (e ▸ z)
        have o7' := o7.mono stp.inc (H' := upd H7 D (.lst (vs ++ [y]))) fun a z => upd_ne fun e => nD7 (e ▸ z)
        refine ⟨F7, clr js e4, f7, Un2 fa fy, xs ++ [x], vs ++ [y], pr.1, (s8.tr stp).less fun a z => ?_, fun z => z.elim na nDy, nD7, fun a z => z.elim (fun z z2 => d7 a (.inr z) (.inr z2)) (dj7 a), upd_same, oA', back o7', clr_Hol js e4, ((in1.tr s2.inc).tr s5.inc).tr s7.inc, by simp; omega, by rw [qr, ← ef], by rw [ex, er]; simp⟩
        rcases z with (z | z | z) | z
        · exact .inr (.inl z)
        · exact .inr (.inr z)
        · exact .inl (.inl z)
        · exact .inl (.inr z)
    · refine .inl ⟨jstop (by omega), ?_⟩
      rw [List.drop_eq_nil_of_le (by omega)] at eg
      unfold lcGoA at eg
      rw [if_pos hl0] at eg
      have er : rest = [] := (congrArg Prod.fst (Option.some.inj eg)).symm
      have ef : e1 = eF := congrArg Prod.snd (Option.some.inj eg)
      subst er ef
      rw [List.append_nil] at ex
      subst ex
      refine h (.ref D) F1 H1 (Un2 (fun b => b = D) fa) f1 s1 (fun a z z2 => z.elim (fun z => nf (z ▸ z2)) fun z => daf a z z2) (.l (.inl rfl) hl oa fun b z => ⟨.inr z, fun e => na (e ▸ z)⟩) (o1.only (by rw [← wipe_length σ js]; exact o1.len) fun i => ?_)
      by_cases hj : i ∈ js
      · exact (hol1 i hj).imp_right .inl
      · exact .inr (.inr ⟨rfl, (wipe_out hj).symm⟩)
theorem de_lcA {elt tg iter : Expr} {ifs : List Expr} {scope : Scope} {i : Nat} {κ fit g t f} (n : Nat) (own : List (Str × Nat)) (hc : X.calm = true) (hN : X.N.Nodup) (ok : BlkOk X.N X.env.scope scope own) (hi : DIA X W tg iter i κ fit)
    (hg : ∀ (s : Shared) (H : Hp) (C : Addr) (cl : List (Str × Addr)) (fp : List Addr), DG (X.blk s H scope (compEnvC scope cl C X.env) fp) (cpl n (own.map (·.2))) tg g)
    (ht : ∀ (s : Shared) (H : Hp) (C : Addr) (cl : List (Str × Addr)) (fp : List Addr), DTs (X.blk s H scope (compEnvC scope cl C X.env) fp) W0 ifs t)
    (he : ∀ (s : Shared) (H : Hp) (C : Addr) (cl : List (Str × Addr)) (fp : List Addr), DE (X.blk s H scope (compEnvC scope cl C X.env) fp) W0 elt f)
    (hn : X.N.length = n := by rfl) (hs : ∀ x, foldedSetIterable iter X.env x = pure x := by intro _; rfl) : DE X W (.ListComp elt [⟨tg, iter, ifs, 0⟩] scope pos) (eLcA κ i (own.map (·.2)) fit g t f) := by
  obtain ⟨⟨J, ja, h1⟩, h2⟩ := hi
  exact pe_weakI (pe_lc hc hN (PI.or h1 h2) ok hg ht he hs) fun σ H Q hl => lcA_core ja i (by omega)
theorem ds_setLcA {elt tg iter : Expr} {ifs : List Expr} {scope : Scope} {i : Nat} {κ fit g t f} {B : List Nat} (k : Nat) {y : Str} {py spos : Pos} (n : Nat) (own : List (Str × Nat)) (hc : X.calm = true) (hN : X.N.Nodup) (ok : BlkOk X.N X.env.scope scope own) (hi : DIA X W tg iter i κ fit)
    (hg : ∀ (s : Shared) (H : Hp) (C : Addr) (cl : List (Str × Addr)) (fp : List Addr), DG (X.blk s H scope (compEnvC scope cl C X.env) fp) (cpl n (own.map (·.2))) tg g)
    (ht : ∀ (s : Shared) (H : Hp) (C : Addr) (cl : List (Str × Addr)) (fp : List Addr), DTs (X.blk s H scope (compEnvC scope cl C X.env) fp) W0 ifs t)
    (he : ∀ (s : Shared) (H : Hp) (C : Addr) (cl : List (Str × Addr)) (fp : List Addr), DE (X.blk s H scope (compEnvC scope cl C X.env) fp) W0 elt f)
    (hsw : swapsWith (.ListComp elt [⟨tg, iter, ifs, 0⟩] scope pos) (some (.Name y py)) spos.line X.env = pure true) (hB : k ∉ B := by decide) (hy : X.N[k]? = some y := by rfl) (hyl : X.env.scope.names.lookup y = some .local := by rfl)
    (hn : X.N.length = n := by rfl) (hs : ∀ x, foldedSetIterable iter X.env x = pure x := by intro _; rfl) : DS X W B (.Assign [.Name y py] (.ListComp elt [⟨tg, iter, ifs, 0⟩] scope pos) spos) (sSet k (eLcA κ i (own.map (·.2)) fit g t f)) := by
  obtain ⟨⟨J, ja, h1⟩, h2⟩ := hi
  exact ps_weakI (ps_setLc hc hN hy hyl hsw (PI.or h1 h2) ok hg ht he hs) fun D σ H hl h => by
    have h2 := set_core (B := B) hB h
    exact lcA_core ja i (n := n) (by omega) h2
/-- a value made by itself, frozen -/
def eFz (f : Env' → R OD) : Env' → R OD := fun env => (f env).bind fun d e => match frz d with
  | some d' => .ok (.p d') e
  | none => .ok d e
theorem de_fz {e : Expr} {f} (h : DE X W e f) : DE X W e (eFz f) := pe_weak h fun σ H Q ⟨F, env, fp, rs, o, q⟩ => by
  refine ⟨F, env, fp, rs, o, ?_⟩
  unfold eFz at q
  cases e0 : f env with
  | st => rw [e0] at q; exact q.elim
  | ex C x e' => rw [e0] at q; exact q
  | ok d e' =>
    rw [e0, R.bind_ok] at q
    cases e1 : frz d with
    | none => rw [e1] at q; exact q
    | some d' =>
      rw [e1] at q
      intro v F' H' fv fp' s dj w o'
      have st := Stp.freeze s.rs dj
      refine q v (DL.fz F' H' fv) H' NoFp fp' ((s.tr st).less fun a z => z.elim False.elim fun z => z) (fun _ z => z.elim) (.p (w.fz s.rs.sub (fun _ z => z) e1)) (o'.mono st.inc fun _ _ => rfl)
end
end DL

namespace DL
variable {K : PySem.W.Frag}
open PySem PySem.Spec PyProof.Rows L2
/-! ### a method on an item of a name's list or tuple: the whole is held apart while the arguments are worked out -/
def prtO : OD → Option (List OD)
  | .l xs => some xs
  | .t xs => some xs
  | _ => none
def reOD : OD → List OD → OD
  | .l _, xs => .l xs
  | _, xs => .t xs
/-- the parts of a whole -/
def Whole (F H : Hp) (g : Fp) (x : OD) (c : Addr) (vs : List V) (gx : Fp) : Prop := ((∃ xs, x = .t xs) ∧ F c = some (.tup vs)) ∨ ((∃ xs, x = .l xs) ∧ g c ∧ H c = some (.lst vs) ∧ ¬ gx c)
theorem Ow.whole {F H : Hp} {v x xs} {g : Fp} (w : Ow K F H v x g) (e : prtO x = some xs) : ∃ c vs gx, v = .ref c ∧ Ows K F H (vs.map some) xs gx ∧ (∀ b, gx b → g b) ∧ Whole F H g x c vs gx := by
  cases w with
  | h => cases e
  | p => cases e
  | sc => cases e
  | er => cases e
  | ob => cases e
  | l a b c d => cases e; exact ⟨_, _, _, rfl, c, fun b z => (d b z).1, .inr ⟨⟨_, rfl⟩, a, b, fun z => (d _ z).2 rfl⟩⟩
  | t a b => cases e; exact ⟨_, _, _, rfl, b, fun _ z => z, .inl ⟨⟨_, rfl⟩, a⟩⟩
theorem Whole.re {F H H' : Hp} {g gx gx' : Fp} {x : OD} {c : Addr} {vs : List V} {xs' : List OD} (h : Whole F H g x c vs gx) (k : g c → H' c = H c) (o : Ows K F H' (vs.map some) xs' gx') (n : ∀ b, gx' b → g b) (nc : (∃ xs, x = .l xs) → ¬ gx' c) : Ow K F H' (.ref c) (reOD x xs') g := by
  rcases h with ⟨⟨xs, rfl⟩, h⟩ | ⟨⟨xs, rfl⟩, gc, h, _⟩
  · exact .t h (o.weak n)
  · exact .l gc ((k gc).trans h) o fun b z => ⟨n b z, fun e => nc ⟨_, rfl⟩ (e ▸ z)⟩
def eMutI (i : Nat) (k : Int) (g : Mu) (f : Env' → R (List OD)) : Env' → R OD := fun env => match lk env i with
  | none => .st
  | some x => match prtO x with
    | none => .st
    | some xs => match ixN xs.length k with
      | none => .st
      | some j => match xs[j]? with
        | some (.l ys) => (f (env.set i .h)).bind fun zs e => match g ys zs with
          | some (res, ys') => .ok res (e.set i (reOD x (xs.set j (.l ys'))))
          | none => .st
        | _ => .st
theorem mutI_core {W : WX} {mg : Mg} {i : Nat} {k : Int} {r g f} {tb : TE} (hs : MuS K r g) (htb : ∀ σ H Q, Q (.int k) H → tb σ H Q) {σ : L2.St} {H : Hp} {Q : VK} : dTE K mg W (eMutI i k g f) σ H Q → tBM K "list" r (tOp (rIx K) (tVar i) tb) (dTA K mg W f) σ H Q := fun ⟨F, env, fp, rs, o, h⟩ => by
  unfold eMutI at h
  cases e0 : lk env i with
  | none => rw [e0] at h; exact h.elim
  | some x =>
  rw [e0] at h
  dsimp only at h
  cases e1 : prtO x with
  | none => rw [e1] at h; exact h.elim
  | some xs =>
  rw [e1] at h
  dsimp only at h
  cases e2 : ixN xs.length k with
  | none => rw [e2] at h; exact h.elim
  | some j =>
  rw [e2] at h
  dsimp only at h
  cases e3 : xs[j]? with
  | none => rw [e3] at h; exact h.elim
  | some y =>
  rw [e3] at h
  cases y with
  | l ys =>
    dsimp only at h
    obtain ⟨n1, n2⟩ := lk_some e0
    obtain ⟨v, g1, g2, hv, w0, orest, l1, l2, dg⟩ := o.get n1 n2
    obtain ⟨c, vs, gx, rfl, ox, lx, wh⟩ := w0.whole e1
    obtain ⟨u, k1, k2, hu, wu, _, m1, _, _⟩ := ox.get e3 (fun z => nomatch z)
    have vl : vs.length = xs.length := ows_len ox
    rw [List.getElem?_map] at hu
    have hu' : vs[j]? = some u := by
      cases q : vs[j]? with
      | none => rw [q] at hu; cases hu
      | some z => rw [q] at hu; cases hu; rfl
    have at_ : atI vs k = some u := by
      unfold atI
      rw [vl, e2]; exact hu'
    cases wu with
    | l fa ha wl hd =>
      rename_i a ws0 fq0
      have own1 : ∀ b, g1 b → F b = none ∧ H b ≠ none := fun b z => rs.own b (l1 b z)
      have ix : rIx K (.ref c) (.int k) H (fun x H1 => tyV K "list" x H1 ∧ dTA K mg W f σ H1 fun xs H2 => r x xs H2 Q) := by
        have q : tyV K "list" (.ref a) H ∧ dTA K mg W f σ H fun xs H2 => r (.ref a) xs H2 Q := by
          refine ⟨.inl ⟨rfl, _, SqL.of ha⟩, ?_⟩
          have st0 : Stp F H fp F H g2 := (Stp.rfl' rs).less l2
          refine seqA st0 (fun _ q => q) orest (fun h => h) PoE.ex_ h fun zs e' vz F1 H1 fv f1 s1 dj1 w1 o1 h1 => ?_
          cases eg : g ys zs with
          | none => rw [eg] at h1; exact h1.elim
          | some p =>
            obtain ⟨res, ys'⟩ := p
            rw [eg] at h1
            dsimp only at h1
            -- the whole stands as it was
            have keep1 : ∀ b, g1 b → H1 b = H b := fun b z => (s1.keep b (dg b z) (own1 b z).2).1
            have d1 : Dj g1 (Un2 fv f1) := s1.dj dg fun b z => (own1 b z).2
            have sf := s1.frame dg own1
            have ox1 : Ows K F1 H1 (vs.map some) xs gx := ox.mono s1.inc fun b z => keep1 b (lx b z)
            have wh1 : Whole F1 H1 g1 x c vs gx := wh.imp (fun ⟨p, q⟩ => ⟨p, s1.inc _ _ q⟩) fun ⟨p, q, z, t⟩ => ⟨p, q, (keep1 c q).trans z, t⟩
            obtain ⟨u1, q1, q2, hu1, wu1, or1, m1', m2', md'⟩ := ox1.get e3 (fun z => nomatch z)
            rw [List.getElem?_map, hu'] at hu1
            cases hu1
            cases wu1 with
            | l fa1 ha1 wl1 hd1 =>
              rename_i ws fq
              have ga : g1 a := lx a (m1' a fa1)
              have dqv : Dj fq fv := fun b z z2 => d1 b (lx b (m1' b (hd1 b z).1)) (.inl z2)
              refine hs F1 H1 a ws ys vz zs fq fv res ys' Q s1.rs.sub ha1 wl1 w1 dqv eg fun ws' t f3 f4 o3 w4 d34 l3 l4 => ?_
              have na3 : ∀ b, Un2 fq fv b → b ≠ a := fun b z e => z.elim (fun z => (hd1 b z).2 e) fun z => d1 a ga (.inl (e ▸ z))
              have st := Stp.put (o := .lst ws') sf.rs (a := a) (.inr ga)
              have up : ∀ b, b ≠ a → upd H1 a (.lst ws') b = H1 b := fun b e => upd_ne e
              have o3' := o3.mono st.inc (H' := upd H1 a (.lst ws')) fun b z => up b (na3 b (l3 b z))
              have w4' := w4.mono st.inc (H' := upd H1 a (.lst ws')) fun b z => up b (na3 b (l4 b z))
              have or' := or1.mono st.inc (H' := upd H1 a (.lst ws')) fun b z => up b fun e => md' a fa1 (e ▸ z)
              have oe := o1.mono st.inc (H' := upd H1 a (.lst ws')) fun b z => up b fun e => d1 a ga (.inr (e ▸ z))
              have wn : Ow K F1 (upd H1 a (.lst ws')) (.ref a) (.l ys') (Un2 (fun b => b = a) f3) := .l (.inl rfl) upd_same o3' fun b z => ⟨.inr z, na3 b (l3 b z)⟩
              have dn : Dj (Un2 (fun b => b = a) f3) q2 := fun b z z2 => z.elim (fun e => md' a fa1 (e ▸ z2)) fun z => (l3 b z).elim (fun z => md' b (hd1 b z).1 z2) fun z => d1 b (lx b (m2' b z2)) (.inl z)
              have op := Ows.put (i := j) wn or' (by rw [List.getElem?_map, hu']; rfl) dn
              rw [List.set_set] at op
              -- the whole again: what it holds now
              let G : Fp := fun b => Un2 f3 g1 b ∧ ¬ f4 b
              have q2f4 : ∀ b, q2 b → ¬ f4 b := fun b z z4 => (l4 b z4).elim (fun z => md' b (hd1 b z).1 ‹_›) fun z => d1 b (lx b (m2' b ‹_›)) (.inl z)
              have wo : Ow K F1 (upd H1 a (.lst ws')) (.ref c) (reOD x (xs.set j (.l ys'))) G := by
                have whE : Whole F1 H1 G x c vs gx := wh1.imp (fun z => z) fun ⟨p, q, z, t⟩ => ⟨p, ⟨.inr q, fun z4 => (l4 c z4).elim (fun z => t (m1' c (hd1 c z).1)) fun z => d1 c q (.inl z)⟩, z, t⟩
                refine whE.re (fun _ => ?_) op (fun b z => ?_) fun hx z => ?_
                · rcases wh1 with ⟨_, hF⟩ | ⟨_, gc, _, nc⟩
                  · exact up c fun e => by
                      have := (s1.rs.sub _ _ hF)
                      rw [e, ha1] at this; cases this
                  · exact up c fun e => nc (e ▸ m1' a fa1)
                · rcases z with (z | z) | z
                  · exact ⟨.inr (z ▸ ga), fun z4 => na3 b (l4 b z4) z⟩
                  · exact ⟨.inl z, fun z4 => d34 b z z4⟩
                  · exact ⟨.inr (lx b (m2' b z)), q2f4 b z⟩
                · rcases wh1 with ⟨⟨_, e⟩, _⟩ | ⟨_, gc, _, nc⟩
                  · obtain ⟨_, e'⟩ := hx; rw [e] at e'; cases e'
                  · rcases z with (z | z) | z
                    · exact nc (z ▸ m1' a fa1)
                    · exact (l3 c z).elim (fun z => nc (m1' c (hd1 c z).1)) fun z => d1 c gc (.inl z)
                    · exact nc (m2' c z)
              have up2 : ∀ b, Un2 fq fv b → ¬ f1 b := fun b z z2 => z.elim (fun z => d1 b (lx b (m1' b (hd1 b z).1)) (.inr z2)) fun z => dj1 b z z2
              have dw : Dj G f1 := fun b z z2 => z.1.elim (fun z => up2 b (l3 b z) z2) fun z => d1 b z (.inr z2)
              have hold : Ows K F1 (upd H1 a (.lst ws')) σ (e'.set i (reOD x (xs.set j (.l ys')))) (Un2 G f1) := Ows.put wo oe hv dw
              have total : Stp F H fp F1 (upd H1 a (.lst ws')) (Un2 (Un2 fv f1) g1) := ((Stp.rfl' rs).less (fun b (z : Un2 g2 g1 b) => z.elim (l2 b) (l1 b))).tr (sf.tr st)
              have up3 : ∀ b, Un2 fq fv b → Un2 (Un2 fv f1) g1 b := fun b z => z.elim (fun z => .inr (lx b (m1' b (hd1 b z).1))) fun z => .inl (.inl z)
              refine h1 t F1 _ f4 (Un2 G f1) (total.less fun b z => ?_) (fun b z z2 => ?_) w4' hold
              · rcases z with z | (z | z)
                · exact up3 b (l4 b z)
                · exact z.1.elim (fun z => up3 b (l3 b z)) .inr
                · exact .inl (.inr z)
              · rcases z2 with z2 | z2
                · exact z2.2 z
                · exact up2 b (l4 b z) z2
        rcases wh with ⟨_, hF⟩ | ⟨_, _, hH, _⟩
        · exact .inr (.inl ⟨c, vs, k, .ref a, rfl, rfl, SqT.of (rs.sub _ _ hF), at_, q⟩)
        · exact .inl ⟨c, vs, k, .ref a, rfl, rfl, SqL.of hH, at_, q⟩
      exact ⟨.ref c, hv, htb _ _ _ ix⟩
  | _ => exact h.elim
section
variable {X : Cx} {W : WX} {pos : Pos}
/-- a whole number, written -/
structure Lit (X : Cx) (e : Expr) (k : Int) : Prop where
  ex : ∃ tb, PE X e tb ∧ ∀ σ H (Q : VK), Q (.int k) H ↔ tb σ H Q
  pl : PlainIx e
theorem lit_nat {k : Int} {n : Nat} {p : Pos} : Lit X (.Constant (.int k) n p) k := ⟨⟨_, pe_int, fun _ _ _ => Iff.rfl⟩, fun _ _ => rfl⟩
theorem lit_neg {k : Int} {n : Nat} {p p2 : Pos} : Lit X (.UnaryOp .USub (.Constant (.int k) n p) p2) (-k) := ⟨⟨_, pe_un un_neg pe_int, fun _ _ _ => ⟨fun h => ⟨k, rfl, h⟩, fun ⟨j, e, h⟩ => by cases e; exact h⟩⟩, fun _ _ => rfl⟩
theorem de_mutI (i : Nat) (k : Int) {x name : Str} {id : String} {r g f} {ie e : Expr} {es : List Expr} {p apos ipos cpos : Pos} (hk : Lit X ie k) (slot : Slot "list" name id) (hty : typeOf (.builtin id) = pure (.type "method_descriptor")) (hm : MtR X id r) (hs : MuS X.K r g) (ha : DA X W (e :: es) f)
    (hN : X.N[i]? = some x := by rfl) (hv : Vis X.env.scope x := by first | exact Or.inl rfl | exact Or.inr (Or.inl rfl) | exact Or.inr (Or.inr rfl)) (hd : (x == ("__debug__" : Str)) = false := by decide) (hcd : (x == ("__classdict__" : Str)) = false := by decide)
    (hbase : attributeBase (.Subscript (.Name x p) ie ipos) name X.env (eval (.Subscript (.Name x p) ie ipos) X.env) = eval (.Subscript (.Name x p) ie ipos) X.env := by rfl)
    (hfew : ((backTo cpos (starEach (e :: es) X.env)).all (fun x => !x.1) && (backToKw cpos (keywordEach [] X.env)).all (fun x => x.1.isSome)
      && decide ((e :: es).length + ([] : List Keyword).length + (if ([] : List Keyword).isEmpty then 0 else 1) < 30)) = true := by rfl)
    (hline : (apos.endLine == cpos.line) = true := by rfl) (hst : starEach (e :: es) X.env = (false, eval e X.env) :: starEach es X.env := by rfl) (hpl : (backTo cpos (starEach es X.env)).any (·.1) = false := by rfl) :
    DE X W (.Call (.Attribute (.Subscript (.Name x p) ie ipos) name apos) (e :: es) [] cpos) (eMutI i k g f) := by
  obtain ⟨⟨tb, h1, h2⟩, h3⟩ := hk
  exact pe_weak (pe_bm PySem.F.plainAttrs_list slot hty hm (pe_ix ix_seq (pe_var hN hv hd hcd) h1 h3) ha hbase hfew hline hst hpl) fun _ _ _ => mutI_core hs fun σ H Q => (h2 σ H Q).1
theorem de_mutI0 (i : Nat) (k : Int) {x name : Str} {id : String} {r g} {ie : Expr} {p apos ipos cpos : Pos} (hk : Lit X ie k) (slot : Slot "list" name id) (hty : typeOf (.builtin id) = pure (.type "method_descriptor")) (hm : MtR X id r) (hs : MuS X.K r g)
    (hN : X.N[i]? = some x := by rfl) (hv : Vis X.env.scope x := by first | exact Or.inl rfl | exact Or.inr (Or.inl rfl) | exact Or.inr (Or.inr rfl)) (hd : (x == ("__debug__" : Str)) = false := by decide) (hcd : (x == ("__classdict__" : Str)) = false := by decide)
    (hbase : attributeBase (.Subscript (.Name x p) ie ipos) name X.env (eval (.Subscript (.Name x p) ie ipos) X.env) = eval (.Subscript (.Name x p) ie ipos) X.env := by rfl) (hline : (apos.endLine == cpos.line) = true := by rfl) :
    DE X W (.Call (.Attribute (.Subscript (.Name x p) ie ipos) name apos) [] [] cpos) (eMutI i k g aNil) := by
  obtain ⟨⟨tb, h1, h2⟩, h3⟩ := hk
  refine pe_weak (pe_bm0 PySem.F.plainAttrs_list slot hty hm (pe_ix ix_seq (pe_var hN hv hd hcd) h1 h3) hbase hline) fun σ H Q h => ?_
  obtain ⟨v, hv, c⟩ := mutI_core (K := X.K) (tb := tb) hs (fun σ H Q => (h2 σ H Q).1) h
  refine ⟨v, hv, (h2 _ _ _).1 ?_⟩
  have c := (h2 _ _ _).2 c
  have go : ∀ u H1, (tyV X.K "list" u H1 ∧ dTA X.K X.mg W aNil σ H1 fun xs H2 => r u xs H2 Q) → tyV X.K "list" u H1 ∧ r u [] H1 Q := fun u H1 ⟨a, F, env, fp, rs, o, b⟩ => ⟨a, b [] F H1 NoFp fp (Stp.id0 rs) dj0 .nil o⟩
  rcases c with ⟨p, xs, n, w, a1, a2, a3, a4, a5⟩ | ⟨p, xs, n, w, a1, a2, a3, a4, a5⟩ | ⟨z, n, w, a1, a2, a3, a4, a5⟩
  · exact .inl ⟨p, xs, n, w, a1, a2, a3, a4, go _ _ a5⟩
  · exact .inr (.inl ⟨p, xs, n, w, a1, a2, a3, a4, go _ _ a5⟩)
  · exact .inr (.inr ⟨z, n, w, a1, a2, a3, a4, go _ _ a5⟩)
/-- len(x[k]) of an item that is a list of its own -/
def eLenI (i : Nat) (k : Int) : Env' → R OD := fun env => match lk env i with
  | none => .st
  | some x => match prtO x with
    | none => .st
    | some xs => match ixN xs.length k with
      | none => .st
      | some j => match xs[j]? with
        | some (.l ys) => .ok (.p (.int ys.length)) env
        | _ => .st
theorem de_lenI (i : Nat) (k : Int) {x : Str} {ie : Expr} {p p1 ip : Pos} (hk : Lit X ie k) (hg : Gl X "len") (hm : X.mg "len" = none)
    (hN : X.N[i]? = some x := by rfl) (hv : Vis X.env.scope x := by first | exact Or.inl rfl | exact Or.inr (Or.inl rfl) | exact Or.inr (Or.inr rfl)) (hd : (x == ("__debug__" : Str)) = false := by decide) (hcd : (x == ("__classdict__" : Str)) = false := by decide)
    (he : starEach [.Subscript (.Name x p1) ie ip] X.env = (false, eval (.Subscript (.Name x p1) ie ip) X.env) :: starEach [] X.env := by rfl) (hpl : (backTo pos (starEach [] X.env)).any (·.1) = false := by rfl) :
    DE X W (.Call (.Name "len" p) [.Subscript (.Name x p1) ie ip] [] pos) (eLenI i k) := by
  obtain ⟨⟨tb, h1, h2⟩, h3⟩ := hk
  refine pe_weak (pe_callB call_len hg hm PySem.boot_len (pa_cons (pe_ix ix_seq (pe_var hN hv hd hcd) h1 h3) pa_nil he) (by decide) (by decide) he hpl) fun σ H Q ⟨F, env, fp, rs, o, h⟩ => ?_
  unfold eLenI at h
  cases e0 : lk env i with
  | none => rw [e0] at h; exact h.elim
  | some x =>
  rw [e0] at h
  dsimp only at h
  cases e1 : prtO x with
  | none => rw [e1] at h; exact h.elim
  | some xs =>
  rw [e1] at h
  dsimp only at h
  cases e2 : ixN xs.length k with
  | none => rw [e2] at h; exact h.elim
  | some j =>
  rw [e2] at h
  dsimp only at h
  cases e3 : xs[j]? with
  | none => rw [e3] at h; exact h.elim
  | some y =>
  rw [e3] at h
  cases y with
  | l ys =>
    obtain ⟨n1, n2⟩ := lk_some e0
    obtain ⟨v, g1, g2, hv, w0, _, _, _, _⟩ := o.get n1 n2
    obtain ⟨c, vs, gx, rfl, ox, _, wh⟩ := w0.whole e1
    obtain ⟨u, k1, k2, hu, wu, _, _, _, _⟩ := ox.get e3 (fun z => nomatch z)
    have vl : vs.length = xs.length := ows_len ox
    rw [List.getElem?_map] at hu
    have hu' : vs[j]? = some u := by
      cases q : vs[j]? with
      | none => rw [q] at hu; cases hu
      | some z => rw [q] at hu; cases hu; rfl
    have at_ : atI vs k = some u := by
      unfold atI
      rw [vl, e2]; exact hu'
    cases wu with
    | l fa ha wl hd =>
      rename_i a ws0 fq0
      have q : Q (.int (ws0.length : Nat)) H := by
        rw [show (ws0.length : Int) = (ys.length : Int) by rw [ows_len wl]]
        exact h (.int (ys.length : Nat)) F H NoFp fp (Stp.id0 rs) dj0 (.p (.int _)) o
      refine ⟨.ref c, hv, (h2 _ _ _).1 ?_⟩
      have fin : ∃ x n, [V.ref a] = [x] ∧ LenV X.K x H n ∧ Q (.int n) H := ⟨.ref a, ws0.length, rfl, .inl ⟨_, SqL.of ha, rfl⟩, q⟩
      rcases wh with ⟨_, hF⟩ | ⟨_, _, hH, _⟩
      · exact .inr (.inl ⟨c, vs, k, .ref a, rfl, rfl, SqT.of (rs.sub _ _ hF), at_, fin⟩)
      · exact .inl ⟨c, vs, k, .ref a, rfl, rfl, SqL.of hH, at_, fin⟩
  | _ => exact h.elim
end
end DL

/-! min of a list of two tuples of two ints -/
namespace DL
open PySem PySem.Spec PyProof.Rows L2
section
variable {prog : Program} {w : World} {A : Around} {E : Value → Shared → Prop} {s : Shared} {l : Addr} {u v : Value} {r : Bool}
theorem minName : (toString "min" ++ toString ".loop" : String) = "min.loop" := by decide
theorem min_pair {Q : Value → Shared → Prop} (hh : A.handled = none) (hl : s.heap.IsList l #[u, v])
    (hc : ∀ (h' : Heap) (tk : Tok), (∀ b o, s.heap.get? b = some o → h'.get? b = some o) → Ob.RcOp .Lt A.in1 { s with heap := h', toks := tk } v u r)
    (h : ∀ (h' : Heap) (tk : Tok), (∀ b o, s.heap.get? b = some o → h'.get? b = some o) → Q (if r then v else u) { s with heap := h', toks := tk }) :
    wpAny (model prog w) A (call (.builtin "min") [.ref l]) Q E s := by
  have lt : l < s.heap.objs.size := by obtain ⟨_, e, _⟩ := hl; exact Heap.lt_size e
  refine call_function_tree PySem.F.kind_min PySem.F.plain_min PySem.F.entry_min (PySem.F.args_min1 _) ?_
  show wpAny _ A.in1 (Builtin.Builtins.bindParams "min" ["key", "default"] 0 ⟨[], []⟩ >>= _) _ _ s
  refine wpAny_bind (wpAny_of_eq (show Builtin.Builtins.bindParams "min" ["key", "default"] 0 ⟨[], []⟩ = pure [none, none] from rfl) ?_)
  refine wpAny_bind (wpAny_pure (wpAny_bind (wpAny_pyIter_list hl ?_)))
  refine wpAny_bind (wpAny_newObj_type ?_)
  rw [minName]
  have hI : l ≠ s.heap.objs.size := Nat.ne_of_lt lt
  have W := Walks.list (prog := prog) (w := w) (A := A.in1) hh s.heap.objs.size l hI #[u, v]
  generalize hs2 : (s.heap.push { cls := .type "list_iterator", data := .fields #[.ref l, .int 0 0] }) = h2
  have z2 : h2.objs.size = s.heap.objs.size + 1 := by rw [← hs2]; exact Heap.size_push _ _
  have k2 : ∀ b o, s.heap.get? b = some o → h2.get? b = some o := fun b o e => by rw [← hs2]; exact Heap.get?_push_of_some _ e
  have st0 : h2.IsListIter s.heap.objs.size l 0 ∧ h2.IsList l #[u, v] := by rw [← hs2]; exact ⟨⟨_, Heap.get?_push_size _ rfl, rfl, rfl⟩, hl.push _⟩
  dsimp only
  generalize hs3 : (h2.push { cls := .type "list", dict := none, data := .seq #[] 0, slots := #[] }) = h3
  have S3 : h3.get? h2.objs.size = some { cls := .type "list", dict := none, data := .seq #[] 0, slots := #[] } := by rw [← hs3]; exact Heap.get?_push_size _ rfl
  have st3 := W.frame 0 h2 h3 st0 fun b _ o e => by rw [← hs3]; exact Heap.get?_push_of_some _ e
  have k3 : ∀ b o, s.heap.get? b = some o → h3.get? b = some o := fun b o e => by rw [← hs3]; exact Heap.get?_push_of_some _ (k2 b o e)
  have nS : h2.objs.size ∉ [s.heap.objs.size] := by rw [z2]; intro z; exact Nat.succ_ne_self _ (List.mem_singleton.1 z)
  have nSf : h2.objs.size ∉ [s.heap.objs.size, l] := by
    rw [z2]; intro z
    rcases List.mem_cons.1 z with z | z
    · exact Nat.succ_ne_self _ z
    · exact Nat.ne_of_gt (Nat.lt_succ_of_lt lt) (List.mem_singleton.1 z)
  have old : ∀ {b : Addr} {o : Obj}, s.heap.get? b = some o → b ∉ [s.heap.objs.size] ∧ b ≠ h2.objs.size := fun {b o} e => ⟨fun z => Nat.ne_of_lt (Heap.lt_size e) (List.mem_singleton.1 z), by rw [z2]; exact Nat.ne_of_lt (Nat.lt_succ_of_lt (Heap.lt_size e))⟩
  generalize h2.objs.size = T at *
  have second : ∀ (h5 : Heap) (c5 : Nat) (tk5 : Tok), h5.get? T = some { cls := .type "list", dict := none, data := .seq #[u, u] c5, slots := #[] } → (h5.IsListIter s.heap.objs.size l 1 ∧ h5.IsList l #[u, v]) → (∀ b o, s.heap.get? b = some o → h5.get? b = some o) →
      ∀ (f : Result → Shared → Prop), (∀ y t, Q y t → f (.ok (.ret y)) t) → codeAny (model prog w) A (.builtin "min.loop" ⟨[.ref s.heap.objs.size, .none, .ref T], []⟩) f { s with heap := h5, toks := tk5 } := fun h5 c5 tk5 S5 st5 k5 f hf => by
    refine codeAny_builtin PySem.F.entry_min_loop ?_
    rw [Around.under_plainId PySem.F.plain_min_loop _]
    show wpAny _ A.in1 (seqItems? (.ref T) >>= _) _ _ _
    refine wpAny_bind (wpAny_seqItems S5 rfl ?_)
    show wpAny _ A.in1 (tryCatch (pyNext (.ref s.heap.objs.size)) _ >>= _) _ _ _
    refine wpAny_bind (wpAny_tryCatch (W.item 1 _ _ _ (by simp) st5 fun x h6 tk6 p6 st6 k6 => ?_))
    obtain rfl : v = x := by simpa using p6
    have S6 := k6 T _ nS S5
    have kk6 : ∀ b o, s.heap.get? b = some o → h6.get? b = some o := fun b o e => k6 b o (old e).1 (k5 b o e)
    show wpAny _ A.in1 (tryCatch (holding [v, v] (richCompare .Lt v u >>= _)) _ >>= _) _ _ _
    refine wpAny_bind (wpAny_tryCatch (wpAny_holding (wpAny_bind (hc h6 tk6 kk6 prog w _ _ ?_))))
    refine wpAny_bind (wpAny_holding (wpAny_truthy_bool ?_))
    refine wpAny_bind (wpAny_letGo (wpAny_pure ?_))
    -- the end
    have fin : ∀ (h7 : Heap) (x : Value) (c : Nat), (x = if r then v else u) → h7.get? T = some { cls := .type "list", dict := none, data := .seq #[x, x] c, slots := #[] } → (h7.IsListIter s.heap.objs.size l 2 ∧ h7.IsList l #[u, v]) → (∀ b o, s.heap.get? b = some o → h7.get? b = some o) →
        ∀ (f : Result → Shared → Prop), (∀ y t, Q y t → f (.ok (.ret y)) t) → codeAny (model prog w) A (.builtin "min.loop" ⟨[.ref s.heap.objs.size, .none, .ref T], []⟩) f { s with heap := h7, toks := tk6 } := fun h7 x c ex S7 st7 k7 f hf => by
      refine codeAny_builtin PySem.F.entry_min_loop ?_
      rw [Around.under_plainId PySem.F.plain_min_loop _]
      show wpAny _ A.in1 (seqItems? (.ref T) >>= _) _ _ _
      refine wpAny_bind (wpAny_seqItems S7 rfl ?_)
      show wpAny _ A.in1 (tryCatch (pyNext (.ref s.heap.objs.size)) _ >>= _) _ _ _
      refine wpAny_bind (wpAny_tryCatch (W.done { s with heap := h7, toks := tk6 } _ _ st7 fun h8 tk8 k8 => ?_))
      have S8 := k8 T _ nS S7
      show wpAny _ A.in1 (updateSeq T (fun _ => #[]) >>= _) _ _ _
      refine wpAny_bind ?_
      refine wpAny_updateSeq S8 rfl (wpAny_bind (wpAny_letGo (wpAny_pure ?_)))
      refine hf _ _ ?_
      rw [ex]
      exact h _ tk8 fun b o e => (Heap.get?_update_other _ _ (Ne.symm (old e).2)).trans (k8 b o (old e).1 (k7 b o e))
    cases r with
    | true =>
      simp only [if_true]
      refine wpAny_bind ?_
      refine wpAny_updateSeq S6 rfl (wpAny_bind (wpAny_letGo ?_))
      rw [minName]
      exact wpAny_pure ⟨plainId_quiet PySem.F.plain_min_loop _, fin _ v _ rfl (Heap.get?_update_self _ S6 rfl) (W.frame 2 h6 _ st6 fun b hb o e => (Heap.get?_update_other _ _ (fun z : T = b => nSf (by rw [z]; exact hb))).trans e) (fun b o e => (Heap.get?_update_other _ _ (Ne.symm (old e).2)).trans (kk6 b o e)) f hf⟩
    | false =>
      simp only [Bool.false_eq_true, if_false]
      refine wpAny_bind (wpAny_letGo ?_)
      rw [minName]
      exact wpAny_pure ⟨plainId_quiet PySem.F.plain_min_loop _, fin h6 u _ rfl S6 st6 kk6 f hf⟩
  -- the first item
  refine wpAny_pure ⟨plainId_quiet PySem.F.plain_min_loop _, codeAny_builtin PySem.F.entry_min_loop ?_⟩
  rw [Around.under_plainId PySem.F.plain_min_loop _]
  show wpAny _ A.in1 (seqItems? (.ref T) >>= _) _ _ _
  refine wpAny_bind (wpAny_seqItems S3 rfl ?_)
  show wpAny _ A.in1 (tryCatch (pyNext (.ref s.heap.objs.size)) _ >>= _) _ _ _
  refine wpAny_bind (wpAny_tryCatch (W.item 0 _ _ _ (by simp) st3 fun x h4 tk4 p4 st4 k4 => ?_))
  obtain rfl : u = x := by simpa using p4
  have S4 := k4 T _ nS S3
  show wpAny _ A.in1 (updateSeq T (fun _ => #[u, u]) >>= _) _ _ _
  refine wpAny_bind ?_
  refine wpAny_updateSeq S4 rfl ?_
  rw [minName]
  exact wpAny_pure ⟨plainId_quiet PySem.F.plain_min_loop _, second _ _ _ (Heap.get?_update_self _ S4 rfl) (W.frame 1 h4 _ st4 fun b hb o e => (Heap.get?_update_other _ _ (fun z : T = b => nSf (by rw [z]; exact hb))).trans e)
    (fun b o e => (Heap.get?_update_other _ _ (Ne.symm (old e).2)).trans (k4 b o (old e).1 (k3 b o e))) _ fun _ _ z => z⟩
end
/-- the lesser of two pairs -/
def ltP (a b c d : Int) : Bool := decide (a < c) || (decide (a = c) && decide (b < d))
def rMinT (K : PySem.W.Frag) : List V → Hp → VK → Prop := fun vs H Q => ∃ (l p q : Addr) (a b c d : Int), vs = [V.ref l] ∧ SqL K H l [V.ref p, V.ref q] ∧ SqT K H p [V.int a, V.int b] ∧ SqT K H q [V.int c, V.int d] ∧ Q (.ref (if ltP c d a b then q else p)) H
theorem cr_minT {X : Cx} (hc : X.calm = true) (hu : X.A.units + 1 < cLine) : CallR X (.builtin "min") (rMinT X.K) := by
  intro pins s σ H vs us Q I r h
  obtain ⟨l, p, q, a, b, c, d, rfl, hl, hp, hq, k⟩ := h
  rw [Vals.ref1 r]
  obtain ⟨its, rv, pl, _⟩ := I.list hl
  obtain ⟨ip, rp, pp, _⟩ := I.tuple hp
  obtain ⟨iq, rq, pq, _⟩ := I.tuple hq
  obtain rfl : its = [.ref p, .ref q] := by
    cases rv with
    | cons r1 rr => cases rr with
      | cons r2 rr => cases rr; cases r1; cases r2; rfl
  have two : ∀ {x y : Int} {it : List Value}, Vals [V.int x, V.int y] it → ∃ t u, it = [.int x t, .int y u] := fun {x y it} r => by
    cases r with
    | cons r1 rr => cases rr with
      | cons r2 rr =>
        cases rr
        obtain ⟨t, rfl⟩ := r1
        obtain ⟨u, rfl⟩ := r2
        exact ⟨t, u, rfl⟩
  obtain ⟨t1, t2, rfl⟩ := two rp
  obtain ⟨t3, t4, rfl⟩ := two rq
  have eqd : ∀ (m n : Int), (m == n) = decide (m = n) := fun m n => by by_cases e : m = n <;> simp [e]
  refine min_pair (r := ltP c d a b) (I.ok.hd hc) pl.isList (fun h' tk k' => ?_) fun h' tk k' => ⟨.ref (if ltP c d a b then q else p), H, I.kept (t' := tk) k', by split <;> rfl, k⟩
  have T1 : h'.IsTuple p #[.int a t1, .int b t2] := by obtain ⟨o, e, r⟩ := pp; exact ⟨o, k' _ _ e, r⟩
  have T2 : h'.IsTuple q #[.int c t3, .int d t4] := by obtain ⟨o, e, r⟩ := pq; exact ⟨o, k' _ _ e, r⟩
  have R := Ob.RcOp.tuples_lt (A := X.A.in1) (s := { s with heap := h', toks := tk }) (e := fun j => if j = 0 then decide (c = a) else decide (d = b)) (r := fun j => if j = 0 then decide (c < a) else decide (d < b)) T2 T1 hu (fun j h1 h2 => by
    rcases (by simp at h1; omega : j = 0 ∨ j = 1) with rfl | rfl
    · have := SeqAt.EqAt.int_int (A := X.A.in1.in1) (s := { s with heap := h', toks := tk }) c t3 a t1
      rw [eqd] at this
      exact this
    · have := SeqAt.EqAt.int_int (A := X.A.in1.in1) (s := { s with heap := h', toks := tk }) d t4 b t2
      rw [eqd] at this
      exact this) (fun j h1 h2 _ => by
    rcases (by simp at h1; omega : j = 0 ∨ j = 1) with rfl | rfl
    · exact Ob.RcOp.lt_int _ _ _ _
    · exact Ob.RcOp.lt_int _ _ _ _)
  have e : Ob.lexAt (fun j => if j = 0 then decide (c = a) else decide (d = b)) (fun j => if j = 0 then decide (c < a) else decide (d < b)) (decide ((#[Value.int c t3, Value.int d t4] : Array Value).size < (#[Value.int a t1, Value.int b t2] : Array Value).size)) 0 (min (#[Value.int c t3, Value.int d t4] : Array Value).size (#[Value.int a t1, Value.int b t2] : Array Value).size) = ltP c d a b := by
    show Ob.lexAt _ _ (decide (2 < 2)) 0 2 = _
    rw [Ob.lexAt_succ, Ob.lexAt_succ, Ob.lexAt_zero]
    unfold ltP
    by_cases e1 : c = a
    · by_cases e2 : d = b <;> simp [e1, e2]
    · simp [e1]
  rw [e] at R
  exact R
def gMinT (x : OD) : Option OD := match its x with
  | some [.tuple [.int a, .int b], .tuple [.int c, .int d]] => some (.p (.tuple (if ltP c d a b then [.int c, .int d] else [.int a, .int b])))
  | _ => none
theorem Dd.two {F : Hp} {v : V} {a b : Int} (w : Dd F v (.tuple [.int a, .int b])) : ∃ p, v = .ref p ∧ F p = some (.tup [V.int a, V.int b]) := by
  cases w with
  | tup h t =>
    cases t with
    | cons w1 t => cases t with
      | cons w2 t => cases t; cases w1; cases w2; exact ⟨_, rfl, h⟩
theorem c_minT {K : PySem.W.Frag} : CaS K (rMinT K) (c1 gMinT) := CaS.one fun F H v x fx fp d Q rs o e k => by
  unfold gMinT at e
  split at e
  · rename_i a b c d q
    cases e
    obtain ⟨l, vs, rfl, h, w⟩ := its_at rs.sub o q
    cases w with
    | cons w1 t => cases t with
      | cons w2 t =>
        cases t
        obtain ⟨p1, rfl, f1⟩ := w1.two
        obtain ⟨p2, rfl, f2⟩ := w2.two
        refine ⟨l, p1, p2, a, b, c, d, rfl, SqL.of h, SqT.of (rs.sub _ _ f1), SqT.of (rs.sub _ _ f2), k0 rs k ?_⟩
        split
        · exact .p (.tup f2 (.cons (.int _) (.cons (.int _) .nil)))
        · exact .p (.tup f1 (.cons (.int _) (.cons (.int _) .nil)))
  · cases e
theorem units1 {k : Nat} {A : Around} (r : Room k A) : A.units + 1 < cLine := by have := units65 r; omega
@[simp] theorem gMinT_l (a b c d : Int) : gMinT (.l [.p (.tuple [.int a, .int b]), .p (.tuple [.int c, .int d])]) = some (.p (.tuple (if ltP c d a b then [.int c, .int d] else [.int a, .int b]))) := rfl
end DL

namespace DL
open PySem L2
/-! ### how the worths are reckoned -/
section
variable (i j : Nat) (e : Env') (f g h : Env' → Out) (a b : Env' → R OD) (t u : Env' → R Bool) (v w : Env' → R Opd)
@[simp] theorem sNil_ap : sNil e = .nx e := rfl
@[simp] theorem sSeq_ap : sSeq f g e = (f e).seq g := rfl
@[simp] theorem sSet_ap : sSet i a e = (a e).out fun d e => .nx (e.set i d) := rfl
@[simp] theorem sRet_ap : sRet a e = (a e).out fun d e => .rt d e := rfl
@[simp] theorem sExp_ap : sExp a e = (a e).out fun _ e => .nx e := rfl
@[simp] theorem sIf_ap : sIf t f g e = (t e).out fun b e => if b then f e else g e := rfl
@[simp] theorem sNever_ap : sNever e = .st := rfl
@[simp] theorem eC_ap (d : PyData) : eC d e = .ok (.p d) e := rfl
@[simp] theorem eVal_ap : eVal a e = (a e).bind fun d e => .ok (.val d) e := rfl
@[simp] theorem eBin_ap (k) : eBin k v w e = (v e).bind fun a e1 => (w e1).bind fun b e2 => ap2 k a b e2 := rfl
@[simp] theorem eUn_ap (k) : eUn k v e = (v e).bind fun a e1 => ap1 k a e1 := rfl
@[simp] theorem eIsi_ap (T) : eIsi T v e = (v e).bind fun a e1 => ap1 (gIsi T) a e1 := rfl
@[simp] theorem eB_ap : eB a e = (a e).bind fun d e => match d with
  | .p (.bool b) => .ok b e
  | _ => .st := rfl
@[simp] theorem eAnd_ap : eAnd t u e = (t e).bind fun b e => if b then u e else .ok false e := rfl
@[simp] theorem eOr_ap : eOr t u e = (t e).bind fun b e => if b then .ok true e else u e := rfl
@[simp] theorem eNot_ap : eNot t e = (t e).bind fun b e => .ok (!b) e := rfl
@[simp] theorem eAndV_ap : eAndV a b e = (eB a e).bind fun c e => if c then b e else .ok (.p (.bool false)) e := rfl
@[simp] theorem eOrV_ap : eOrV a b e = (eB a e).bind fun c e => if c then .ok (.p (.bool true)) e else b e := rfl
@[simp] theorem eNotV_ap : eNotV a e = (eB a e).bind fun b e => .ok (.p (.bool (!b))) e := rfl
@[simp] theorem aNil_ap : aNil e = .ok [] e := rfl
@[simp] theorem aCons_ap (k) : aCons a k e = (a e).bind fun x e => (k e).bind fun xs e2 => .ok (x :: xs) e2 := rfl
@[simp] theorem vNil_ap : vNil e = .ok [] e := rfl
@[simp] theorem vCons_ap (k) : vCons v k e = (v e).bind fun x e => (k e).bind fun xs e2 => .ok (x :: xs) e2 := rfl
@[simp] theorem bNil_ap : bNil e = .ok [] e := rfl
@[simp] theorem bCons_ap (f) (k) : bCons f k e = (f e).bind fun x e => (k e).bind fun xs e2 => .ok (x :: xs) e2 := rfl
@[simp] theorem bVal_ap : bVal a e = (a e).bind fun d e => .ok (d, none) e := rfl
@[simp] theorem eTup_ap (f) : eTup f e = (f e).bind fun xs e => if xs.length ≤ 1000 then .ok (mkT xs) e else .st := rfl
@[simp] theorem eLst_ap (f) : eLst f e = (f e).bind fun xs e => if xs.length ≤ 1000 then .ok (.l xs) e else .st := rfl
@[simp] theorem eCall_ap (k f) : eCall k f e = (f e).bind fun os e => apN k os e := rfl
@[simp] theorem sFgt_ap (js) : sFgt js f e = match f e with
  | .nx e => .nx (clr js e)
  | o => o := rfl
@[simp] theorem clr_nil : clr [] e = e := rfl
@[simp] theorem clr_cons (js) : clr (j :: js) e = clr js (e.set j .h) := rfl
@[simp] theorem sFor_ap (it k) : sFor it k f e = (it e).out fun ds e => forGo k f ds e := rfl
@[simp] theorem sWhile_ap (fu) : sWhile fu t f e = whGo t f (fu e) e := rfl
@[simp] theorem iSeq_ap : iSeq a e = (a e).bind fun d e => R.of (itsF d) e := rfl
@[simp] theorem iArgs_ap (k f) : iArgs k f e = (f e).bind fun os e => match ats e os with
  | some xs => R.of (k xs) e
  | none => .st := (rfl)
@[simp] theorem iEnu_ap (f) : iEnu f e = (f e).bind fun os e => R.of ((lstOf os).map (enumL 0)) e := rfl
@[simp] theorem forGo_nil (k) : forGo k f [] e = .nx e := rfl
theorem forGo_cons (k) (d ds) : forGo k f (d :: ds) e = match k (.p d) e with
  | none => .st
  | some e1 => (f e1).seq (forGo k f ds) := rfl
@[simp] theorem gNm_ap (d) : gNm i d e = some (e.set i d) := rfl
@[simp] theorem gsNil_ap : gsNil [] e = some e := rfl
@[simp] theorem gsCons_ap (k ks d ds) : gsCons k ks (d :: ds) e = (k d e).bind (ks ds) := rfl
@[simp] theorem gTp_ap (n k d) : gTp n k d e = match prts d with
  | some ds => if ds.length = n then k ds e else none
  | none => none := rfl
@[simp] theorem sAsg_ap (k) : sAsg k a e = (a e).out fun d e => match k d e with
  | some e' => .nx e'
  | none => .st := rfl
@[simp] theorem sPar_ap (f) : sPar i j f e = (f e).out fun ds e => match ds with
  | [x, y] => .nx ((e.set i x).set j y)
  | _ => .st := rfl
@[simp] theorem eFn_ap (φ : Fn) (f) : eFn φ f e = (f e).bind fun ys e => match φ (ys.map (·.1)) with
  | .st => .st
  | .ok d xs => .ok d (putBack (ys.map (·.2)) xs e)
  | .ex C x xs => .ex C x (putBack (ys.map (·.2)) xs e) := rfl
@[simp] theorem eLc_ap (js it k) : eLc js it k t a e = (it e).bind fun ds e => if hol js e = true ∧ ds.length ≤ 40000 then lcOut (lcGo js k t a ds e) else .st := rfl
@[simp] theorem tYs_ap : tYs e = .ok true e := rfl
@[simp] theorem lcGo_nil (js k) : lcGo js k t a [] e = some ([], e) := rfl
theorem lcGo_cons (js k) (d ds) : lcGo js k t a (d :: ds) e = match k (.p d) e with
  | none => none
  | some e1 => match t e1 with
    | .ok true e2 => match a e2 with
      | .ok x e3 => (lcGo js k t a ds (clr js e3)).map fun p => (x :: p.1, p.2)
      | _ => none
    | .ok false e2 => lcGo js k t a ds (clr js e2)
    | _ => none := rfl
@[simp] theorem lcOut_some (xs) : lcOut (some (xs, e)) = .ok (.l xs) e := rfl
@[simp] theorem eMut_ap (k f) : eMut i k f e = match lk e i with
  | some (.l _) => (f e).bind fun ys e => match lk e i with
    | some (.l xs) => match k xs ys with
      | some (res, xs') => .ok res (e.set i (.l xs'))
      | none => .st
    | _ => .st
  | _ => .st := rfl
@[simp] theorem sItem_ap : sItem i a b e = (a e).out fun d e1 => match lk e1 i with
  | some (.l _) => (b e1).out fun k e2 => itmOut i d k e2
  | _ => .st := rfl
@[simp] theorem oNone_ap : oNone e = .ok none e := rfl
@[simp] theorem oSome_ap : oSome a e = (a e).bind fun d e => match d with
  | .p (.int i) => .ok (some i) e
  | _ => .st := rfl
@[simp] theorem eSl_ap (fl fu) : eSl v fl fu e = (v e).bind fun a e1 => (fl e1).bind fun l e2 => (fu e2).bind fun u e3 => match a.at e3 with
  | some x => R.of (gSlice x l u) e3
  | none => .st := rfl
theorem fnOfBody_ap (n m B f ods) : fnOfBody n m B f ods = match f (ods ++ List.replicate (m - n) .h) with
  | .st => .st
  | .nx e => .ok (.p .none) (mask B e n)
  | .rt d e => .ok d (mask B e n)
  | .ex C f e => .ex C f (mask B e n) := rfl
end
/-! places of a written state -/
@[simp] theorem lk_0p (d e) : lk (.p d :: e) 0 = some (.p d) := rfl
@[simp] theorem lk_0l (d e) : lk (.l d :: e) 0 = some (.l d) := rfl
@[simp] theorem lk_0t (d e) : lk (.t d :: e) 0 = some (.t d) := rfl
@[simp] theorem lk_0s (d e) : lk (.sc d :: e) 0 = some (.sc d) := rfl
@[simp] theorem lk_0e (C f e) : lk (.er C f :: e) 0 = some (.er C f) := rfl
@[simp] theorem lk_0o (C n xs e) : lk (.ob C n xs :: e) 0 = some (.ob C n xs) := rfl
@[simp] theorem lk_0h (e) : lk (.h :: e) 0 = none := rfl
@[simp] theorem lk_s (x e) (n : Nat) : lk (x :: e) (n + 1) = lk e n := rfl
@[simp] theorem eAt_ap (i e) : eAt i e = match lk e i with
  | none => .st
  | some _ => .ok (.slot i) e := rfl
@[simp] theorem eVar_ap (i e) : eVar i e = match lk e i with
  | none => .st
  | some (.p d) => .ok (.p d) e
  | some (.sc ns) => .ok (.sc ns) e
  | some (.er C f) => .ok (.er C f) e
  | some x => match frz x with
    | some d => .ok (.p d) (e.set i (.p d))
    | none => .st := rfl
@[simp] theorem eMv_ap (i e) : eMv i e = match lk e i with
  | none => .st
  | some (.p d) => .ok (.p d) e
  | some x => .ok x (e.set i .h) := rfl
@[simp] theorem bSlot_ap (i e) : bSlot i e = match lk e i with
  | none => .st
  | some (.p d) => .ok (.p d, none) e
  | some (.sc ns) => .ok (.sc ns, none) e
  | some (.er C f) => .ok (.er C f, none) e
  | some x => .ok (x, some i) (e.set i .h) := rfl
@[simp] theorem Opd.at_val (e x) : (Opd.val x).at e = some x := rfl
@[simp] theorem Opd.at_slot (e i) : (Opd.slot i).at e = lk e i := rfl
@[simp] theorem ap2_ap (g a b e) : ap2 g a b e = match a.at e, b.at e with
  | some x, some y => R.of (g x y) e
  | _, _ => .st := rfl
@[simp] theorem ap1_ap (g a e) : ap1 g a e = match a.at e with
  | some x => R.of (g x) e
  | _ => .st := rfl
@[simp] theorem apN_ap (g os e) : apN g os e = match ats e os with
  | some xs => R.of (g xs) e
  | none => .st := rfl
@[simp] theorem ats_nil (e) : ats e [] = some [] := rfl
@[simp] theorem ats_cons (e o os) : ats e (o :: os) = match o.at e, ats e os with
  | some x, some xs => some (x :: xs)
  | _, _ => none := rfl
@[simp] theorem putBack_nil (xs e) : putBack [] xs e = e := by cases xs <;> rfl
@[simp] theorem putBack_none (bs x xs e) : putBack (none :: bs) (x :: xs) e = putBack bs xs e := rfl
@[simp] theorem putBack_some (i bs x xs e) : putBack (some i :: bs) (x :: xs) e = putBack bs xs (e.set i x) := rfl
@[simp] theorem mask_0 (B e) : mask B e 0 = [] := rfl
@[simp] theorem mask_s (B e n) : mask B e (n + 1) = mask B e n ++ [if n ∈ B then (e[n]?).getD OD.h else OD.h] := rfl
@[simp] theorem frz_p (d) : frz (.p d) = some d := rfl
@[simp] theorem frz_lp (ds : List PyData) : frz (.l (ds.map .p)) = some (.list ds) := by simp [frz, frzs_p]
@[simp] theorem frz_l (xs) : frz (.l xs) = (frzs xs).map .list := by rw [frz]
@[simp] theorem frzs_nil : frzs [] = some [] := by rw [frzs]
@[simp] theorem frzs_cons (x xs) : frzs (x :: xs) = (frz x).bind fun d => (frzs xs).map (d :: ·) := by rw [frzs]
@[simp] theorem frzs_map (ds : List PyData) : frzs (ds.map .p) = some ds := frzs_p ds
@[simp] theorem mkT_ap (xs) : mkT xs = match allp xs with
  | some ds => .p (.tuple ds)
  | none => .t xs := rfl
@[simp] theorem allp_nil : allp [] = some [] := rfl
@[simp] theorem allp_cons (d xs) : allp (.p d :: xs) = (allp xs).map (d :: ·) := rfl
@[simp] theorem itsF_list (ds) : itsF (.p (.list ds)) = some ds := rfl
@[simp] theorem itsF_tuple (ds) : itsF (.p (.tuple ds)) = some ds := rfl
@[simp] theorem itsF_l (xs) : itsF (.l xs) = frzs xs := rfl
@[simp] theorem prts_tuple (ds) : prts (.p (.tuple ds)) = some (ds.map .p) := rfl
@[simp] theorem prts_list (ds) : prts (.p (.list ds)) = some (ds.map .p) := rfl
@[simp] theorem prts_l (xs) : prts (.l xs) = some xs := rfl
@[simp] theorem prts_t (xs) : prts (.t xs) = some xs := rfl
@[simp] theorem lstOf_list (ds) : lstOf [.p (.list ds)] = some ds := rfl
@[simp] theorem lstOf_l (xs) : lstOf [.l xs] = frzs xs := rfl
theorem rng1_int (n) : rng1 [.p (.int n)] = if RngOk n then some (rngL 0 n.toNat) else none := rfl
theorem rng2_int (m n) : rng2 [.p (.int m), .p (.int n)] = if RngOk m ∧ RngOk n then some (rngL m (n - m).toNat) else none := rfl
theorem rngOk {n : Int} (h : -4611686018427387904 ≤ n) (h2 : n < 4611686018427387904) : RngOk n := ⟨by omega, by omega⟩
/-! sizes -/
theorem mulOk_of {i j : Int} (a b : Nat) (hi : i.natAbs < 2 ^ a) (hj : j.natAbs < 2 ^ b) (ha : a ≤ 400000) (hb : b ≤ 400000) : MulOk i j :=
  .inl ⟨Nat.lt_of_lt_of_le hi (Nat.pow_le_pow_right (by decide) ha), Nat.lt_of_lt_of_le hj (Nat.pow_le_pow_right (by decide) hb)⟩
@[simp] theorem mulOk_r (i : Int) {j : Int} (h : -9223372036854775808 < j) (h2 : j < 9223372036854775808) : MulOk i j := .inr (.inr (by omega))
@[simp] theorem mulOk_l (j : Int) {i : Int} (h : -9223372036854775808 < i) (h2 : i < 9223372036854775808) : MulOk i j := .inr (.inl (by omega))
theorem divOk_of {j : Int} (h : 0 < j) (b : Nat) (hj : j.natAbs < 2 ^ b) (hb : b ≤ 9000) : DivOk j := ⟨h, Nat.lt_of_lt_of_le hj (Nat.pow_le_pow_right (by decide) hb)⟩
@[simp] theorem divOk_lit {j : Int} (h : 0 < j) (h2 : j < 1606938044258990275541962092341162602522202993782792835301376) : DivOk j := divOk_of h 200 (by
  have : (2 : Nat) ^ 200 = 1606938044258990275541962092341162602522202993782792835301376 := by decide +kernel
  omega) (by decide)
/-! operations on ints -/
section
variable (a b : Int)
@[simp] theorem gAdd_i : gAdd (.p (.int a)) (.p (.int b)) = some (.p (.int (a + b))) := rfl
@[simp] theorem gSub_i : gSub (.p (.int a)) (.p (.int b)) = some (.p (.int (a - b))) := rfl
@[simp] theorem gMul_i : gMul (.p (.int a)) (.p (.int b)) = if MulOk a b then some (.p (.int (a * b))) else none := rfl
@[simp] theorem gFdiv_i : gFdiv (.p (.int a)) (.p (.int b)) = if DivOk b then some (.p (.int (a / b))) else none := by
  show (if _ then _ else _ : Option PyData).map _ = _
  split <;> rfl
@[simp] theorem gMod_i : gMod (.p (.int a)) (.p (.int b)) = if 0 < b then some (.p (.int (a % b))) else none := by
  show (if _ then _ else _ : Option PyData).map _ = _
  split <;> rfl
@[simp] theorem gPow_i : gPow (.p (.int a)) (.p (.int b)) = if 0 ≤ b ∧ b ≤ 1000000 ∧ a.natAbs < 2 ^ 64 then some (.p (.int (a ^ b.toNat))) else none := by
  show (if _ then _ else _ : Option PyData).map _ = _
  split <;> rfl
@[simp] theorem gLt_i : gLt (.p (.int a)) (.p (.int b)) = some (.p (.bool (decide (a < b)))) := rfl
@[simp] theorem gLe_i : gLe (.p (.int a)) (.p (.int b)) = some (.p (.bool (decide (a ≤ b)))) := rfl
@[simp] theorem gGt_i : gGt (.p (.int a)) (.p (.int b)) = some (.p (.bool (decide (b < a)))) := rfl
@[simp] theorem gGe_i : gGe (.p (.int a)) (.p (.int b)) = some (.p (.bool (decide (b ≤ a)))) := rfl
@[simp] theorem gNeg_i : gNeg (.p (.int a)) = some (.p (.int (-a))) := rfl
@[simp] theorem gAbs_i : gAbs (.p (.int a)) = some (.p (.int (if a < 0 then -a else a))) := rfl
@[simp] theorem gMax2_i : gMax2 (.p (.int a)) (.p (.int b)) = some (.p (.int (if b > a then b else a))) := rfl
@[simp] theorem gMin2_i : gMin2 (.p (.int a)) (.p (.int b)) = some (.p (.int (if b < a then b else a))) := rfl
@[simp] theorem gInt_b (b : Bool) : gInt (.p (.bool b)) = some (.p (.int (if b then 1 else 0))) := rfl
@[simp] theorem gInt_i : gInt (.p (.int a)) = some (.p (.int a)) := rfl
end
@[simp] theorem gLen_list (ds) : gLen (.p (.list ds)) = some (.p (.int ds.length)) := rfl
@[simp] theorem gLen_tuple (ds) : gLen (.p (.tuple ds)) = some (.p (.int ds.length)) := rfl
@[simp] theorem gLen_l (ds) : gLen (.l ds) = some (.p (.int ds.length)) := rfl
@[simp] theorem gLen_sc (ds) : gLen (.sc ds) = some (.p (.int ds.length)) := rfl
@[simp] theorem gIx_list (ds i) : gIx (.p (.list ds)) (.p (.int i)) = (atI ds i).map .p := rfl
@[simp] theorem gIx_tuple (ds i) : gIx (.p (.tuple ds)) (.p (.int i)) = (atI ds i).map .p := rfl
@[simp] theorem gIx_sc (ds i) : gIx (.sc ds) (.p (.int i)) = (atI ds i).map oI := rfl
theorem gIx_l (xs i) : gIx (.l xs) (.p (.int i)) = match atI xs i with
  | some (.p d) => some (.p d)
  | _ => none := rfl
theorem atI_map {α β : Type} (f : α → β) (xs : List α) (i : Int) : atI (xs.map f) i = (atI xs i).map f := by
  unfold atI
  rw [List.length_map]
  cases ixN xs.length i with
  | none => rfl
  | some j => show (xs.map f)[j]? = _; rw [List.getElem?_map]; rfl
@[simp] theorem gIx_lp (ds : List PyData) (i) : gIx (.l (ds.map .p)) (.p (.int i)) = (atI ds i).map .p := by
  rw [gIx_l, atI_map]
  cases atI ds i <;> rfl
@[simp] theorem its_list (ds) : its (.p (.list ds)) = some ds := rfl
@[simp] theorem its_lx (xs) : its (.l xs) = allp xs := rfl
@[simp] theorem gList_ap (x) : gList x = (itsT x).map fun ds => .l (ds.map .p) := rfl
@[simp] theorem itsT_list (ds) : itsT (.p (.list ds)) = some ds := rfl
@[simp] theorem itsT_tuple (ds) : itsT (.p (.tuple ds)) = some ds := rfl
@[simp] theorem itsT_l (xs) : itsT (.l xs) = allp xs := rfl
@[simp] theorem gCat_ap (x y) : gCat x y = match its x, its y with
  | some a, some b => if a.length + b.length ≤ 100000 then some (.l ((a ++ b).map .p)) else none
  | _, _ => none := rfl
@[simp] theorem gAdd_ll (x y) : gAdd (.l x) (.l y) = gCat (.l x) (.l y) := rfl
@[simp] theorem gAdd_lp (x y) : gAdd (.l x) (.p (.list y)) = gCat (.l x) (.p (.list y)) := rfl
@[simp] theorem gAdd_pl (x y) : gAdd (.p (.list x)) (.l y) = gCat (.p (.list x)) (.l y) := rfl
@[simp] theorem gAdd_pp (x y) : gAdd (.p (.list x)) (.p (.list y)) = gCat (.p (.list x)) (.p (.list y)) := rfl
@[simp] theorem gAppend_one (xs y) : gAppend xs [y] = if xs.length < 100000 then some (.p .none, xs ++ [y]) else none := rfl
@[simp] theorem gClear_nil (xs) : gClear xs [] = some (.p .none, []) := rfl
@[simp] theorem vw_lp (ds : List PyData) : vw (.l (ds.map .p)) = some (.list ds) := by simp [vw, vws_map]
/-! loops -/
theorem forGo_fold {α β : Type} {g : Tg} {f : Env' → Out} (enc : α → PyData) (st : β → Env') (step : β → α → β) (P : β → Prop) : ∀ (l : List α) (b : β), P b → (∀ b a, P b → a ∈ l → P (step b a) ∧ ∃ e1, g (.p (enc a)) (st b) = some e1 ∧ f e1 = .nx (st (step b a))) →
    forGo g f (l.map enc) (st b) = .nx (st (l.foldl step b)) ∧ P (l.foldl step b)
  | [], b, hb, _ => ⟨rfl, hb⟩
  | a :: l, b, hb, h => by
    obtain ⟨h1, e1, h2, h3⟩ := h b a hb List.mem_cons_self
    have ih := forGo_fold enc st step P l (step b a) h1 fun b a' hb ha => h b a' hb (List.mem_cons_of_mem _ ha)
    rw [List.map_cons, forGo_cons, h2]
    show ((f e1).seq _) = _ ∧ _
    rw [h3]
    exact ih
theorem forGo_inv {α : Type} {g : Tg} {f : Env' → Out} (enc : α → PyData) (P : Nat → Env' → Prop) : ∀ (l : List α) (i : Nat) (e : Env'), P i e → (∀ a i e, a ∈ l → P i e → ∃ e1 e2, g (.p (enc a)) e = some e1 ∧ f e1 = .nx e2 ∧ P (i + 1) e2) →
    ∃ e', forGo g f (l.map enc) e = .nx e' ∧ P (i + l.length) e'
  | [], i, e, h, _ => ⟨e, rfl, h⟩
  | a :: l, i, e, h, k => by
    obtain ⟨e1, e2, h1, h2, h3⟩ := k a i e List.mem_cons_self h
    obtain ⟨e', q1, q2⟩ := forGo_inv enc P l (i + 1) e2 h3 fun a i e ha => k a i e (List.mem_cons_of_mem _ ha)
    refine ⟨e', ?_, by rw [List.length_cons, show i + (l.length + 1) = i + 1 + l.length by omega]; exact q2⟩
    rw [List.map_cons, forGo_cons, h1]
    show ((f e1).seq _) = _
    rw [h2]; exact q1
theorem lcGo_enc {α : Type} {js g t f} (enc : α → PyData) (x : α → OD) (env : Env') : ∀ l : List α, (∀ a ∈ l, ∃ e1 e2 e3, g (.p (enc a)) env = some e1 ∧ t e1 = .ok true e2 ∧ f e2 = .ok (x a) e3 ∧ clr js e3 = env) →
    lcGo js g t f (l.map enc) env = some (l.map x, env)
  | [], _ => rfl
  | a :: l, h => by
    obtain ⟨e1, e2, e3, h1, h2, h3, h4⟩ := h a List.mem_cons_self
    rw [List.map_cons, lcGo_cons, h1]
    dsimp only
    rw [h2]
    dsimp only
    rw [h3]
    dsimp only
    rw [h4, lcGo_enc enc x env l fun a ha => h a (List.mem_cons_of_mem _ ha)]
    rfl
theorem lcGo_sel {α : Type} {js g t f} (enc : α → PyData) (p : α → Bool) (x : α → OD) (env : Env') : ∀ l : List α, (∀ a ∈ l, ∃ e1 e2, g (.p (enc a)) env = some e1 ∧ t e1 = .ok (p a) e2 ∧ (p a = false → clr js e2 = env) ∧ (p a = true → ∃ e3, f e2 = .ok (x a) e3 ∧ clr js e3 = env)) →
    lcGo js g t f (l.map enc) env = some ((l.filter p).map x, env)
  | [], _ => rfl
  | a :: l, h => by
    obtain ⟨e1, e2, h1, h2, h3, h4⟩ := h a List.mem_cons_self
    have ih := lcGo_sel enc p x env l fun a ha => h a (List.mem_cons_of_mem _ ha)
    rw [List.map_cons, lcGo_cons, h1]
    dsimp only
    rw [h2]
    cases hp : p a with
    | false =>
      dsimp only
      rw [h3 hp, ih, List.filter_cons, hp]; rfl
    | true =>
      obtain ⟨e3, q1, q2⟩ := h4 hp
      dsimp only
      rw [q1]
      dsimp only
      rw [q2, ih, List.filter_cons, hp]; rfl
/-! sizes of numbers -/
def Bd (n : Nat) (x : Int) : Prop := x.natAbs < 2 ^ n
theorem Bd.mono {n m : Nat} {x : Int} (h : Bd n x) (l : n ≤ m) : Bd m x := Nat.lt_of_lt_of_le h (Nat.pow_le_pow_right (by decide) l)
theorem Bd.mul {n m : Nat} {x y : Int} (h : Bd n x) (k : Bd m y) : Bd (n + m) (x * y) := by
  unfold Bd at *
  rw [Int.natAbs_mul, Nat.pow_add]
  rcases Nat.eq_zero_or_pos (y.natAbs) with z | z
  · rw [z, Nat.mul_zero]; exact Nat.mul_pos (Nat.two_pow_pos n) (Nat.two_pow_pos m)
  · exact Nat.lt_of_lt_of_le (Nat.mul_lt_mul_of_pos_right h z) (Nat.mul_le_mul_left _ (Nat.le_of_lt k))
theorem Bd.add {n : Nat} {x y : Int} (h : Bd n x) (k : Bd n y) : Bd (n + 1) (x + y) := by
  unfold Bd at *; rw [Nat.pow_succ]; omega
theorem Bd.sub {n : Nat} {x y : Int} (h : Bd n x) (k : Bd n y) : Bd (n + 1) (x - y) := by
  unfold Bd at *; rw [Nat.pow_succ]; omega
theorem Bd.neg {n : Nat} {x : Int} (h : Bd n x) : Bd n (-x) := by unfold Bd at *; omega
theorem Bd.abs {n : Nat} {x : Int} (h : Bd n x) : Bd n (if x < 0 then -x else x) := by unfold Bd at *; split <;> omega
theorem Bd.nat {n : Nat} {x : Int} (h : Bd n x) : Bd n (x.natAbs : Int) := by unfold Bd at *; omega
theorem Bd.div {n : Nat} {x : Int} (h : Bd n x) {g : Int} (hg : 0 < g) (hd : g ∣ x) : Bd n (x / g) := by
  obtain ⟨c, rfl⟩ := hd
  rw [Int.mul_ediv_cancel_left _ (by omega)]
  unfold Bd at *
  rw [Int.natAbs_mul] at h
  exact Nat.lt_of_le_of_lt (Nat.le_mul_of_pos_left _ (by omega)) h
theorem Bd.of_le {n : Nat} {x : Int} (k : Int) (h1 : -k < x) (h2 : x < k) (hk : k ≤ (2 ^ n : Nat)) : Bd n x := by unfold Bd; omega
theorem Bd.ok {n m : Nat} {x y : Int} (h : Bd n x) (k : Bd m y) (hn : n ≤ 400000 := by decide) (hm : m ≤ 400000 := by decide) : MulOk x y := mulOk_of n m h k hn hm
theorem Bd.dv {n : Nat} {x : Int} (h : Bd n x) (p : 0 < x) (hn : n ≤ 9000 := by decide) : DivOk x := divOk_of p n h hn
/-! data of numbers: equality is equality -/
mutual
/-- made of None, truth values apart, numbers, lists and tuples; not deeper than k -/
def nm : Nat → PyData → Bool
  | _, .none => true
  | _, .int _ => true
  | k + 1, .list ds => nms k ds
  | k + 1, .tuple ds => nms k ds
  | _, _ => false
def nms : Nat → List PyData → Bool
  | _, [] => true
  | k, d :: ds => nm k d && nms k ds
end
theorem nms_iff {k : Nat} : ∀ {ds : List PyData}, nms k ds = true ↔ ∀ d ∈ ds, nm k d = true
  | [] => by simp [nms]
  | d :: ds => by simp [nms, nms_iff (ds := ds)]
mutual
theorem nm_lay : ∀ (k : Nat) (d : PyData), nm k d = true → d.canLay0 = true ∧ d.depth ≤ k
  | _, .none, _ => ⟨by simp [PyData.canLay0], by simp [PyData.depth]⟩
  | _, .int _, _ => ⟨by simp [PyData.canLay0], by simp [PyData.depth]⟩
  | k + 1, .list ds, h => by
    obtain ⟨a, b⟩ := nms_lay k ds (by rw [nm] at h; exact h)
    exact ⟨by rw [PyData.canLay0]; exact a, by rw [PyData.depth]; omega⟩
  | k + 1, .tuple ds, h => by
    obtain ⟨a, b⟩ := nms_lay k ds (by rw [nm] at h; exact h)
    exact ⟨by rw [PyData.canLay0]; exact a, by rw [PyData.depth]; omega⟩
  | 0, .list _, h => by simp [nm] at h
  | 0, .tuple _, h => by simp [nm] at h
  | 0, .bool _, h => by simp [nm] at h
  | k + 1, .bool _, h => by simp [nm] at h
  | 0, .str _, h => by simp [nm] at h
  | k + 1, .str _, h => by simp [nm] at h
  | 0, .dict _, h => by simp [nm] at h
  | k + 1, .dict _, h => by simp [nm] at h
theorem nms_lay : ∀ (k : Nat) (ds : List PyData), nms k ds = true → PyData.canLayAll0 ds = true ∧ PyData.depthAll ds ≤ k
  | _, [], _ => ⟨by simp [PyData.canLayAll0], by simp [PyData.depthAll]⟩
  | k, d :: ds, h => by
    rw [nms, Bool.and_eq_true] at h
    obtain ⟨a, b⟩ := nm_lay k d h.1
    obtain ⟨c, e⟩ := nms_lay k ds h.2
    exact ⟨by rw [PyData.canLayAll0, a, c]; rfl, by rw [PyData.depthAll]; omega⟩
end
theorem nm_sh {k : Nat} {d : PyData} (h : nm k d = true) (hk : k ≤ 64 := by decide) : SeqAt.shaped d = true := by
  obtain ⟨a, b⟩ := nm_lay k d h
  unfold SeqAt.shaped
  rw [a, Bool.true_and, decide_eq_true_eq]; omega
@[simp] theorem oB_eq (b : Bool) : oB b = .p (.bool b) := rfl
mutual
theorem eqv_nm : ∀ (a b : PyData) (k l : Nat), nm k a = true → nm l b = true → a.eqv b = true → a = b
  | .none, b, _, _, _, _, h => by cases b <;> first | rfl | (simp [PyData.eqv] at h; done)
  | .int i, b, _, l, _, hb, h => by
    cases b with
    | int j => rw [PyData.eqv] at h; rw [beq_iff_eq.mp h]
    | bool j => cases l <;> simp [nm] at hb
    | _ => simp [PyData.eqv] at h
  | .list xs, b, k, l, ha, hb, h => by
    cases b with
    | list ys =>
      cases k <;> cases l <;> first | (simp [nm] at ha; done) | (simp [nm] at hb; done) | skip
      rw [nm] at ha hb; rw [PyData.eqv] at h
      rw [eqvs_nm xs ys _ _ ha hb h]
    | _ => simp [PyData.eqv] at h
  | .tuple xs, b, k, l, ha, hb, h => by
    cases b with
    | tuple ys =>
      cases k <;> cases l <;> first | (simp [nm] at ha; done) | (simp [nm] at hb; done) | skip
      rw [nm] at ha hb; rw [PyData.eqv] at h
      rw [eqvs_nm xs ys _ _ ha hb h]
    | _ => simp [PyData.eqv] at h
  | .bool _, _, k, _, ha, _, _ => by cases k <;> simp [nm] at ha
  | .str _, _, k, _, ha, _, _ => by cases k <;> simp [nm] at ha
  | .dict _, _, k, _, ha, _, _ => by cases k <;> simp [nm] at ha
theorem eqvs_nm : ∀ (a b : List PyData) (k l : Nat), nms k a = true → nms l b = true → PyData.eqvAll a b = true → a = b
  | [], b, _, _, _, _, h => by cases b <;> first | rfl | (simp [PyData.eqvAll] at h; done)
  | x :: xs, [], _, _, _, _, h => by simp [PyData.eqvAll] at h
  | x :: xs, y :: ys, k, l, ha, hb, h => by
    rw [nms, Bool.and_eq_true] at ha hb
    rw [PyData.eqvAll, Bool.and_eq_true] at h
    rw [eqv_nm x y k l ha.1 hb.1 h.1, eqvs_nm xs ys k l ha.2 hb.2 h.2]
end
theorem eqv_iff {k l : Nat} {a b : PyData} (ha : nm k a = true) (hb : nm l b = true) : a.eqv b = true ↔ a = b :=
  ⟨eqv_nm a b k l ha hb, fun e => e ▸ SeqAt.eqv_refl a (nm_lay k a ha).1⟩
section
variable {x y : OD} {a b : PyData}
theorem gEq_nm (k l : Nat) (hx : vw x = some a) (hy : vw y = some b) (ha : nm k a = true) (hb : nm l b = true) (hk : k ≤ 64 := by decide) (hl : l ≤ 64 := by decide) : gEq x y = some (oB (PyData.eqv a b)) := by
  unfold gEq; rw [hx, hy]; exact if_pos ⟨nm_sh ha hk, nm_sh hb hl⟩
theorem gNe_nm (k l : Nat) (hx : vw x = some a) (hy : vw y = some b) (ha : nm k a = true) (hb : nm l b = true) (hk : k ≤ 64 := by decide) (hl : l ≤ 64 := by decide) : gNe x y = some (oB (!PyData.eqv a b)) := by
  unfold gNe; rw [hx, hy]; exact if_pos ⟨nm_sh ha hk, nm_sh hb hl⟩
theorem gEq_yes (k : Nat) (hx : vw x = some a) (hy : vw y = some a) (ha : nm k a = true) (hk : k ≤ 64 := by decide) : gEq x y = some (.p (.bool true)) := by
  rw [gEq_nm k k hx hy ha ha hk hk, (eqv_iff ha ha).2 rfl]; rfl
theorem gNe_no (k : Nat) (hx : vw x = some a) (hy : vw y = some a) (ha : nm k a = true) (hk : k ≤ 64 := by decide) : gNe x y = some (.p (.bool false)) := by
  rw [gNe_nm k k hx hy ha ha hk hk, (eqv_iff ha ha).2 rfl]; rfl
theorem eqv_ff {k l : Nat} (ha : nm k a = true) (hb : nm l b = true) (h : a ≠ b) : PyData.eqv a b = false := by
  cases e : PyData.eqv a b with
  | false => rfl
  | true => exact absurd (eqv_nm a b k l ha hb e) h
theorem gEq_not (k l : Nat) (hx : vw x = some a) (hy : vw y = some b) (ha : nm k a = true) (hb : nm l b = true) (h : a ≠ b) (hk : k ≤ 64 := by decide) (hl : l ≤ 64 := by decide) : gEq x y = some (.p (.bool false)) := by
  rw [gEq_nm k l hx hy ha hb hk hl, eqv_ff ha hb h]; rfl
theorem gNe_ne (k l : Nat) (hx : vw x = some a) (hy : vw y = some b) (ha : nm k a = true) (hb : nm l b = true) (h : a ≠ b) (hk : k ≤ 64 := by decide) (hl : l ≤ 64 := by decide) : gNe x y = some (.p (.bool true)) := by
  rw [gNe_nm k l hx hy ha hb hk hl, eqv_ff ha hb h]; rfl
end
@[simp] theorem gEq_i (a b : Int) : gEq (.p (.int a)) (.p (.int b)) = some (.p (.bool (decide (a = b)))) := by
  rw [gEq_nm 1 1 rfl rfl (by simp [nm]) (by simp [nm]), PyData.eqv]
  by_cases h : a = b <;> simp [h]
@[simp] theorem gNe_i (a b : Int) : gNe (.p (.int a)) (.p (.int b)) = some (.p (.bool (!decide (a = b)))) := by
  rw [gNe_nm 1 1 rfl rfl (by simp [nm]) (by simp [nm]), PyData.eqv]
  by_cases h : a = b <;> simp [h]
@[simp] theorem vw_nil : vw (.l []) = some (.list []) := by simp [vw, vws]
@[simp] theorem gEq_nil_l : gEq (.l []) (.l []) = some (.p (.bool true)) := gEq_yes 1 vw_nil vw_nil (by simp [nm, nms])
@[simp] theorem gNe_nil_l : gNe (.l []) (.l []) = some (.p (.bool false)) := gNe_no 1 vw_nil vw_nil (by simp [nm, nms])
/-! isinstance of told values -/
theorem kB_NoneType_int : kitB "NoneType" "int" = some false := by decide +kernel
theorem kB_NoneType_bool : kitB "NoneType" "bool" = some false := by decide +kernel
theorem kB_NoneType_str : kitB "NoneType" "str" = some false := by decide +kernel
theorem kB_NoneType_list : kitB "NoneType" "list" = some false := by decide +kernel
theorem kB_NoneType_tuple : kitB "NoneType" "tuple" = some false := by decide +kernel
theorem kB_bool_int : kitB "bool" "int" = some true := by decide +kernel
theorem kB_bool_bool : kitB "bool" "bool" = some true := by decide +kernel
theorem kB_bool_str : kitB "bool" "str" = some false := by decide +kernel
theorem kB_bool_list : kitB "bool" "list" = some false := by decide +kernel
theorem kB_bool_tuple : kitB "bool" "tuple" = some false := by decide +kernel
theorem kB_int_int : kitB "int" "int" = some true := by decide +kernel
theorem kB_int_bool : kitB "int" "bool" = some false := by decide +kernel
theorem kB_int_str : kitB "int" "str" = some false := by decide +kernel
theorem kB_int_list : kitB "int" "list" = some false := by decide +kernel
theorem kB_int_tuple : kitB "int" "tuple" = some false := by decide +kernel
theorem kB_list_int : kitB "list" "int" = some false := by decide +kernel
theorem kB_list_bool : kitB "list" "bool" = some false := by decide +kernel
theorem kB_list_str : kitB "list" "str" = some false := by decide +kernel
theorem kB_list_list : kitB "list" "list" = some true := by decide +kernel
theorem kB_list_tuple : kitB "list" "tuple" = some false := by decide +kernel
theorem kB_str_int : kitB "str" "int" = some false := by decide +kernel
theorem kB_str_bool : kitB "str" "bool" = some false := by decide +kernel
theorem kB_str_str : kitB "str" "str" = some true := by decide +kernel
theorem kB_str_list : kitB "str" "list" = some false := by decide +kernel
theorem kB_str_tuple : kitB "str" "tuple" = some false := by decide +kernel
theorem kB_tuple_int : kitB "tuple" "int" = some false := by decide +kernel
theorem kB_tuple_bool : kitB "tuple" "bool" = some false := by decide +kernel
theorem kB_tuple_str : kitB "tuple" "str" = some false := by decide +kernel
theorem kB_tuple_list : kitB "tuple" "list" = some false := by decide +kernel
theorem kB_tuple_tuple : kitB "tuple" "tuple" = some true := by decide +kernel
@[simp] theorem gIsi_0 : gIsi "int" (.p .none) = some (.p (.bool false)) := by show (kitB "NoneType" "int").map oB = _; rw [kB_NoneType_int]; rfl
@[simp] theorem gIsi_1 : gIsi "bool" (.p .none) = some (.p (.bool false)) := by show (kitB "NoneType" "bool").map oB = _; rw [kB_NoneType_bool]; rfl
@[simp] theorem gIsi_2 : gIsi "str" (.p .none) = some (.p (.bool false)) := by show (kitB "NoneType" "str").map oB = _; rw [kB_NoneType_str]; rfl
@[simp] theorem gIsi_3 : gIsi "list" (.p .none) = some (.p (.bool false)) := by show (kitB "NoneType" "list").map oB = _; rw [kB_NoneType_list]; rfl
@[simp] theorem gIsi_4 : gIsi "tuple" (.p .none) = some (.p (.bool false)) := by show (kitB "NoneType" "tuple").map oB = _; rw [kB_NoneType_tuple]; rfl
@[simp] theorem gIsi_5 (b : Bool) : gIsi "int" (.p (.bool b)) = some (.p (.bool true)) := by show (kitB "bool" "int").map oB = _; rw [kB_bool_int]; rfl
@[simp] theorem gIsi_6 (b : Bool) : gIsi "bool" (.p (.bool b)) = some (.p (.bool true)) := by show (kitB "bool" "bool").map oB = _; rw [kB_bool_bool]; rfl
@[simp] theorem gIsi_7 (b : Bool) : gIsi "str" (.p (.bool b)) = some (.p (.bool false)) := by show (kitB "bool" "str").map oB = _; rw [kB_bool_str]; rfl
@[simp] theorem gIsi_8 (b : Bool) : gIsi "list" (.p (.bool b)) = some (.p (.bool false)) := by show (kitB "bool" "list").map oB = _; rw [kB_bool_list]; rfl
@[simp] theorem gIsi_9 (b : Bool) : gIsi "tuple" (.p (.bool b)) = some (.p (.bool false)) := by show (kitB "bool" "tuple").map oB = _; rw [kB_bool_tuple]; rfl
@[simp] theorem gIsi_10 (i : Int) : gIsi "int" (.p (.int i)) = some (.p (.bool true)) := by show (kitB "int" "int").map oB = _; rw [kB_int_int]; rfl
@[simp] theorem gIsi_11 (i : Int) : gIsi "bool" (.p (.int i)) = some (.p (.bool false)) := by show (kitB "int" "bool").map oB = _; rw [kB_int_bool]; rfl
@[simp] theorem gIsi_12 (i : Int) : gIsi "str" (.p (.int i)) = some (.p (.bool false)) := by show (kitB "int" "str").map oB = _; rw [kB_int_str]; rfl
@[simp] theorem gIsi_13 (i : Int) : gIsi "list" (.p (.int i)) = some (.p (.bool false)) := by show (kitB "int" "list").map oB = _; rw [kB_int_list]; rfl
@[simp] theorem gIsi_14 (i : Int) : gIsi "tuple" (.p (.int i)) = some (.p (.bool false)) := by show (kitB "int" "tuple").map oB = _; rw [kB_int_tuple]; rfl
@[simp] theorem gIsi_15 (z : Str) : gIsi "int" (.p (.str z)) = some (.p (.bool false)) := by show (kitB "str" "int").map oB = _; rw [kB_str_int]; rfl
@[simp] theorem gIsi_16 (z : Str) : gIsi "bool" (.p (.str z)) = some (.p (.bool false)) := by show (kitB "str" "bool").map oB = _; rw [kB_str_bool]; rfl
@[simp] theorem gIsi_17 (z : Str) : gIsi "str" (.p (.str z)) = some (.p (.bool true)) := by show (kitB "str" "str").map oB = _; rw [kB_str_str]; rfl
@[simp] theorem gIsi_18 (z : Str) : gIsi "list" (.p (.str z)) = some (.p (.bool false)) := by show (kitB "str" "list").map oB = _; rw [kB_str_list]; rfl
@[simp] theorem gIsi_19 (z : Str) : gIsi "tuple" (.p (.str z)) = some (.p (.bool false)) := by show (kitB "str" "tuple").map oB = _; rw [kB_str_tuple]; rfl
@[simp] theorem gIsi_20 (ds : List PyData) : gIsi "int" (.p (.list ds)) = some (.p (.bool false)) := by show (kitB "list" "int").map oB = _; rw [kB_list_int]; rfl
@[simp] theorem gIsi_21 (ds : List PyData) : gIsi "bool" (.p (.list ds)) = some (.p (.bool false)) := by show (kitB "list" "bool").map oB = _; rw [kB_list_bool]; rfl
@[simp] theorem gIsi_22 (ds : List PyData) : gIsi "str" (.p (.list ds)) = some (.p (.bool false)) := by show (kitB "list" "str").map oB = _; rw [kB_list_str]; rfl
@[simp] theorem gIsi_23 (ds : List PyData) : gIsi "list" (.p (.list ds)) = some (.p (.bool true)) := by show (kitB "list" "list").map oB = _; rw [kB_list_list]; rfl
@[simp] theorem gIsi_24 (ds : List PyData) : gIsi "tuple" (.p (.list ds)) = some (.p (.bool false)) := by show (kitB "list" "tuple").map oB = _; rw [kB_list_tuple]; rfl
@[simp] theorem gIsi_25 (ds : List PyData) : gIsi "int" (.p (.tuple ds)) = some (.p (.bool false)) := by show (kitB "tuple" "int").map oB = _; rw [kB_tuple_int]; rfl
@[simp] theorem gIsi_26 (ds : List PyData) : gIsi "bool" (.p (.tuple ds)) = some (.p (.bool false)) := by show (kitB "tuple" "bool").map oB = _; rw [kB_tuple_bool]; rfl
@[simp] theorem gIsi_27 (ds : List PyData) : gIsi "str" (.p (.tuple ds)) = some (.p (.bool false)) := by show (kitB "tuple" "str").map oB = _; rw [kB_tuple_str]; rfl
@[simp] theorem gIsi_28 (ds : List PyData) : gIsi "list" (.p (.tuple ds)) = some (.p (.bool false)) := by show (kitB "tuple" "list").map oB = _; rw [kB_tuple_list]; rfl
@[simp] theorem gIsi_29 (ds : List PyData) : gIsi "tuple" (.p (.tuple ds)) = some (.p (.bool true)) := by show (kitB "tuple" "tuple").map oB = _; rw [kB_tuple_tuple]; rfl
@[simp] theorem gIsi_30 (xs : List OD) : gIsi "int" (.l xs) = some (.p (.bool false)) := by show (kitB "list" "int").map oB = _; rw [kB_list_int]; rfl
@[simp] theorem gIsi_31 (xs : List OD) : gIsi "bool" (.l xs) = some (.p (.bool false)) := by show (kitB "list" "bool").map oB = _; rw [kB_list_bool]; rfl
@[simp] theorem gIsi_32 (xs : List OD) : gIsi "str" (.l xs) = some (.p (.bool false)) := by show (kitB "list" "str").map oB = _; rw [kB_list_str]; rfl
@[simp] theorem gIsi_33 (xs : List OD) : gIsi "list" (.l xs) = some (.p (.bool true)) := by show (kitB "list" "list").map oB = _; rw [kB_list_list]; rfl
@[simp] theorem gIsi_34 (xs : List OD) : gIsi "tuple" (.l xs) = some (.p (.bool false)) := by show (kitB "list" "tuple").map oB = _; rw [kB_list_tuple]; rfl
@[simp] theorem gIsi_35 (xs : List OD) : gIsi "int" (.t xs) = some (.p (.bool false)) := by show (kitB "tuple" "int").map oB = _; rw [kB_tuple_int]; rfl
@[simp] theorem gIsi_36 (xs : List OD) : gIsi "bool" (.t xs) = some (.p (.bool false)) := by show (kitB "tuple" "bool").map oB = _; rw [kB_tuple_bool]; rfl
@[simp] theorem gIsi_37 (xs : List OD) : gIsi "str" (.t xs) = some (.p (.bool false)) := by show (kitB "tuple" "str").map oB = _; rw [kB_tuple_str]; rfl
@[simp] theorem gIsi_38 (xs : List OD) : gIsi "list" (.t xs) = some (.p (.bool false)) := by show (kitB "tuple" "list").map oB = _; rw [kB_tuple_list]; rfl
@[simp] theorem gIsi_39 (xs : List OD) : gIsi "tuple" (.t xs) = some (.p (.bool true)) := by show (kitB "tuple" "tuple").map oB = _; rw [kB_tuple_tuple]; rfl
/-! places in lists -/
theorem atI_nn {α : Type} (xs : List α) {i : Int} (h : 0 ≤ i) : atI xs i = xs[i.toNat]? := by
  unfold atI ixN
  by_cases z : i < (xs.length : Int)
  · simp [h, z]
  · have h2 : ¬ i < 0 := by omega
    simp [h, z, h2]
@[simp] theorem atI_0 {α : Type} (xs : List α) : atI xs 0 = xs[0]? := atI_nn xs (Int.le_refl 0)
@[simp] theorem atI_1 {α : Type} (xs : List α) : atI xs 1 = xs[1]? := atI_nn xs (by decide)
@[simp] theorem atI_2 {α : Type} (xs : List α) : atI xs 2 = xs[2]? := atI_nn xs (by decide)
@[simp] theorem atI_3 {α : Type} (xs : List α) : atI xs 3 = xs[3]? := atI_nn xs (by decide)
@[simp] theorem atI_n {α : Type} (xs : List α) (n : Nat) : atI xs (n : Int) = xs[n]? := atI_nn xs (by omega)
@[simp] theorem atI_m1 {α : Type} (xs : List α) : atI xs (-1) = xs.getLast? := by
  unfold atI ixN
  cases xs with
  | nil => simp
  | cons x xs =>
    have e : (-1 + ((xs.length : Int) + 1)).toNat = xs.length := by omega
    simp; rw [if_pos (by omega)]; simp [List.getLast?_eq_getElem?, e]
section
variable {r : Int} (h : 0 ≤ r)
include h
theorem pick2 (a b : Int) (k : r < 2) : gIx (.l [.p (.int a), .p (.int b)]) (.p (.int r)) = some (.p (.int (if r = 0 then a else b))) := by
  rcases (by omega : r = 0 ∨ r = 1) with e | e <;> subst e <;> rfl
theorem pick3 (a b c : Int) (k : r < 3) : gIx (.l [.p (.int a), .p (.int b), .p (.int c)]) (.p (.int r)) = some (.p (.int (if r = 0 then a else if r = 1 then b else c))) := by
  rcases (by omega : r = 0 ∨ r = 1 ∨ r = 2) with e | e | e <;> subst e <;> rfl
theorem pick4 (a b c d : Int) (k : r < 4) : gIx (.l [.p (.int a), .p (.int b), .p (.int c), .p (.int d)]) (.p (.int r)) = some (.p (.int (if r = 0 then a else if r = 1 then b else if r = 2 then c else d))) := by
  rcases (by omega : r = 0 ∨ r = 1 ∨ r = 2 ∨ r = 3) with e | e | e | e <;> subst e <;> rfl
theorem pick5 (a b c d f : Int) (k : r < 5) : gIx (.l [.p (.int a), .p (.int b), .p (.int c), .p (.int d), .p (.int f)]) (.p (.int r)) = some (.p (.int (if r = 0 then a else if r = 1 then b else if r = 2 then c else if r = 3 then d else f))) := by
  rcases (by omega : r = 0 ∨ r = 1 ∨ r = 2 ∨ r = 3 ∨ r = 4) with e | e | e | e | e <;> subst e <;> rfl
theorem pickD2 (a b : PyData) (k : r < 2) : gIx (.l [.p a, .p b]) (.p (.int r)) = some (.p (if r = 0 then a else b)) := by
  rcases (by omega : r = 0 ∨ r = 1) with e | e <;> subst e <;> rfl
theorem pickD3 (a b c : PyData) (k : r < 3) : gIx (.l [.p a, .p b, .p c]) (.p (.int r)) = some (.p (if r = 0 then a else if r = 1 then b else c)) := by
  rcases (by omega : r = 0 ∨ r = 1 ∨ r = 2) with e | e | e <;> subst e <;> rfl
end
theorem ixN_m1 (n : Nat) : ixN (n + 1) (-1) = some n := by
  unfold ixN
  have e : (-1 + ((n : Int) + 1)).toNat = n := by omega
  simp; exact ⟨by omega, e⟩
@[simp] theorem getLast_ca {α : Type} (x y : α) (xs : List α) : (x :: (xs ++ [y])).getLast? = some y := by
  rw [← List.cons_append, List.getLast?_concat]
theorem forGo_ix {g : Tg} {f : Env' → Out} : ∀ (l : List PyData) (P : Nat → Env' → Prop) (e : Env'), P 0 e → (∀ j (hj : j < l.length) e, P j e → ∃ e1 e2, g (.p l[j]) e = some e1 ∧ f e1 = .nx e2 ∧ P (j + 1) e2) →
    ∃ e', forGo g f l e = .nx e' ∧ P l.length e'
  | [], P, e, h, _ => ⟨e, rfl, h⟩
  | a :: l, P, e, h, k => by
    obtain ⟨e1, e2, h1, h2, h3⟩ := k 0 (by simp) e h
    obtain ⟨e', q1, q2⟩ := forGo_ix l (fun j => P (j + 1)) e2 h3 fun j hj e he => k (j + 1) (by simp; omega) e he
    refine ⟨e', ?_, q2⟩
    rw [forGo_cons]
    rw [show (a :: l)[0] = a from rfl] at h1
    rw [h1]
    show ((f e1).seq _) = _
    rw [h2]; exact q1
theorem forGo_rng {g : Tg} {f : Env' → Out} (lo : Int) (n : Nat) (P : Nat → Env' → Prop) (e : Env') (h0 : P 0 e) (st : ∀ j, j < n → ∀ e, P j e → ∃ e1 e2, g (.p (.int (lo + (j : Int)))) e = some e1 ∧ f e1 = .nx e2 ∧ P (j + 1) e2) :
    ∃ e', forGo g f (rngL lo n) e = .nx e' ∧ P n e' := by
  obtain ⟨e', h1, h2⟩ := forGo_ix (g := g) (f := f) (rngL lo n) P e h0 fun j hj e he => by
    have hj' : j < n := by rwa [rngL_len] at hj
    have : (rngL lo n)[j] = .int (lo + (j : Int)) := (rngL_get (List.getElem?_eq_getElem hj)).2
    rw [this]
    exact st j hj' e he
  exact ⟨e', h1, by rwa [rngL_len] at h2⟩
@[simp] theorem frzs_mapc {α : Type} (f : α → PyData) (xs : List α) : frzs (xs.map (OD.p ∘ f)) = some (xs.map f) := by rw [← List.map_map]; exact frzs_p _
@[simp] theorem allp_mapc {α : Type} (f : α → PyData) (xs : List α) : allp (xs.map (OD.p ∘ f)) = some (xs.map f) := by rw [← List.map_map]; exact allp_map _
@[simp] theorem vws_mapc {α : Type} (f : α → PyData) (xs : List α) : vws (xs.map (OD.p ∘ f)) = some (xs.map f) := by rw [← List.map_map]; exact vws_map _
/-- a list of data, frozen or owned -/
def IsL (x : OD) (ds : List PyData) : Prop := x = .p (.list ds) ∨ x = .l (ds.map .p)
theorem eVar_isL {e : Env'} {i : Nat} {x : OD} {ds : List PyData} (h : lk e i = some x) (hx : IsL x ds) : eVar i e = .ok (.p (.list ds)) (e.set i (.p (.list ds))) := by
  rcases hx with rfl | rfl
  · have h2 : e[i]? = some (.p (.list ds)) := by
      unfold lk at h
      split at h <;> simp_all
    rw [eVar_ap, h]
    have : e.set i (.p (.list ds)) = e := by
      apply List.ext_getElem?
      intro j
      rw [List.getElem?_set]
      split
      · rename_i q; subst q; split
        · exact h2.symm
        · rename_i q; rw [List.getElem?_eq_none (by omega)]
      · rfl
    rw [this]
  · rw [eVar_ap, h]
    simp
theorem lcGo_ix {js g t f} : ∀ (l : List PyData) (x : Nat → OD) (env : Nat → Env'), (∀ j (hj : j < l.length), ∃ e1 e2 e3, g (.p l[j]) (env j) = some e1 ∧ t e1 = .ok true e2 ∧ f e2 = .ok (x j) e3 ∧ clr js e3 = env (j + 1)) →
    lcGo js g t f l (env 0) = some ((List.range l.length).map x, env l.length)
  | [], _, _, _ => rfl
  | a :: l, x, env, h => by
    obtain ⟨e1, e2, e3, h1, h2, h3, h4⟩ := h 0 (by simp)
    rw [show (a :: l)[0] = a from rfl] at h1
    rw [lcGo_cons, h1]
    dsimp only
    rw [h2]
    dsimp only
    rw [h3]
    dsimp only
    rw [h4, show env (0 + 1) = (fun j => env (j + 1)) 0 from rfl, lcGo_ix l (fun j => x (j + 1)) (fun j => env (j + 1)) fun j hj => h (j + 1) (by simp; omega)]
    rw [List.length_cons, List.range_succ_eq_map]
    simp
/-- a comprehension over encoded things, the state growing still after the first round -/
theorem lcGo_enc2 {α : Type} {js g t f} (enc : α → PyData) (x : α → OD) (e0 e1 : Env') (l : List α) (h : ∀ a ∈ l, ∀ e, (e = e0 ∨ e = e1) → ∃ a1 a2 a3, g (.p (enc a)) e = some a1 ∧ t a1 = .ok true a2 ∧ f a2 = .ok (x a) a3 ∧ clr js a3 = e1) :
    lcGo js g t f (l.map enc) e0 = some (l.map x, if l = [] then e0 else e1) := by
  cases l with
  | nil => rfl
  | cons a l =>
    obtain ⟨a1, a2, a3, h1, h2, h3, h4⟩ := h a List.mem_cons_self e0 (.inl rfl)
    rw [List.map_cons, lcGo_cons, h1]
    dsimp only
    rw [h2]
    dsimp only
    rw [h3]
    dsimp only
    rw [h4, lcGo_enc enc x e1 l fun b hb => h b (List.mem_cons_of_mem _ hb) e1 (.inr rfl)]
    rfl
@[simp] theorem cut_1 {α : Type} (a : α) (l : List α) : cut (a :: l) (some 1) none = l := by
  have h1 : HT.sIx (l.length + 1) 0 (some 1) = 1 := by
    show _ = 1
    unfold HT.sIx
    simp
  have h2 : HT.sIx (l.length + 1) (l.length + 1) none = l.length + 1 := rfl
  unfold cut
  rw [List.length_cons, h1, h2]
  simp
@[simp] theorem gSlice_l (xs a b) : gSlice (.l xs) a b = (allp xs).map fun ds => .l ((cut ds a b).map .p) := rfl
@[simp] theorem gSlice_list (xs a b) : gSlice (.p (.list xs)) a b = some (.l ((cut xs a b).map .p)) := rfl
@[simp] theorem frzs_mapf {α : Type} (f : α → PyData) (xs : List α) : frzs (xs.map fun x => OD.p (f x)) = some (xs.map f) := frzs_mapc f xs
@[simp] theorem allp_mapf {α : Type} (f : α → PyData) (xs : List α) : allp (xs.map fun x => OD.p (f x)) = some (xs.map f) := allp_mapc f xs
@[simp] theorem vws_mapf {α : Type} (f : α → PyData) (xs : List α) : vws (xs.map fun x => OD.p (f x)) = some (xs.map f) := vws_mapc f xs
@[simp] theorem vw_lpc {α : Type} (f : α → PyData) (xs : List α) : vw (.l (xs.map (OD.p ∘ f))) = some (.list (xs.map f)) := by rw [← List.map_map]; exact vw_lp _
theorem IsL.vw {x : OD} {ds : List PyData} (h : IsL x ds) : vw x = some (.list ds) := by
  rcases h with rfl | rfl
  · rfl
  · exact vw_lp ds
theorem forGo_rng0 {g : Tg} {f : Env' → Out} (n : Nat) (P : Nat → Env' → Prop) (e : Env') (h0 : P 0 e) (st : ∀ j, j < n → ∀ e, P j e → ∃ e1 e2, g (.p (.int (j : Int))) e = some e1 ∧ f e1 = .nx e2 ∧ P (j + 1) e2) :
    ∃ e', forGo g f (rngL 0 n) e = .nx e' ∧ P n e' := forGo_rng 0 n P e h0 fun j hj e he => by rw [Int.zero_add]; exact st j hj e he
theorem rng1_nat {n : Nat} (h : n < 1000000) : rng1 [.p (.int (n : Int))] = some (rngL 0 n) := by
  rw [rng1_int, if_pos (rngOk (by omega) (by omega))]; rfl
theorem rng2_1 {n : Nat} (h : n < 1000000) : rng2 [.p (.int 1), .p (.int (n : Int))] = some (rngL 1 (n - 1)) := by
  rw [rng2_int, if_pos ⟨rngOk (by omega) (by omega), rngOk (by omega) (by omega)⟩, show ((n : Int) - 1).toNat = n - 1 by omega]
theorem rng1_of {n : Int} (h : -1 ≤ n) (h2 : n < 1000000) : rng1 [.p (.int n)] = some (rngL 0 n.toNat) := by
  rw [rng1_int, if_pos (rngOk (by omega) (by omega))]
@[simp] theorem cut_to1 {α : Type} (a : α) (l : List α) : cut (a :: l) none (some 1) = [a] := by
  have h1 : HT.sIx (l.length + 1) (l.length + 1) (some 1) = 1 := by
    show _ = 1
    unfold HT.sIx
    simp
  have h2 : HT.sIx (l.length + 1) 0 none = 0 := rfl
  unfold cut
  rw [List.length_cons, h1, h2]
  simp
/-! loops over a name's list -/
@[simp] theorem itsA_list (ds) : itsA (.p (.list ds)) = some ds := rfl
@[simp] theorem itsA_l (xs) : itsA (.l xs) = allp xs := rfl
@[simp] theorem itsA_tuple (ds) : itsA (.p (.tuple ds)) = none := rfl
@[simp] theorem itsA_t (xs) : itsA (.t xs) = none := rfl
@[simp] theorem sForA_ap (κ i fall g f e) : sForA κ i fall g f e = match lk e i with
  | none => .st
  | some x => match itsA x with
    | some ds => forGoA i x g f (κ ds) e
    | none => fall e := rfl
@[simp] theorem eLcA_ap (κ i js fit g t f e) : eLcA κ i js fit g t f e = match lk e i with
  | none => .st
  | some x0 => match itsA x0 with
    | some ds => if hol js e = true ∧ (κ ds).length ≤ 40000 ∧ js.contains i = false then lcOut (lcGoA i x0 js g t f (κ ds) e) else .st
    | none => eLc js fit g t f e := rfl
@[simp] theorem eFz_ap (f e) : eFz f e = (f e).bind fun d e => match frz d with
  | some d' => .ok (.p d') e
  | none => .ok d e := rfl
theorem IsL.it {x : OD} {ds : List PyData} (h : IsL x ds) : itsA x = some ds := by
  rcases h with rfl | rfl
  · rfl
  · exact allp_map ds
theorem IsL.lk {x : OD} {ds : List PyData} (h : IsL x ds) {e : Env'} {i : Nat} (q : e[i]? = some x) : lk e i = some x := by
  unfold DL.lk
  rw [q]
  rcases h with rfl | rfl <;> rfl
theorem forGoA_nil {i x g f e} (h : lk e i = some x) : forGoA i x g f [] e = .nx e := by unfold forGoA; exact if_pos h
theorem forGoA_cons {i x g f d ds e} (h : lk e i = some x) : forGoA i x g f (d :: ds) e = match g (.p d) e with
    | none => .st
    | some e1 => (f e1).seq (forGoA i x g f ds) := by rw [forGoA]; exact if_pos h
theorem forGoA_fold {α β : Type} {i : Nat} {x : OD} {g : Tg} {f : Env' → Out} (enc : α → PyData) (st : β → Env') (hk : ∀ b, lk (st b) i = some x) (step : β → α → β) (P : β → Prop) : ∀ (l : List α) (b : β), P b → (∀ b a, P b → a ∈ l → P (step b a) ∧ ∃ e1, g (.p (enc a)) (st b) = some e1 ∧ f e1 = .nx (st (step b a))) →
    forGoA i x g f (l.map enc) (st b) = .nx (st (l.foldl step b)) ∧ P (l.foldl step b)
  | [], b, hb, _ => ⟨forGoA_nil (hk b), hb⟩
  | a :: l, b, hb, h => by
    obtain ⟨h1, e1, h2, h3⟩ := h b a hb List.mem_cons_self
    have ih := forGoA_fold enc st hk step P l (step b a) h1 fun b a' hb ha => h b a' hb (List.mem_cons_of_mem _ ha)
    rw [List.map_cons, forGoA_cons (hk b), h2]
    show ((f e1).seq _) = _ ∧ _
    rw [h3]
    exact ih
theorem forGoA_ix {i : Nat} {x : OD} {g : Tg} {f : Env' → Out} : ∀ (l : List PyData) (P : Nat → Env' → Prop) (e : Env'), (∀ j e, P j e → lk e i = some x) → P 0 e → (∀ j (hj : j < l.length) e, P j e → ∃ e1 e2, g (.p l[j]) e = some e1 ∧ f e1 = .nx e2 ∧ P (j + 1) e2) →
    ∃ e', forGoA i x g f l e = .nx e' ∧ P l.length e'
  | [], P, e, hk, h, _ => ⟨e, forGoA_nil (hk 0 e h), h⟩
  | a :: l, P, e, hk, h, k => by
    obtain ⟨e1, e2, h1, h2, h3⟩ := k 0 (by simp) e h
    obtain ⟨e', q1, q2⟩ := forGoA_ix (i := i) (x := x) l (fun j => P (j + 1)) e2 (fun j => hk (j + 1)) h3 fun j hj e he => k (j + 1) (by simp; omega) e he
    refine ⟨e', ?_, q2⟩
    rw [forGoA_cons (hk 0 e h)]
    rw [show (a :: l)[0] = a from rfl] at h1
    rw [h1]
    show ((f e1).seq _) = _
    rw [h2]; exact q1
theorem lcGoA_nil {i x js g t f e} (h : lk e i = some x) : lcGoA i x js g t f [] e = some ([], e) := by unfold lcGoA; exact if_pos h
theorem lcGoA_enc {α : Type} {i : Nat} {x0 : OD} {js g t f} (enc : α → PyData) (x : α → OD) (env : Env') (hk : lk env i = some x0) : ∀ l : List α, (∀ a ∈ l, ∃ e1 e2 e3, g (.p (enc a)) env = some e1 ∧ t e1 = .ok true e2 ∧ f e2 = .ok (x a) e3 ∧ clr js e3 = env) →
    lcGoA i x0 js g t f (l.map enc) env = some (l.map x, env)
  | [], _ => lcGoA_nil hk
  | a :: l, h => by
    obtain ⟨e1, e2, e3, h1, h2, h3, h4⟩ := h a List.mem_cons_self
    rw [List.map_cons, lcGoA, if_pos hk, h1]
    dsimp only
    rw [h2]
    dsimp only
    rw [h3]
    dsimp only
    rw [h4, lcGoA_enc enc x env hk l fun a ha => h a (List.mem_cons_of_mem _ ha)]
    rfl
theorem lcGoA_sel {α : Type} {i : Nat} {x0 : OD} {js g t f} (enc : α → PyData) (p : α → Bool) (x : α → OD) (env : Env') (hk : lk env i = some x0) : ∀ l : List α, (∀ a ∈ l, ∃ e1 e2, g (.p (enc a)) env = some e1 ∧ t e1 = .ok (p a) e2 ∧ (p a = false → clr js e2 = env) ∧ (p a = true → ∃ e3, f e2 = .ok (x a) e3 ∧ clr js e3 = env)) →
    lcGoA i x0 js g t f (l.map enc) env = some ((l.filter p).map x, env)
  | [], _ => lcGoA_nil hk
  | a :: l, h => by
    obtain ⟨e1, e2, h1, h2, h3, h4⟩ := h a List.mem_cons_self
    have ih := lcGoA_sel enc p x env hk l fun a ha => h a (List.mem_cons_of_mem _ ha)
    rw [List.map_cons, lcGoA, if_pos hk, h1]
    dsimp only
    rw [h2]
    cases hp : p a with
    | false =>
      dsimp only
      rw [h3 hp, ih, List.filter_cons, hp]; rfl
    | true =>
      obtain ⟨e3, q1, q2⟩ := h4 hp
      dsimp only
      rw [q1]
      dsimp only
      rw [q2, ih, List.filter_cons, hp]; rfl
theorem IsL.ix {x : OD} {ds : List PyData} (h : IsL x ds) {k : Nat} {d : PyData} (q : ds[k]? = some d) : gIx x (.p (.int (k : Int))) = some (.p d) := by
  rcases h with rfl | rfl
  · rw [gIx_list, atI_n, q]; rfl
  · rw [gIx_lp, atI_n, q]; rfl
theorem IsL.len {x : OD} {ds : List PyData} (h : IsL x ds) : gLen x = some (.p (.int ds.length)) := by
  rcases h with rfl | rfl
  · rfl
  · rw [gLen_l, List.length_map]
theorem IsL.eqY {x y : OD} {ds : List PyData} (h : IsL x ds) (h2 : IsL y ds) (k : Nat) (hn : nms k ds = true) (hk : k + 1 ≤ 64 := by decide) : gEq x y = some (.p (.bool true)) := gEq_yes (k + 1) h.vw h2.vw (by rw [nm]; exact hn) hk
theorem IsL.neN {x y : OD} {ds : List PyData} (h : IsL x ds) (h2 : IsL y ds) (k : Nat) (hn : nms k ds = true) (hk : k + 1 ≤ 64 := by decide) : gNe x y = some (.p (.bool false)) := gNe_no (k + 1) h.vw h2.vw (by rw [nm]; exact hn) hk
theorem nil_IsL : IsL (.l []) [] := .inr rfl
theorem IsL.eq0 {x : OD} {ds : List PyData} (h : IsL x ds) (k : Nat) (hn : nms k ds = true) (hk : k + 1 ≤ 64 := by decide) : gEq x (.l []) = some (.p (.bool (decide (ds = [])))) := by
  cases ds with
  | nil => exact h.eqY nil_IsL k hn hk
  | cons d ds => exact gEq_not (k + 1) 1 h.vw vw_nil (by rw [nm]; exact hn) (by simp [nm, nms]) (by simp) hk
theorem IsL.ne0 {x : OD} {ds : List PyData} (h : IsL x ds) (k : Nat) (hn : nms k ds = true) (hk : k + 1 ≤ 64 := by decide) : gNe x (.l []) = some (.p (.bool (!decide (ds = [])))) := by
  cases ds with
  | nil => exact h.neN nil_IsL k hn hk
  | cons d ds => exact gNe_ne (k + 1) 1 h.vw vw_nil (by rw [nm]; exact hn) (by simp [nm, nms]) (by simp) hk
theorem gIn_yes {neg : Bool} {y : OD} {d : PyData} {ds : List PyData} (hy : IsL y ds) (k : Nat) (h1 : nm k d = true) (h2 : nms k ds = true) (h : d ∈ ds) (hk : k + 1 ≤ 64 := by decide) : gIn neg (.p d) y = some (.p (.bool (!neg))) := by
  unfold gIn
  rw [hy.vw, vw_p]
  have s2 : SeqAt.shaped (.list ds) = true := nm_sh (k := k + 1) (by rw [nm]; exact h2) hk
  show (if _ then _ else _) = _
  rw [if_pos ⟨nm_sh h1 (by omega), s2⟩]
  have : (ds.any fun z => PyData.eqv z d) = true := List.any_eq_true.2 ⟨d, h, (eqv_iff h1 h1).2 rfl⟩
  rw [this]; cases neg <;> rfl
theorem gIn_no {neg : Bool} {y : OD} {d : PyData} {ds : List PyData} (hy : IsL y ds) (k : Nat) (h1 : nm k d = true) (h2 : nms k ds = true) (h : d ∉ ds) (hk : k + 1 ≤ 64 := by decide) : gIn neg (.p d) y = some (.p (.bool neg)) := by
  unfold gIn
  rw [hy.vw, vw_p]
  have s2 : SeqAt.shaped (.list ds) = true := nm_sh (k := k + 1) (by rw [nm]; exact h2) hk
  show (if _ then _ else _) = _
  rw [if_pos ⟨nm_sh h1 (by omega), s2⟩]
  have : (ds.any fun z => PyData.eqv z d) = false := by
    rw [← Bool.not_eq_true, List.any_eq_true]
    rintro ⟨z, hz, e⟩
    exact h ((eqv_iff (nms_iff.1 h2 z hz) h1).1 e ▸ hz)
  rw [this]; cases neg <;> rfl
theorem gInsert_nat {xs : List OD} {k : Nat} {y : OD} (h : xs.length < 100000) (hk : k ≤ 100000) : gInsert xs [.p (.int (k : Int)), y] = some (.p .none, xs.take k ++ [y] ++ xs.drop k) := by
  show (if _ then _ else _) = _
  rw [if_pos ⟨h, by omega, by omega⟩]
  rfl
@[simp] theorem allp_cl (x xs) : allp (.l x :: xs) = none := rfl
@[simp] theorem allp_ct (x xs) : allp (.t x :: xs) = none := rfl
theorem cut_toN {α : Type} (l : List α) (k : Nat) : cut l none (some (k : Int)) = l.take k := by
  unfold cut
  rw [HT.sIx_nat, HT.sIx_none]
  simp
theorem IsL.slice {x : OD} {ds : List PyData} (h : IsL x ds) (a b : Option Int) : gSlice x a b = some (.l ((cut ds a b).map .p)) := by
  rcases h with rfl | rfl
  · rfl
  · rw [gSlice_l, allp_map]; rfl
theorem gExtend_l {xs zs : List OD} (h : xs.length + zs.length ≤ 100000) : gExtend xs [.l zs] = some (.p .none, xs ++ zs) := by
  show (if _ then _ else _) = _
  rw [if_pos h]
theorem enumL_ix (ds : List PyData) {j : Nat} (h : j < ds.length) : (enumL 0 ds)[j]? = some (.tuple [.int (j : Int), ds[j]]) := by
  have : j < (enumL 0 ds).length := by rw [enumL_len]; exact h
  obtain ⟨e, h1, h2⟩ := enumL_get ds 0 j (List.getElem?_eq_getElem this)
  rw [List.getElem?_eq_getElem this, h2]
  rw [List.getElem?_eq_getElem h] at h1
  cases h1
  simp
@[simp] theorem frz_t (xs) : frz (.t xs) = (frzs xs).map .tuple := by rw [frz]
theorem lcGo_no {α : Type} {js g t f} (enc : α → PyData) (env : Env') (l : List α) (h : ∀ a ∈ l, ∃ e1 e2, g (.p (enc a)) env = some e1 ∧ t e1 = .ok false e2 ∧ clr js e2 = env) : lcGo js g t f (l.map enc) env = some ([], env) := by
  have := lcGo_sel (js := js) (g := g) (t := t) (f := f) enc (fun _ => false) (fun _ => OD.h) env l fun a ha => by
    obtain ⟨e1, e2, h1, h2, h3⟩ := h a ha
    exact ⟨e1, e2, h1, h2, fun _ => h3, fun z => nomatch z⟩
  rw [show l.filter (fun _ => false) = [] from List.filter_eq_nil_iff.2 fun _ _ z => nomatch z] at this
  exact this
theorem lcGoA_no {α : Type} {i : Nat} {x0 : OD} {js g t f} (enc : α → PyData) (env : Env') (hk : lk env i = some x0) (l : List α) (h : ∀ a ∈ l, ∃ e1 e2, g (.p (enc a)) env = some e1 ∧ t e1 = .ok false e2 ∧ clr js e2 = env) : lcGoA i x0 js g t f (l.map enc) env = some ([], env) := by
  have := lcGoA_sel (i := i) (x0 := x0) (js := js) (g := g) (t := t) (f := f) enc (fun _ => false) (fun _ => OD.h) env hk l fun a ha => by
    obtain ⟨e1, e2, h1, h2, h3⟩ := h a ha
    exact ⟨e1, e2, h1, h2, fun _ => h3, fun z => nomatch z⟩
  rw [show l.filter (fun _ => false) = [] from List.filter_eq_nil_iff.2 fun _ _ z => nomatch z] at this
  exact this
theorem lcGo_rno {js g t f} (lo : Int) (n : Nat) (env : Env') (h : ∀ j, j < n → ∃ e1 e2, g (.p (.int (lo + (j : Int)))) env = some e1 ∧ t e1 = .ok false e2 ∧ clr js e2 = env) : lcGo js g t f (rngL lo n) env = some ([], env) :=
  lcGo_no (fun (j : Nat) => PyData.int (lo + (j : Int))) env (List.range n) fun j hj => h j (List.mem_range.1 hj)
theorem IsL.isList {x : OD} {ds : List PyData} (h : IsL x ds) : gIsi "list" x = some (.p (.bool true)) := by
  rcases h with rfl | rfl <;> simp
theorem gSorted_i (l : List Int) : gSorted (.l ((l.map PyData.int).map .p)) = some (.l (((srt l).map PyData.int).map .p)) := by
  have : intsOf (.l ((l.map PyData.int).map .p)) = some l := by
    show (its (.l ((l.map PyData.int).map .p))).bind toInts = some l
    rw [its_lx, allp_map]
    show toInts (l.map PyData.int) = some l
    induction l with
    | nil => rfl
    | cons a l ih => rw [List.map_cons, toInts, ih]; rfl
  unfold gSorted
  rw [this]
  simp [Function.comp_def]
theorem cut_toI {α : Type} (l : List α) {k : Int} (h : 0 ≤ k) : cut l none (some k) = l.take k.toNat := by
  obtain ⟨n, rfl⟩ := Int.eq_ofNat_of_zero_le h
  rw [cut_toN]; simp
@[simp] theorem prtO_l (xs) : prtO (.l xs) = some xs := rfl
@[simp] theorem prtO_t (xs) : prtO (.t xs) = some xs := rfl
@[simp] theorem reOD_l (xs ys) : reOD (.l xs) ys = .l ys := rfl
@[simp] theorem reOD_t (xs ys) : reOD (.t xs) ys = .t ys := rfl
@[simp] theorem eMutI_ap (i k g f env) : eMutI i k g f env = match lk env i with
  | none => .st
  | some x => match prtO x with
    | none => .st
    | some xs => match ixN xs.length k with
      | none => .st
      | some j => match xs[j]? with
        | some (.l ys) => (f (env.set i .h)).bind fun zs e => match g ys zs with
          | some (res, ys') => .ok res (e.set i (reOD x (xs.set j (.l ys'))))
          | none => .st
        | _ => .st := rfl
@[simp] theorem eLenI_ap (i k env) : eLenI i k env = match lk env i with
  | none => .st
  | some x => match prtO x with
    | none => .st
    | some xs => match ixN xs.length k with
      | none => .st
      | some j => match xs[j]? with
        | some (.l ys) => .ok (.p (.int ys.length)) env
        | _ => .st := rfl
@[simp] theorem gLen_t (xs) : gLen (.t xs) = some (.p (.int xs.length)) := rfl
end DL

namespace Lw
noncomputable section
open PySem L2 DL
open DL (R Out)
def φ_law_mix : Fn := fnOfBody 2 3 [0, 1]
 ((sSeq (sIf (eB (eBin gGe (eAt 0) (eVal (eBin gPow (eVal (eC (.int 10))) (eVal (eC (.int 18))))))) (sRet (eBin gSub (eAt 0) (eVal (eBin gPow (eVal (eC (.int 10))) (eVal (eC (.int 18))))))) sNil)
  (sSeq (sSet 2 (eBin gMod (eAt 0) (eVal (eBin gPow (eVal (eC (.int 10))) (eVal (eC (.int 60)))))))
  (sSeq (sSet 2 (eBin gMod (eVal (eBin gMul (eVal (eBin gAdd (eVal (eBin gAdd (eVal (eBin gMul (eAt 2) (eAt 2))) (eVal (eBin gMul (eVal (eBin gMul (eVal (eC (.int 40503))) (eAt 1))) (eAt 1))))) (eVal (eC (.int 7919))))) (eVal (eC (.int 1812433253982451697))))) (eVal (eBin gAdd (eVal (eBin gPow (eVal (eC (.int 10))) (eVal (eC (.int 18))))) (eVal (eC (.int 9)))))))
  (sRet (eBin gMod (eVal (eBin gMul (eVal (eBin gAdd (eVal (eBin gMul (eAt 2) (eAt 2))) (eAt 1))) (eVal (eC (.int 739108512309184756019283746561))))) (eVal (eBin gAdd (eVal (eBin gPow (eVal (eC (.int 10))) (eVal (eC (.int 40))))) (eVal (eC (.int 121)))))))))))
def φ_law_cell_at : Fn := fnOfBody 2 2 [0, 1]
 ((sSeq (sIf (eB (eBin gLt (eAt 1) (eVal (eCall (c1 gLen) (vCons (eAt 0) vNil))))) (sRet (eBin gIx (eAt 0) (eAt 1))) sNil)
  (sRet (eC (.int 0)))))
def law_plane_p0 : Env' → Out := (sFgt [5, 6, 7, 8] (sSeq (sSet 6 (eFn φ_law_mix (bCons (bVal (eFn φ_law_cell_at (bCons (bSlot 0) (bCons (bVal (eBin gAdd (eVal (eBin gAdd (eAt 1) (eVal (eC (.int 1))))) (eAt 5))) bNil)))) (bCons (bVal (eC (.int 7))) bNil))))
  (sSeq (sSet 7 (eBin gIx (eVal (eLst (aCons (eC (.int 19)) (aCons (eC (.int 19)) (aCons (eC (.int 201)) (aCons (eBin gPow (eVal (eC (.int 10))) (eVal (eC (.int 19)))) aNil)))))) (eVal (eBin gMod (eVal (eBin gFdiv (eAt 3) (eVal (eC (.int 20))))) (eVal (eC (.int 4)))))))
  (sSeq (sSet 8 (eTup (aCons (eBin gSub (eVal (eBin gMod (eAt 6) (eAt 7))) (eVal (eBin gFdiv (eAt 7) (eVal (eC (.int 2)))))) (aCons (eBin gSub (eVal (eBin gMod (eVal (eBin gFdiv (eAt 6) (eVal (eBin gPow (eVal (eC (.int 10))) (eVal (eC (.int 19))))))) (eAt 7))) (eVal (eBin gFdiv (eAt 7) (eVal (eC (.int 2)))))) aNil))))
  (sSeq (sIf (eAnd (eB (eBin gEq (eVal (eBin gMod (eVal (eBin gFdiv (eAt 6) (eVal (eBin gPow (eVal (eC (.int 10))) (eVal (eC (.int 38))))))) (eVal (eC (.int 4))))) (eVal (eC (.int 1))))) (eB (eBin gGt (eVal (eCall (c1 gLen) (vCons (eAt 4) vNil))) (eVal (eC (.int 0)))))) (sSet 8 (eBin gIx (eVal (eLst (aCons (eBin gIx (eAt 4) (eVal (eC (.int 0)))) (aCons (eTup (aCons (eBin gIx (eVal (eBin gIx (eAt 4) (eVal (eC (.int 0))))) (eVal (eC (.int 0)))) (aCons (eBin gIx (eAt 8) (eVal (eC (.int 1)))) aNil))) aNil)))) (eVal (eBin gMod (eVal (eBin gFdiv (eAt 6) (eVal (eBin gPow (eVal (eC (.int 10))) (eVal (eC (.int 39))))))) (eVal (eC (.int 2))))))) sNil)
  (sExp (eMut 4 gAppend (aCons (eVar 8) aNil))))))))
def φ_law_plane : Fn := fnOfBody 3 9 [0, 1, 2]
 ((sSeq (sSet 3 (eFn φ_law_mix (bCons (bVal (eFn φ_law_cell_at (bCons (bSlot 0) (bCons (bSlot 1) bNil)))) (bCons (bSlot 1) bNil))))
  (sSeq (sSet 4 (eLst aNil))
  (sSeq (sFor (iArgs rng1 (vCons (eVal (eBin gMod (eAt 3) (eVal (eBin gAdd (eAt 2) (eVal (eC (.int 1))))))) vNil)) (gNm 5) law_plane_p0)
  (sRet (eMv 4))))))
def law_shared_p0 : Env' → Out := (sPar 0 1 (aCons (eVar 1) (aCons (eBin gMod (eAt 0) (eAt 1)) aNil)))
def law_shared_p1 : Env' → R Bool := (eB (eBin gNe (eAt 1) (eVal (eC (.int 0)))))
def φ_law_shared : Fn := fnOfBody 2 2 []
 ((sSeq (sFgt [1] (sWhile (fun e => match e with | [_, .p (.int b)] => b.natAbs + 1 | _ => 0) law_shared_p1 law_shared_p0))
  (sRet (eCall (c1 gAbs) (vCons (eAt 0) vNil)))))
def φ_law_lowest : Fn := fnOfBody 2 3 [0, 1]
 ((sSeq (sSet 2 (eFn φ_law_shared (bCons (bVal (eVar 0)) (bCons (bVal (eVar 1)) bNil))))
  (sRet (eTup (aCons (eBin gFdiv (eAt 0) (eAt 2)) (aCons (eBin gFdiv (eAt 1) (eAt 2)) aNil))))))
def law_side_p0 : Env' → R OD := (eVar 3)
def law_side_p1 : Env' → R OD := (eVar 4)
def φ_law_side : Fn := fnOfBody 1 5 [0]
 ((sSeq (sIf (eB (eBin gEq (eAt 0) (eVal (eLst aNil)))) (sRet (eC (.int 0))) sNil)
  (sSeq (sSet 1 (eLcA id 0 [3, 4] (iSeq (eVar 0)) (gTp 2 (gsCons (gNm 3) (gsCons (gNm 4) gsNil))) tYs law_side_p0))
  (sSeq (sSet 2 (eLcA id 0 [3, 4] (iSeq (eVar 0)) (gTp 2 (gsCons (gNm 3) (gsCons (gNm 4) gsNil))) tYs law_side_p1))
  (sRet (eCall (c2 gMax2) (vCons (eVal (eBin gSub (eVal (eCall (c1 gMax1) (vCons (eAt 1) vNil))) (eVal (eCall (c1 gMin1) (vCons (eAt 1) vNil))))) (vCons (eVal (eBin gSub (eVal (eCall (c1 gMax1) (vCons (eAt 2) vNil))) (eVal (eCall (c1 gMin1) (vCons (eAt 2) vNil))))) vNil))))))))
def law_two_p0 : Env' → R OD := (eVar 6)
def law_two_p1 : Env' → R Bool := (eB (eBin gEq (eVal (eBin gMod (eVal (eBin gShr (eAt 2) (eAt 5))) (eVal (eC (.int 2))))) (eVal (eC (.int 1)))))
def law_two_p2 : Env' → R OD := (eVar 6)
def law_two_p3 : Env' → R Bool := (eB (eBin gEq (eVal (eBin gMod (eVal (eBin gShr (eAt 2) (eAt 5))) (eVal (eC (.int 2))))) (eVal (eC (.int 0)))))
def law_two_p4 : Env' → Out := (sFgt [2, 3, 4] (sSeq (sSet 3 (eLcA (enumL 0) 0 [5, 6] (iEnu (aCons (eVar 0) aNil)) (gTp 2 (gsCons (gNm 5) (gsCons (gNm 6) gsNil))) law_two_p1 law_two_p0))
  (sSeq (sSet 4 (eLcA (enumL 0) 0 [5, 6] (iEnu (aCons (eVar 0) aNil)) (gTp 2 (gsCons (gNm 5) (gsCons (gNm 6) gsNil))) law_two_p3 law_two_p2))
  (sSet 1 (eCall (c2 gMin2) (vCons (eAt 1) (vCons (eVal (eCall (c2 gMax2) (vCons (eVal (eFn φ_law_side (bCons (bSlot 3) bNil))) (vCons (eVal (eFn φ_law_side (bCons (bSlot 4) bNil))) vNil)))) vNil)))))))
def φ_law_two : Fn := fnOfBody 1 7 [0]
 ((sSeq (sSet 1 (eFn φ_law_side (bCons (bSlot 0) bNil)))
  (sSeq (sFor (iArgs rng1 (vCons (eVal (eBin gShl (eVal (eC (.int 1))) (eVal (eCall (c2 gMax2) (vCons (eVal (eC (.int 0))) (vCons (eVal (eBin gSub (eVal (eCall (c1 gLen) (vCons (eAt 0) vNil))) (eVal (eC (.int 1))))) vNil)))))) vNil)) (gNm 2) law_two_p4)
  (sRet (eMv 1)))))
def φ_look_at_many : Fn := fnOfBody 1 1 [0]
 ((sIf (eB (eBin gLt (eAt 0) (eVal (eC (.int 1))))) sNever sNil))
def φ_look_at_two : Fn := fnOfBody 1 1 [0]
 ((sSeq (sExp (eFn φ_look_at_many (bCons (bSlot 0) bNil)))
  (sIf (eB (eBin gGt (eAt 0) (eVal (eC (.int 2))))) sNever sNil)))
def corners_p0 : Env' → R OD := (eVar 5)
def corners_p1 : Env' → R OD := (eVar 5)
def corners_p2 : Env' → R OD := (eVar 6)
def corners_p3 : Env' → R OD := (eVar 6)
def φ_corners : Fn := fnOfBody 1 7 [0]
 ((sSeq (sSet 1 (eCall (c1 gMin1) (vCons (eVal (eLcA id 0 [5, 6] (iSeq (eVar 0)) (gTp 2 (gsCons (gNm 5) (gsCons (gNm 6) gsNil))) tYs corners_p0)) vNil)))
  (sSeq (sSet 2 (eCall (c1 gMax1) (vCons (eVal (eLcA id 0 [5, 6] (iSeq (eVar 0)) (gTp 2 (gsCons (gNm 5) (gsCons (gNm 6) gsNil))) tYs corners_p1)) vNil)))
  (sSeq (sSet 3 (eCall (c1 gMin1) (vCons (eVal (eLcA id 0 [5, 6] (iSeq (eVar 0)) (gTp 2 (gsCons (gNm 5) (gsCons (gNm 6) gsNil))) tYs corners_p2)) vNil)))
  (sSeq (sSet 4 (eCall (c1 gMax1) (vCons (eVal (eLcA id 0 [5, 6] (iSeq (eVar 0)) (gTp 2 (gsCons (gNm 5) (gsCons (gNm 6) gsNil))) tYs corners_p3)) vNil)))
  (sRet (eLst (aCons (eLst (aCons (eTup (aCons (eMv 1) (aCons (eMv 3) aNil))) (aCons (eTup (aCons (eMv 2) (aCons (eMv 4) aNil))) aNil))) (aCons (eLst (aCons (eTup (aCons (eMv 1) (aCons (eMv 4) aNil))) (aCons (eTup (aCons (eMv 2) (aCons (eMv 3) aNil))) aNil))) aNil)))))))))
def divisor_p0 : Env' → Out := (sPar 0 1 (aCons (eVar 1) (aCons (eBin gMod (eAt 0) (eAt 1)) aNil)))
def divisor_p1 : Env' → R Bool := (eB (eBin gNe (eAt 1) (eVal (eC (.int 0)))))
def φ_divisor : Fn := fnOfBody 2 2 []
 ((sSeq (sFgt [1] (sWhile (fun e => match e with | [_, .p (.int b)] => b.natAbs + 1 | _ => 0) divisor_p1 divisor_p0))
  (sRet (eCall (c1 gAbs) (vCons (eAt 0) vNil)))))
def φ_lowest : Fn := fnOfBody 2 3 [0, 1]
 ((sSeq (sSet 2 (eFn φ_divisor (bCons (bVal (eVar 0)) (bCons (bVal (eVar 1)) bNil))))
  (sRet (eTup (aCons (eBin gFdiv (eAt 0) (eAt 2)) (aCons (eBin gFdiv (eAt 1) (eAt 2)) aNil))))))
def φ_side_from : Fn := fnOfBody 2 2 [0, 1]
 ((sRet (eCall (c2 gMax2) (vCons (eVal (eCall (c1 gAbs) (vCons (eVal (eBin gSub (eVal (eBin gIx (eAt 0) (eVal (eC (.int 0))))) (eVal (eBin gIx (eAt 1) (eVal (eC (.int 0))))))) vNil))) (vCons (eVal (eCall (c1 gAbs) (vCons (eVal (eBin gSub (eVal (eBin gIx (eAt 0) (eVal (eC (.int 1))))) (eVal (eBin gIx (eAt 1) (eVal (eC (.int 1))))))) vNil))) vNil)))))
def side_of_two_p0 : Env' → R OD := (eFn φ_side_from (bCons (bSlot 2) (bCons (bSlot 3) bNil)))
def side_of_two_p1 : Env' → R OD := (eCall (c1 gMin1) (vCons (eVal (eLcA id 1 [3] (iSeq (eVar 1)) (gNm 3) tYs side_of_two_p0)) vNil))
def φ_side_of_two : Fn := fnOfBody 2 4 [0, 1]
 ((sRet (eCall (c1 gMax1) (vCons (eVal (eLcA id 0 [2] (iSeq (eVar 0)) (gNm 2) tYs side_of_two_p1)) vNil))))
def best_two_p0 : Env' → R OD := (eTup (aCons (eFn φ_side_of_two (bCons (bSlot 0) (bCons (bSlot 4) bNil))) (aCons (eVar 3) aNil)))
def φ_best_two : Fn := fnOfBody 1 5 [0]
 ((sSeq (sSet 1 (eLc [3, 4] (iEnu (aCons (eFn φ_corners (bCons (bSlot 0) bNil)) aNil)) (gTp 2 (gsCons (gNm 3) (gsCons (gNm 4) gsNil))) tYs best_two_p0))
  (sSeq (sAsg (gTp 2 (gsCons (gNm 2) (gsCons (gNm 3) gsNil))) (eCall (c1 gMinT) (vCons (eAt 1) vNil)))
  (sRet (eTup (aCons (eBin gIx (eVal (eFz (eFn φ_corners (bCons (bSlot 0) bNil)))) (eAt 3)) (aCons (eMv 2) aNil)))))))
def φ_square_least : Fn := fnOfBody 2 4 [0, 1]
 ((sSeq (sExp (eFn φ_look_at_two (bCons (bSlot 1) bNil)))
  (sSeq (sIf (eB (eBin gEq (eVal (eCall (c1 gLen) (vCons (eAt 0) vNil))) (eVal (eC (.int 0))))) (sRet (eTup (aCons (eC (.int 0)) (aCons (eC (.int 1)) aNil)))) sNil)
  (sSeq (sIf (eB (eBin gEq (eAt 1) (eVal (eC (.int 1))))) (sSeq (sAsg (gTp 2 (gsCons (gNm 2) (gsCons (gNm 3) gsNil))) (eBin gIx (eVal (eFz (eFn φ_corners (bCons (bSlot 0) bNil)))) (eVal (eC (.int 0)))))
  (sRet (eFn φ_lowest (bCons (bVal (eCall (c2 gMax2) (vCons (eVal (eBin gSub (eVal (eBin gIx (eAt 3) (eVal (eC (.int 0))))) (eVal (eBin gIx (eAt 2) (eVal (eC (.int 0))))))) (vCons (eVal (eBin gSub (eVal (eBin gIx (eAt 3) (eVal (eC (.int 1))))) (eVal (eBin gIx (eAt 2) (eVal (eC (.int 1))))))) vNil)))) (bCons (bVal (eC (.int 2))) bNil))))) sNil)
  (sRet (eFn φ_lowest (bCons (bVal (eBin gIx (eVal (eFz (eFn φ_best_two (bCons (bSlot 0) bNil)))) (eVal (eC (.int 1))))) (bCons (bVal (eC (.int 2))) bNil))))))))
def law_fraction_p0 : Env' → R OD := (eVar 1)
def law_fraction_p1 : Env' → R Bool := (eOr (eB (eIsi "bool" (eAt 1))) (eNot (eB (eIsi "int" (eAt 1)))))
def φ_law_fraction : Fn := fnOfBody 1 2 [0]
 ((sSeq (sIf (eOr (eNot (eB (eIsi "tuple" (eAt 0)))) (eB (eBin gNe (eVal (eCall (c1 gLen) (vCons (eAt 0) vNil))) (eVal (eC (.int 2)))))) (sRet (eC (.bool false))) sNil)
  (sSeq (sIf (eB (eBin gNe (eVal (eLcA id 0 [1] (iSeq (eVar 0)) (gNm 1) law_fraction_p1 law_fraction_p0)) (eVal (eLst aNil)))) (sRet (eC (.bool false))) sNil)
  (sRet (eAndV (eBin gGt (eVal (eBin gIx (eAt 0) (eVal (eC (.int 1))))) (eVal (eC (.int 0)))) (eBin gEq (eVal (eFn φ_law_shared (bCons (bVal (eBin gIx (eAt 0) (eVal (eC (.int 0))))) (bCons (bVal (eBin gIx (eAt 0) (eVal (eC (.int 1))))) bNil)))) (eVal (eC (.int 1)))))))))
def middle_p0 : Env' → Out := (sFgt [4, 5] (sSeq (sSet 5 (eC (.int 1)))
  (sSeq (sIf (eB (eBin gLt (eVal (eBin gIx (eAt 1) (eAt 4))) (eVal (eBin gIx (eAt 0) (eAt 4))))) (sSet 5 (eUn gNeg (eVal (eC (.int 1))))) sNil)
  (sExp (eMut 3 gAppend (aCons (eFn φ_lowest (bCons (bVal (eBin gAdd (eVal (eBin gMul (eVal (eC (.int 2))) (eVal (eBin gIx (eAt 0) (eAt 4))))) (eVal (eBin gMul (eAt 5) (eAt 2))))) (bCons (bVal (eC (.int 2))) bNil))) aNil))))))
def φ_middle : Fn := fnOfBody 3 6 [0, 1, 2]
 ((sSeq (sSet 3 (eLst aNil))
  (sSeq (sFor (iSeq (eLst (aCons (eC (.int 0)) (aCons (eC (.int 1)) aNil)))) (gNm 4) middle_p0)
  (sRet (eCall (c1 gTuple) (vCons (eAt 3) vNil))))))
def φ_is_below : Fn := fnOfBody 2 2 [0, 1]
 ((sRet (eBin gLt (eVal (eBin gMul (eVal (eBin gIx (eAt 0) (eVal (eC (.int 0))))) (eVal (eBin gIx (eAt 1) (eVal (eC (.int 1))))))) (eVal (eBin gMul (eVal (eBin gIx (eAt 1) (eVal (eC (.int 0))))) (eVal (eBin gIx (eAt 0) (eVal (eC (.int 1))))))))))
def φ_square_posts : Fn := fnOfBody 2 8 [0, 1]
 ((sSeq (sExp (eFn φ_look_at_two (bCons (bSlot 1) bNil)))
  (sSeq (sIf (eB (eBin gEq (eVal (eCall (c1 gLen) (vCons (eAt 0) vNil))) (eVal (eC (.int 0))))) (sRet (eLst aNil)) sNil)
  (sSeq (sAsg (gTp 2 (gsCons (gNm 2) (gsCons (gNm 3) gsNil))) (eBin gIx (eVal (eFz (eFn φ_corners (bCons (bSlot 0) bNil)))) (eVal (eC (.int 0)))))
  (sSeq (sIf (eB (eBin gEq (eAt 1) (eVal (eC (.int 1))))) (sRet (eLst (aCons (eTup (aCons (eFn φ_lowest (bCons (bVal (eBin gAdd (eVal (eBin gIx (eAt 2) (eVal (eC (.int 0))))) (eVal (eBin gIx (eAt 3) (eVal (eC (.int 0))))))) (bCons (bVal (eC (.int 2))) bNil))) (aCons (eFn φ_lowest (bCons (bVal (eBin gAdd (eVal (eBin gIx (eAt 2) (eVal (eC (.int 1))))) (eVal (eBin gIx (eAt 3) (eVal (eC (.int 1))))))) (bCons (bVal (eC (.int 2))) bNil))) aNil))) aNil))) sNil)
  (sSeq (sAsg (gTp 2 (gsCons (gNm 4) (gsCons (gNm 5) gsNil))) (eFn φ_best_two (bCons (bSlot 0) bNil)))
  (sSeq (sSet 6 (eFn φ_middle (bCons (bVal (eBin gIx (eAt 4) (eVal (eC (.int 0))))) (bCons (bVal (eBin gIx (eAt 4) (eVal (eC (.int 1))))) (bCons (bSlot 5) bNil)))))
  (sSeq (sSet 7 (eFn φ_middle (bCons (bVal (eBin gIx (eAt 4) (eVal (eC (.int 1))))) (bCons (bVal (eBin gIx (eAt 4) (eVal (eC (.int 0))))) (bCons (bSlot 5) bNil)))))
  (sSeq (sIf (eB (eBin gEq (eAt 6) (eAt 7))) (sRet (eLst (aCons (eMv 6) aNil))) sNil)
  (sSeq (sIf (eOr (eB (eFn φ_is_below (bCons (bVal (eBin gIx (eAt 7) (eVal (eC (.int 0))))) (bCons (bVal (eBin gIx (eAt 6) (eVal (eC (.int 0))))) bNil)))) (eAnd (eB (eBin gEq (eVal (eBin gIx (eAt 7) (eVal (eC (.int 0))))) (eVal (eBin gIx (eAt 6) (eVal (eC (.int 0))))))) (eB (eFn φ_is_below (bCons (bVal (eBin gIx (eAt 7) (eVal (eC (.int 1))))) (bCons (bVal (eBin gIx (eAt 6) (eVal (eC (.int 1))))) bNil)))))) (sRet (eLst (aCons (eMv 7) (aCons (eMv 6) aNil)))) sNil)
  (sRet (eLst (aCons (eMv 6) (aCons (eMv 7) aNil))))))))))))))
def φ_law_less : Fn := fnOfBody 2 2 [0, 1]
 ((sRet (eBin gLt (eVal (eBin gMul (eVal (eBin gIx (eAt 0) (eVal (eC (.int 0))))) (eVal (eBin gIx (eAt 1) (eVal (eC (.int 1))))))) (eVal (eBin gMul (eVal (eBin gIx (eAt 1) (eVal (eC (.int 0))))) (eVal (eBin gIx (eAt 0) (eVal (eC (.int 1))))))))))
def law_way_p0 : Env' → Out := (sFgt [3, 4, 5] (sSeq (sAsg (gTp 2 (gsCons (gNm 4) (gsCons (gNm 5) gsNil))) (eBin gIx (eAt 1) (eAt 3)))
  (sExp (eMut 2 gAppend (aCons (eFn φ_law_lowest (bCons (bVal (eCall (c1 gAbs) (vCons (eVal (eBin gSub (eVal (eBin gMul (eVal (eBin gIx (eAt 0) (eAt 3))) (eAt 5))) (eAt 4))) vNil))) (bCons (bSlot 5) bNil))) aNil)))))
def φ_law_way : Fn := fnOfBody 2 6 [0, 1]
 ((sSeq (sSet 2 (eLst aNil))
  (sSeq (sFor (iSeq (eLst (aCons (eC (.int 0)) (aCons (eC (.int 1)) aNil)))) (gNm 3) law_way_p0)
  (sRet (eBin gIx (eAt 2) (eVal (eCall (c1 gInt) (vCons (eVal (eFn φ_law_less (bCons (bVal (eBin gIx (eAt 2) (eVal (eC (.int 0))))) (bCons (bVal (eBin gIx (eAt 2) (eVal (eC (.int 1))))) bNil)))) vNil))))))))
def law_square_reach_p0 : Env' → Out := (sFgt [5] (sIf (eB (eFn φ_law_less (bCons (bVal (eFn φ_law_way (bCons (bSlot 3) (bCons (bSlot 5) bNil)))) (bCons (bSlot 4) bNil)))) (sSet 4 (eFn φ_law_way (bCons (bSlot 3) (bCons (bSlot 5) bNil)))) sNil))
def law_square_reach_p1 : Env' → Out := (sFgt [3, 4, 5] (sSeq (sSet 4 (eFn φ_law_way (bCons (bSlot 3) (bCons (bVal (eBin gIx (eAt 1) (eVal (eC (.int 0))))) bNil))))
  (sSeq (sForA id 1 (sFor (iSeq (eVar 1)) (gNm 5) law_square_reach_p0) (gNm 5) law_square_reach_p0)
  (sIf (eB (eFn φ_law_less (bCons (bSlot 2) (bCons (bSlot 4) bNil)))) (sSet 2 (eVar 4)) sNil))))
def φ_law_square_reach : Fn := fnOfBody 2 6 [0, 1]
 ((sSeq (sSet 2 (eTup (aCons (eC (.int 0)) (aCons (eC (.int 1)) aNil))))
  (sSeq (sForA id 0 (sFor (iSeq (eVar 0)) (gNm 3) law_square_reach_p1) (gNm 3) law_square_reach_p1)
  (sRet (eMv 2)))))
def law_posts_p0 : Env' → Out := (sFgt [4] (sIf (eOr (eNot (eB (eIsi "tuple" (eAt 4)))) (eOr (eB (eBin gNe (eVal (eCall (c1 gLen) (vCons (eAt 4) vNil))) (eVal (eC (.int 2))))) (eOr (eNot (eB (eFn φ_law_fraction (bCons (bVal (eBin gIx (eAt 4) (eVal (eC (.int 0))))) bNil)))) (eNot (eB (eFn φ_law_fraction (bCons (bVal (eBin gIx (eAt 4) (eVal (eC (.int 1))))) bNil))))))) (sRet (eC (.bool false))) sNil))
def law_posts_p1 : Env' → Out := (sFgt [5, 6, 7] (sSeq (sSet 6 (eBin gIx (eAt 1) (eVal (eBin gSub (eAt 5) (eVal (eC (.int 1)))))))
  (sSeq (sSet 7 (eBin gIx (eAt 1) (eAt 5)))
  (sIf (eAnd (eNot (eB (eFn φ_law_less (bCons (bVal (eBin gIx (eAt 6) (eVal (eC (.int 0))))) (bCons (bVal (eBin gIx (eAt 7) (eVal (eC (.int 0))))) bNil))))) (eOr (eB (eBin gNe (eVal (eBin gIx (eAt 6) (eVal (eC (.int 0))))) (eVal (eBin gIx (eAt 7) (eVal (eC (.int 0))))))) (eNot (eB (eFn φ_law_less (bCons (bVal (eBin gIx (eAt 6) (eVal (eC (.int 1))))) (bCons (bVal (eBin gIx (eAt 7) (eVal (eC (.int 1))))) bNil))))))) (sRet (eC (.bool false))) sNil))))
def φ_law_posts : Fn := fnOfBody 4 8 [0, 1, 2, 3]
 ((sSeq (sIf (eOr (eNot (eB (eIsi "list" (eAt 1)))) (eOr (eB (eBin gGt (eVal (eCall (c1 gLen) (vCons (eAt 1) vNil))) (eAt 2))) (eB (eBin gNe (eVal (eBin gEq (eAt 1) (eVal (eLst aNil)))) (eVal (eBin gEq (eAt 0) (eVal (eLst aNil)))))))) (sRet (eC (.bool false))) sNil)
  (sSeq (sForA id 1 (sFor (iSeq (eVar 1)) (gNm 4) law_posts_p0) (gNm 4) law_posts_p0)
  (sSeq (sFor (iArgs rng2 (vCons (eVal (eC (.int 1))) (vCons (eVal (eCall (c1 gLen) (vCons (eAt 1) vNil))) vNil))) (gNm 5) law_posts_p1)
  (sRet (eOrV (eBin gEq (eAt 0) (eVal (eLst aNil))) (eBin gEq (eVal (eFn φ_law_square_reach (bCons (bSlot 0) (bCons (bSlot 1) bNil)))) (eAt 3))))))))
def law_s0 : Env' → Out := (sSet 4 (eFn φ_law_lowest (bCons (bVal (eBin gIx (eVal (eLst (aCons (eFn φ_law_side (bCons (bSlot 1) bNil)) (aCons (eFn φ_law_two (bCons (bSlot 1) bNil)) aNil)))) (eVal (eBin gSub (eAt 3) (eVal (eC (.int 1))))))) (bCons (bVal (eC (.int 2))) bNil))))
def law_s1 : Env' → Out := (sSet 5 (eFn φ_square_least (bCons (bSlot 2) (bCons (bSlot 3) bNil))))
def law_s2 : Env' → Out := (sIf (eOr (eNot (eB (eFn φ_law_fraction (bCons (bSlot 5) bNil)))) (eB (eBin gNe (eAt 5) (eAt 4)))) (sRet (eC (.bool false))) sNil)
def law_s3 : Env' → Out := (sSet 6 (eFn φ_square_posts (bCons (bSlot 2) (bCons (bSlot 3) bNil))))
def law_s4 : Env' → Out := (sIf (eNot (eB (eFn φ_law_posts (bCons (bSlot 1) (bCons (bSlot 6) (bCons (bSlot 3) (bCons (bSlot 4) bNil))))))) (sRet (eC (.bool false))) sNil)
def law_s5 : Env' → Out := (sExp (eMut 6 gClear aNil))
def law_s6 : Env' → Out := (sIf (eOr (eNot (eB (eFn φ_law_posts (bCons (bSlot 1) (bCons (bVal (eFn φ_square_posts (bCons (bSlot 2) (bCons (bSlot 3) bNil)))) (bCons (bSlot 3) (bCons (bSlot 4) bNil))))))) (eB (eBin gNe (eAt 2) (eAt 1)))) (sRet (eC (.bool false))) sNil)
def law_p0 : Env' → Out := (sFgt [3, 4, 5, 6] (sSeq law_s0
  (sSeq law_s1
  (sSeq law_s2
  (sSeq law_s3
  (sSeq law_s4
  (sSeq law_s5
  law_s6)))))))
def φ_law : Fn := fnOfBody 1 7 [0]
 ((sSeq (sSet 1 (eFn φ_law_plane (bCons (bSlot 0) (bCons (bVal (eC (.int 0))) (bCons (bVal (eC (.int 7))) bNil)))))
  (sSeq (sSet 2 (eCall (c1 gList) (vCons (eAt 1) vNil)))
  (sSeq (sFor (iSeq (eLst (aCons (eC (.int 2)) (aCons (eC (.int 1)) (aCons (eC (.int 2)) aNil))))) (gNm 3) law_p0)
  (sRet (eC (.bool true)))))))
end
end Lw

namespace Lw
open PySem L2 DL
open DL (R Out)
/-! ### fractions -/
def eF (f : Int × Int) : PyData := .tuple [.int f.1, .int f.2]
abbrev pI (i : Int) : OD := .p (.int i)
theorem wh_gcd : ∀ (n : Nat) (a b : Int), 0 ≤ b → b.natAbs < n → ∃ x : Int, x.natAbs = Int.gcd a b ∧ whGo divisor_p1 divisor_p0 n [pI a, pI b] = .nx [pI x, pI 0]
  | 0, _, _, _, h => by omega
  | n + 1, a, b, hb, h => by
    by_cases z : b = 0
    · subst z
      refine ⟨a, by simp, ?_⟩
      rw [whGo]
      simp [divisor_p1]
    · have hp : 0 < b := by omega
      have h2 : 0 ≤ a % b := Int.emod_nonneg _ z
      have h3 : a % b < b := Int.emod_lt_of_pos _ hp
      obtain ⟨x, h4, h5⟩ := wh_gcd n b (a % b) h2 (by omega)
      refine ⟨x, ?_, ?_⟩
      · rw [h4, Int.gcd_comm, Int.emod_def, Int.gcd_sub_mul_left_left]
      · rw [whGo]
        simp [divisor_p1, divisor_p0, z, hp]
        exact h5
theorem divisor_ok (a b : Int) (hb : 0 ≤ b) : φ_divisor [pI a, pI b] = .ok (pI (Int.gcd a b)) [.h, .h] := by
  obtain ⟨x, h1, h2⟩ := wh_gcd (b.natAbs + 1) a b hb (by omega)
  have h3 : (if x < 0 then -x else x) = (Int.gcd a b : Int) := by rw [← h1]; split <;> omega
  simp [φ_divisor, fnOfBody_ap, h2, h3]
/-- lowest terms -/
def low (a b : Int) : Int × Int := (a / Int.gcd a b, b / Int.gcd a b)
theorem gcd_pos {a b : Int} (hb : 0 < b) : 0 < (Int.gcd a b : Int) := by
  have := Int.gcd_pos_of_ne_zero_right a (show b ≠ 0 by omega)
  omega
theorem gcd_le {a b : Int} (hb : 0 < b) : (Int.gcd a b : Int) ≤ b := Int.gcd_le_right a hb
theorem lowest_ok {a b : Int} (hb : 0 < b) (k : Bd 9000 b) : φ_lowest [pI a, pI b] = .ok (.p (eF (low a b))) [pI a, pI b] := by
  have h1 := gcd_pos (a := a) hb
  have h2 := gcd_le (a := a) hb
  have d : DivOk (Int.gcd a b : Int) := Bd.dv (n := 9000) (by unfold Bd at *; omega) h1
  simp [φ_lowest, fnOfBody_ap, divisor_ok a b (by omega), d, eF, low]
theorem low_pos {a b : Int} (hb : 0 < b) : 0 < (low a b).2 := by
  have h1 := gcd_pos (a := a) hb
  exact Int.ediv_pos_of_pos_of_dvd hb (by omega) (Int.gcd_dvd_right a b)
theorem low_gcd {a b : Int} (hb : 0 < b) : Int.gcd (low a b).1 (low a b).2 = 1 := Int.gcd_ediv_gcd_ediv_gcd (by have := gcd_pos (a := a) hb; omega)
theorem low_bd1 {a b : Int} {n : Nat} (hb : 0 < b) (h : Bd n a) : Bd n (low a b).1 := h.div (gcd_pos hb) (Int.gcd_dvd_left a b)
theorem low_bd2 {a b : Int} {n : Nat} (hb : 0 < b) (h : Bd n b) : Bd n (low a b).2 := h.div (gcd_pos hb) (Int.gcd_dvd_right a b)
/-- a fraction in lowest terms, both parts below 2 ^ n -/
structure Fr (n : Nat) (f : Int × Int) : Prop where
  pos : 0 < f.2
  one : Int.gcd f.1 f.2 = 1
  b1 : Bd n f.1
  b2 : Bd n f.2
theorem Fr.mono {n m : Nat} {f} (h : Fr n f) (l : n ≤ m) : Fr m f := ⟨h.pos, h.one, h.b1.mono l, h.b2.mono l⟩
theorem low_fr {a b : Int} {n : Nat} (hb : 0 < b) (h : Bd n a) (k : Bd n b) : Fr n (low a b) := ⟨low_pos hb, low_gcd hb, low_bd1 hb h, low_bd2 hb k⟩
theorem fr0 {n : Nat} (h : 1 ≤ n) : Fr n (0, 1) := ⟨by decide, rfl, Bd.mono (n := 1) (by unfold Bd; decide) h, Bd.mono (n := 1) (by unfold Bd; decide) h⟩
/-- less -/
def below (f g : Int × Int) : Bool := decide (f.1 * g.2 < g.1 * f.2)
theorem below_self (f : Int × Int) : below f f = false := by simp [below]
theorem below_ok {n : Nat} {f g : Int × Int} (hf : Fr n f) (hg : Fr n g) (hn : n ≤ 400000) : φ_is_below [.p (eF f), .p (eF g)] = .ok (.p (.bool (below f g))) [.p (eF f), .p (eF g)] := by
  have h1 := hf.b1.ok hg.b2 hn hn
  have h2 := hg.b1.ok hf.b2 hn hn
  simp [φ_is_below, fnOfBody_ap, eF, atI, ixN, h1, h2, below]
theorem law_shared_ok (a b : Int) (hb : 0 ≤ b) : φ_law_shared [pI a, pI b] = .ok (pI (Int.gcd a b)) [.h, .h] := divisor_ok a b hb
theorem law_lowest_ok {a b : Int} (hb : 0 < b) (k : Bd 9000 b) : φ_law_lowest [pI a, pI b] = .ok (.p (eF (low a b))) [pI a, pI b] := lowest_ok hb k
theorem law_less_ok {n : Nat} {f g : Int × Int} (hf : Fr n f) (hg : Fr n g) (hn : n ≤ 400000) : φ_law_less [.p (eF f), .p (eF g)] = .ok (.p (.bool (below f g))) [.p (eF f), .p (eF g)] := below_ok hf hg hn
/-! ### the drawn numbers -/
def cellN (ns : List Int) (k : Int) : Int := if k < (ns.length : Int) then ns[k.toNat]?.getD 0 else 0
theorem cell_ok (ns : List Int) {k : Int} (hk : 0 ≤ k) : φ_law_cell_at [.sc ns, pI k] = .ok (pI (cellN ns k)) [.sc ns, pI k] := by
  by_cases h : k < (ns.length : Int)
  · have h2 : k.toNat < ns.length := by omega
    simp [φ_law_cell_at, fnOfBody_ap, h, atI_nn _ hk, cellN, h2, oI]
  · simp [φ_law_cell_at, fnOfBody_ap, h, cellN]
def mixN (u k : Int) : Int := if 10 ^ 18 ≤ u then u - 10 ^ 18 else
  let n := (u % 10 ^ 60 * (u % 10 ^ 60) + 40503 * k * k + 7919) * 1812433253982451697 % (10 ^ 18 + 9)
  (n * n + k) * 739108512309184756019283746561 % (10 ^ 40 + 121)
theorem mixN_nn (u k : Int) : 0 ≤ mixN u k := by
  unfold mixN
  split
  · omega
  · exact Int.emod_nonneg _ (by decide)
theorem mix_ok (u : Int) {k : Int} (h0 : 0 ≤ k) (h1 : k < 1000) : φ_law_mix [pI u, pI k] = .ok (pI (mixN u k)) [pI u, pI k] := by
  by_cases h : (10 : Int) ^ 18 ≤ u
  · have h' : (1000000000000000000 : Int) ≤ u := h
    simp [φ_law_mix, fnOfBody_ap, mixN, h']
  · have h' : ¬ (1000000000000000000 : Int) ≤ u := h
    have b0 : Bd 200 (u % 1000000000000000000000000000000000000000000000000000000000000) := Bd.of_le (10 ^ 60) (by omega) (by omega) (by decide)
    have b1 : DL.MulOk (u % 1000000000000000000000000000000000000000000000000000000000000) (u % 1000000000000000000000000000000000000000000000000000000000000) := b0.ok b0
    have b2 : DL.MulOk (40503 * k) k := mulOk_r (40503 * k) (j := k) (by omega) (by omega)
    have b3 : DL.MulOk 40503 k := mulOk_r 40503 (j := k) (by omega) (by omega)
    have k0 : Bd 10 k := Bd.of_le 1000 (by omega) (by omega) (by decide)
    have c0 : Bd 36 (40503 * k * k) := Bd.mul (n := 26) (m := 10) (Bd.mul (n := 16) (m := 10) (by unfold Bd; decide) k0) k0
    have c1 : ∀ x, Bd 400 x → Bd 402 (x + 40503 * k * k + 7919) := fun x hx => Bd.add (Bd.add hx (c0.mono (by decide))) (Bd.mono (n := 20) (m := 401) (by unfold Bd; decide) (by decide))
    have b4 := (c1 _ (Bd.mul b0 b0)).ok (show Bd 100 1812433253982451697 by unfold Bd; decide)
    generalize hn : ((u % 1000000000000000000000000000000000000000000000000000000000000) * (u % 1000000000000000000000000000000000000000000000000000000000000) + 40503 * k * k + 7919) * 1812433253982451697 % 1000000000000000009 = n
    have d0 : Bd 100 n := by rw [← hn]; exact Bd.of_le (10 ^ 18 + 9) (by omega) (by omega) (by decide)
    have b5 : DL.MulOk n n := d0.ok d0
    have b6 : DL.MulOk (n * n + k) 739108512309184756019283746561 := Bd.ok (n := 201) (m := 100) (Bd.add (Bd.mul d0 d0) (Bd.of_le 1000 (by omega) (by omega) (by decide))) (by unfold Bd; decide)
    simp [φ_law_mix, fnOfBody_ap, mixN, h', b1, b2, b3, b4, hn, b5, b6]
/-! ### folk on a plane -/
structure Pl (p : Int × Int) : Prop where
  x0 : -10000000000000000000000000 ≤ p.1
  x1 : p.1 ≤ 10000000000000000000000000
  y0 : -10000000000000000000000000 ≤ p.2
  y1 : p.2 ≤ 10000000000000000000000000
/-- in narrower bounds -/
structure PlS (p : Int × Int) : Prop where
  x0 : -10000000000000000000 ≤ p.1
  x1 : p.1 ≤ 10000000000000000000
  y0 : -10000000000000000000 ≤ p.2
  y1 : p.2 ≤ 10000000000000000000
theorem PlS.pl {p : Int × Int} (h : PlS p) : Pl p := ⟨by have := h.x0; omega, by have := h.x1; omega, by have := h.y0; omega, by have := h.y1; omega⟩
theorem Pl.b1 {f : Int × Int} (hf : Pl f) : Bd 84 f.1 := Bd.of_le 10000000000000000000000001 (by have := hf.x0; omega) (by have := hf.x1; omega) (by decide)
theorem Pl.b2 {f : Int × Int} (hf : Pl f) : Bd 84 f.2 := Bd.of_le 10000000000000000000000001 (by have := hf.y0; omega) (by have := hf.y1; omega) (by decide)
theorem gIx_eF0 (f : Int × Int) : gIx (.p (eF f)) (.p (.int 0)) = some (.p (.int f.1)) := rfl
theorem gIx_eF1 (f : Int × Int) : gIx (.p (eF f)) (.p (.int 1)) = some (.p (.int f.2)) := rfl
abbrev planeE (ns : List Int) (a m h : Int) (ds : List PyData) (k : OD) : Env' := [.sc ns, pI a, pI m, pI h, .l (ds.map .p), k, .h, .h, .h]
theorem plane_step (ns : List Int) {a m h k : Int} (fs : List (Int × Int)) (hf : ∀ f ∈ fs, PlS f) (hl : fs.length < 100) (ha : 0 ≤ a) (hh : 0 ≤ h) (hk : 0 ≤ k) :
    ∃ g, PlS g ∧ law_plane_p0 (planeE ns a m h (fs.map eF) (pI k)) = .nx (planeE ns a m h ((fs ++ [g]).map eF) .h) := by
  have c := cell_ok ns (k := a + 1 + k) (by omega)
  generalize cellN ns (a + 1 + k) = u at c
  have mx := mix_ok u (k := 7) (by decide) (by decide)
  have mn := mixN_nn u 7
  generalize mixN u 7 = n at mx mn
  have r1 : 0 ≤ h / 20 % 4 := by omega
  have r2 : h / 20 % 4 < 4 := by omega
  have s1 := pick4 r1 19 19 201 10000000000000000000 r2
  have s3 := fun x y => pickD2 (r := n / 1000000000000000000000000000000000000000 % 2) (by omega) x y (by omega)
  generalize hs : (if h / 20 % 4 = 0 then (19 : Int) else if h / 20 % 4 = 1 then 19 else if h / 20 % 4 = 2 then 201 else 10000000000000000000) = s at s1
  have hs1 : 1 ≤ s ∧ s ≤ 10000000000000000000 := by rw [← hs]; repeat' split <;> omega
  have q1 : 0 ≤ n % s := Int.emod_nonneg _ (by omega)
  have q2 : n % s < s := Int.emod_lt_of_pos _ (by omega)
  have q3 : 0 ≤ n / 10000000000000000000 % s := Int.emod_nonneg _ (by omega)
  have q4 : n / 10000000000000000000 % s < s := Int.emod_lt_of_pos _ (by omega)
  have hfo : PlS (n % s - s / 2, n / 10000000000000000000 % s - s / 2) := ⟨by simp only; omega, by simp only; omega, by simp only; omega, by simp only; omega⟩
  have sp : 0 < s := by omega
  cases fs with
  | nil =>
    refine ⟨_, hfo, ?_⟩
    simp [law_plane_p0, planeE, c, mx, s1, eF, sp]
  | cons f fs =>
    have hl' : fs.length + 1 < 100000 := by simp at hl; omega
    have l2 : (0 : Int) < (fs.length : Int) + 1 := by omega
    by_cases z : n / 100000000000000000000000000000000000000 % 4 = 1
    · rcases (by omega : n / 1000000000000000000000000000000000000000 % 2 = 0 ∨ n / 1000000000000000000000000000000000000000 % 2 = 1) with y | y
      · refine ⟨f, hf f List.mem_cons_self, ?_⟩
        rw [y] at s3
        simp [law_plane_p0, planeE, c, mx, s1, s3, eF, sp, z, y, hl', gIx_l, l2]
      · refine ⟨(f.1, n / 10000000000000000000 % s - s / 2), ⟨(hf f List.mem_cons_self).x0, (hf f List.mem_cons_self).x1, hfo.y0, hfo.y1⟩, ?_⟩
        rw [y] at s3
        simp [law_plane_p0, planeE, c, mx, s1, s3, eF, sp, z, y, hl', gIx_l, l2]
    · refine ⟨_, hfo, ?_⟩
      simp [law_plane_p0, planeE, c, mx, s1, eF, sp, z, hl']
theorem plane_ok (ns : List Int) {a m : Int} (ha : 0 ≤ a) (ha2 : a < 900) (hm : 0 ≤ m) (hm2 : m < 90) :
    ∃ fs : List (Int × Int), (∀ f ∈ fs, PlS f) ∧ (fs.length : Int) ≤ m ∧ φ_law_plane [.sc ns, pI a, pI m] = .ok (.l ((fs.map eF).map .p)) [.sc ns, pI a, pI m] := by
  have c := cell_ok ns ha
  generalize cellN ns a = u at c
  have mx := mix_ok u (k := a) (by omega) (by omega)
  have mn := mixN_nn u a
  generalize mixN u a = h at mx mn
  have r1 : 0 ≤ h % (m + 1) := Int.emod_nonneg _ (by omega)
  have r2 : h % (m + 1) < m + 1 := Int.emod_lt_of_pos _ (by omega)
  obtain ⟨e', q1, fs, hf, hl, rfl⟩ := forGo_rng (g := gNm 5) (f := law_plane_p0) 0 (h % (m + 1)).toNat (fun j e => ∃ fs : List (Int × Int), (∀ f ∈ fs, PlS f) ∧ fs.length = j ∧ e = planeE ns a m h (fs.map eF) .h) (planeE ns a m h [] .h) ⟨[], by simp, rfl, rfl⟩ fun j hj e ⟨fs, hf, hl, he⟩ => by
    obtain ⟨g, hg, hs⟩ := plane_step ns (a := a) (m := m) (h := h) (k := 0 + (j : Int)) fs hf (by omega) ha mn (by omega)
    subst he
    refine ⟨_, _, rfl, hs, fs ++ [g], ?_, by simp [hl], rfl⟩
    intro f hx
    rcases List.mem_append.1 hx with hx | hx
    · exact hf f hx
    · rw [List.mem_singleton.1 hx]; exact hg
  refine ⟨fs, hf, by omega, ?_⟩
  have w1 := rng1_of (n := h % (m + 1)) (by omega) (by omega)
  have w3 : 0 < m + 1 := by omega
  simp only [planeE, List.map_nil] at q1
  simp [φ_law_plane, fnOfBody_ap, c, mx, w1, w3, q1]
/-! ### corners and squares -/
def mn (ns : List Int) : Int := (minOf ns).getD 0
def mxx (ns : List Int) : Int := (maxOf ns).getD 0
theorem minOf_ne {ns : List Int} (h : ns ≠ []) : minOf ns = some (mn ns) := by
  unfold mn
  cases ns with
  | nil => exact absurd rfl h
  | cons n ns => rfl
theorem maxOf_ne {ns : List Int} (h : ns ≠ []) : maxOf ns = some (mxx ns) := by
  unfold mxx
  cases ns with
  | nil => exact absurd rfl h
  | cons n ns => rfl
theorem mn_mem {ns : List Int} (h : ns ≠ []) : mn ns ∈ ns := (minOf_spec (minOf_ne h)).1
theorem mn_le {ns : List Int} {n : Int} (h : n ∈ ns) : mn ns ≤ n := (minOf_spec (minOf_ne (List.ne_nil_of_mem h))).2 n h
theorem mx_mem {ns : List Int} (h : ns ≠ []) : mxx ns ∈ ns := (maxOf_spec (maxOf_ne h)).1
theorem le_mx {ns : List Int} {n : Int} (h : n ∈ ns) : n ≤ mxx ns := (maxOf_spec (maxOf_ne (List.ne_nil_of_mem h))).2 n h
theorem gMin1_ints {ns : List Int} (h : ns ≠ []) : gMin1 (.l (ns.map fun n => .p (.int n))) = some (.p (.int (mn ns))) := by
  unfold gMin1
  have : intsOf (.l (ns.map fun n => OD.p (.int n))) = some ns := by
    show (its (.l _)).bind toInts = _
    rw [show (ns.map fun n => OD.p (.int n)) = (ns.map PyData.int).map .p by rw [List.map_map]; rfl, its_l]
    exact toInts_map ns
  rw [this, Option.bind_some, minOf_ne h]; rfl
theorem gMax1_ints {ns : List Int} (h : ns ≠ []) : gMax1 (.l (ns.map fun n => .p (.int n))) = some (.p (.int (mxx ns))) := by
  unfold gMax1
  have : intsOf (.l (ns.map fun n => OD.p (.int n))) = some ns := by
    show (its (.l _)).bind toInts = _
    rw [show (ns.map fun n => OD.p (.int n)) = (ns.map PyData.int).map .p by rw [List.map_map]; rfl, its_l]
    exact toInts_map ns
  rw [this, Option.bind_some, maxOf_ne h]; rfl
def xsL (fs : List (Int × Int)) : Int := mn (fs.map (·.1))
def xsR (fs : List (Int × Int)) : Int := mxx (fs.map (·.1))
def ysL (fs : List (Int × Int)) : Int := mn (fs.map (·.2))
def ysR (fs : List (Int × Int)) : Int := mxx (fs.map (·.2))
def big (a b : Int) : Int := if b > a then b else a
def lil (a b : Int) : Int := if b < a then b else a
def absI (a : Int) : Int := if a < 0 then -a else a
def sf (p c : Int × Int) : Int := big (absI (p.1 - c.1)) (absI (p.2 - c.2))
theorem big_le {a b c : Int} : big a b ≤ c ↔ a ≤ c ∧ b ≤ c := by unfold big; split <;> omega
theorem le_big {a b c : Int} : c ≤ big a b ↔ c ≤ a ∨ c ≤ b := by unfold big; split <;> omega
theorem le_lil {a b c : Int} : c ≤ lil a b ↔ c ≤ a ∧ c ≤ b := by unfold lil; split <;> omega
theorem lil_le {a b c : Int} : lil a b ≤ c ↔ a ≤ c ∨ b ≤ c := by unfold lil; split <;> omega
theorem absI_le {a c : Int} : absI a ≤ c ↔ a ≤ c ∧ -a ≤ c := by unfold absI; split <;> omega
theorem absI_nn (a : Int) : 0 ≤ absI a := by unfold absI; split <;> omega
/-- the four corners -/
def c00 (fs : List (Int × Int)) : Int × Int := (xsL fs, ysL fs)
def c11 (fs : List (Int × Int)) : Int × Int := (xsR fs, ysR fs)
def c01 (fs : List (Int × Int)) : Int × Int := (xsL fs, ysR fs)
def c10 (fs : List (Int × Int)) : Int × Int := (xsR fs, ysL fs)
/-- the side of two like squares in two corners -/
def sd (fs : List (Int × Int)) (a b : Int × Int) : Int := mxx (fs.map fun p => mn [sf p a, sf p b])
theorem mn2 (a b : Int) : mn [a, b] = lil a b := by
  unfold mn minOf minL lil
  simp [minL]
section
variable {fs : List (Int × Int)} {x : OD} (hx : IsL x (fs.map eF)) (ne : fs ≠ []) (hl : fs.length < 100)
theorem len_eF : (fs.map eF).length = fs.length := List.length_map _
include hx hl in
theorem cor_lc {p : Env' → R OD} (g : Int × Int → Int) (a b c d : OD) (hp : ∀ f : Int × Int, p [x, a, b, c, d, pI f.1, pI f.2] = .ok (pI (g f)) [x, a, b, c, d, pI f.1, pI f.2]) :
    lcGoA 0 x [5, 6] (gTp 2 (gsCons (gNm 5) (gsCons (gNm 6) gsNil))) tYs p (fs.map eF) [x, a, b, c, d, .h, .h] = some ((fs.map g).map fun n => .p (.int n), [x, a, b, c, d, .h, .h]) := by
  have := lcGoA_enc (i := 0) (x0 := x) (js := [5, 6]) (g := gTp 2 (gsCons (gNm 5) (gsCons (gNm 6) gsNil))) (t := tYs) (f := p) eF (fun f => pI (g f)) [x, a, b, c, d, .h, .h] (hx.lk rfl) fs fun f _ => ⟨_, _, _, rfl, rfl, hp f, rfl⟩
  rw [this, List.map_map]; rfl
abbrev corL (fs : List (Int × Int)) : OD := .l [.l [.p (eF (c00 fs)), .p (eF (c11 fs))], .l [.p (eF (c01 fs)), .p (eF (c10 fs))]]
include hx ne hl in
theorem corners_ok : φ_corners [x] = .ok (corL fs) [x] := by
  have n1 : fs.map (·.1) ≠ [] := fun z => ne (List.map_eq_nil_iff.1 z)
  have n2 : fs.map (·.2) ≠ [] := fun z => ne (List.map_eq_nil_iff.1 z)
  have k0 := cor_lc hx hl (p := corners_p0) (·.1) .h .h .h .h fun f => rfl
  have k1 := cor_lc hx hl (p := corners_p1) (·.1) (pI (xsL fs)) .h .h .h fun f => rfl
  have k2 := cor_lc hx hl (p := corners_p2) (·.2) (pI (xsL fs)) (pI (xsR fs)) .h .h fun f => rfl
  have k3 := cor_lc hx hl (p := corners_p3) (·.2) (pI (xsL fs)) (pI (xsR fs)) (pI (ysL fs)) .h fun f => rfl
  have m0 := gMin1_ints n1
  have m1 := gMax1_ints n1
  have m2 := gMin1_ints n2
  have m3 := gMax1_ints n2
  rw [show mn (fs.map (·.1)) = xsL fs from rfl] at m0
  rw [show mxx (fs.map (·.1)) = xsR fs from rfl] at m1
  rw [show mn (fs.map (·.2)) = ysL fs from rfl] at m2
  rw [show mxx (fs.map (·.2)) = ysR fs from rfl] at m3
  have it := hx.it
  have lx : ∀ a b c d f g, lk [x, a, b, c, d, f, g] 0 = some x := fun a b c d f g => hx.lk rfl
  have ll : (fs.map eF).length ≤ 40000 := by rw [List.length_map]; omega
  unfold corL c00 c11 c01 c10
  simp only [eF]
  generalize fs.map eF = F at *
  generalize ((fs.map (·.1)).map fun n => OD.p (.int n)) = X at *
  generalize ((fs.map (·.2)).map fun n => OD.p (.int n)) = Y at *
  simp [φ_corners, fnOfBody_ap, hol, lx, it, ll, k0, k1, k2, k3, m0, m1, m2, m3, -List.map_map]
end
theorem side_from_ok (p c : Int × Int) : φ_side_from [.p (eF p), .p (eF c)] = .ok (pI (sf p c)) [.p (eF p), .p (eF c)] := by
  simp [φ_side_from, fnOfBody_ap, eF, atI, ixN, sf, big, absI]
section
variable {fs : List (Int × Int)} {x y : OD} (hx : IsL x (fs.map eF)) {a b : Int × Int} (hy : IsL y [eF a, eF b]) (ne : fs ≠ []) (hl : fs.length < 100)
include hx hy ne hl in
theorem side_of_two_ok : φ_side_of_two [x, y] = .ok (pI (sd fs a b)) [x, y] := by
  have inner : ∀ p : Int × Int, side_of_two_p1 [x, y, .p (eF p), .h] = .ok (pI (mn [sf p a, sf p b])) [x, y, .p (eF p), .h] := fun p => by
    have k := lcGoA_enc (i := 1) (x0 := y) (js := [3]) (g := gNm 3) (t := tYs) (f := side_of_two_p0) eF (fun c => .p (.int (sf p c))) [x, y, .p (eF p), .h] (hy.lk rfl) [a, b] fun c _ => by
      refine ⟨[x, y, .p (eF p), .p (eF c)], [x, y, .p (eF p), .p (eF c)], [x, y, .p (eF p), .p (eF c)], rfl, rfl, ?_, rfl⟩
      have s := side_from_ok p c
      generalize eF p = P at *
      generalize eF c = C at *
      simp [side_of_two_p0, s]
    have m := gMin1_ints (ns := [sf p a, sf p b]) (by simp)
    have it := hy.it
    have ly : ∀ u v, lk [x, y, u, v] 1 = some y := fun u v => hy.lk rfl
    simp only [List.map_cons, List.map_nil] at k m
    generalize eF p = P at *
    generalize eF a = A at *
    generalize eF b = B at *
    simp [side_of_two_p1, ly, it, hol, k, m]
  have k := lcGoA_enc (i := 0) (x0 := x) (js := [2]) (g := gNm 2) (t := tYs) (f := side_of_two_p1) eF (fun p => pI (mn [sf p a, sf p b])) [x, y, .h, .h] (hx.lk rfl) fs fun p _ =>
    ⟨_, _, _, rfl, rfl, inner p, rfl⟩
  have m := gMax1_ints (ns := fs.map fun p => mn [sf p a, sf p b]) (fun z => ne (List.map_eq_nil_iff.1 z))
  rw [List.map_map] at m
  have it := hx.it
  have lx : ∀ u v, lk [x, y, u, v] 0 = some x := fun u v => hx.lk rfl
  have ll : (fs.map eF).length ≤ 40000 := by rw [List.length_map]; omega
  rw [show mxx (fs.map fun p => mn [sf p a, sf p b]) = sd fs a b from rfl] at m
  have m' : gMax1 (.l (fs.map fun p => pI (mn [sf p a, sf p b]))) = some (.p (.int (sd fs a b))) := m
  generalize sd fs a b = S at *
  generalize (fs.map fun p => pI (mn [sf p a, sf p b])) = L at *
  generalize fs.map eF = F at *
  simp [φ_side_of_two, fnOfBody_ap, lx, it, ll, hol, k, m']
end
def sA (fs : List (Int × Int)) : Int := sd fs (c00 fs) (c11 fs)
def sB (fs : List (Int × Int)) : Int := sd fs (c01 fs) (c10 fs)
/-- the corners and the side of the least two squares -/
def bc (fs : List (Int × Int)) : Int × Int := if sB fs < sA fs then c01 fs else c00 fs
def bd (fs : List (Int × Int)) : Int × Int := if sB fs < sA fs then c10 fs else c11 fs
def bs2 (fs : List (Int × Int)) : Int := if sB fs < sA fs then sB fs else sA fs
section
variable {fs : List (Int × Int)} {x : OD} (hx : IsL x (fs.map eF)) (ne : fs ≠ []) (hl : fs.length < 100)
include hx ne hl
theorem best_two_ok : φ_best_two [x] = .ok (.p (.tuple [.list [eF (bc fs), eF (bd fs)], .int (bs2 fs)])) [x] := by
  have co := corners_ok hx ne hl
  have s1 := side_of_two_ok hx (y := .p (.list [eF (c00 fs), eF (c11 fs)])) (.inl rfl) ne hl
  have s2 := side_of_two_ok hx (y := .p (.list [eF (c01 fs), eF (c10 fs)])) (.inl rfl) ne hl
  have fz : frz (corL fs) = some (.list [.list [eF (c00 fs), eF (c11 fs)], .list [eF (c01 fs), eF (c10 fs)]]) := by simp [corL]
  rw [show sd fs (c00 fs) (c11 fs) = sA fs from rfl] at s1
  rw [show sd fs (c01 fs) (c10 fs) = sB fs from rfl] at s2
  unfold bc bd bs2
  have st : ∀ (i : Int) (C : List PyData) (S : Int), φ_side_of_two [x, .p (.list C)] = .ok (pI S) [x, .p (.list C)] → best_two_p0 [x, .h, .h, pI i, .p (.list C)] = .ok (.p (.tuple [.int S, .int i])) [x, .h, .h, pI i, .p (.list C)] := fun i C S h => by
    rcases hx with rfl | rfl <;> generalize fs.map eF = F at * <;> simp [best_two_p0, h, -List.map_map]
  have t0 := st 0 _ _ s1
  have t1 := st 1 _ _ s2
  have fzs : frzs [.l [.p (eF (c00 fs)), .p (eF (c11 fs))], .l [.p (eF (c01 fs)), .p (eF (c10 fs))]] = some [.list [eF (c00 fs), eF (c11 fs)], .list [eF (c01 fs), eF (c10 fs)]] := by simp
  have lp : DL.ltP (sB fs) 1 (sA fs) 0 = decide (sB fs < sA fs) := by unfold DL.ltP; simp
  unfold corL at co fz
  clear s1 s2 st
  by_cases h : sB fs < sA fs
  · simp only [h, ↓reduceIte]
    generalize eF (c00 fs) = A at *
    generalize eF (c11 fs) = B at *
    generalize eF (c01 fs) = C at *
    generalize eF (c10 fs) = D at *
    generalize sA fs = SA at *
    generalize sB fs = SB at *
    rcases hx with rfl | rfl <;> generalize fs.map eF = F at * <;> simp [φ_best_two, fnOfBody_ap, co, fz, fzs, hol, lcGo_cons, t0, t1, lp, h, enumL, -List.map_map, -frz_l]
  · simp only [h, ↓reduceIte]
    generalize eF (c00 fs) = A at *
    generalize eF (c11 fs) = B at *
    generalize eF (c01 fs) = C at *
    generalize eF (c10 fs) = D at *
    generalize sA fs = SA at *
    generalize sB fs = SB at *
    rcases hx with rfl | rfl <;> generalize fs.map eF = F at * <;> simp [φ_best_two, fnOfBody_ap, co, fz, fzs, hol, lcGo_cons, t0, t1, lp, h, enumL, -List.map_map, -frz_l]
end
/-- the least side -/
def side1 (fs : List (Int × Int)) : Int := big (xsR fs - xsL fs) (ysR fs - ysL fs)
def leastS (fs : List (Int × Int)) (many : Int) : Int := if many = 1 then side1 fs else bs2 fs
theorem look_two_ok {many : Int} (h1 : 1 ≤ many) (h2 : many ≤ 2) : φ_look_at_two [pI many] = .ok (.p .none) [pI many] := by
  have a : ¬ many < 1 := by omega
  have b : ¬ 2 < many := by omega
  have l : φ_look_at_many [pI many] = .ok (.p .none) [pI many] := by simp [φ_look_at_many, fnOfBody_ap, a]
  simp [φ_look_at_two, fnOfBody_ap, l, b]
section
variable {fs : List (Int × Int)} {x : OD} (hx : IsL x (fs.map eF)) (hl : fs.length < 100) {many : Int} (h1 : 1 ≤ many) (h2 : many ≤ 2)
include hx hl h1 h2
theorem square_least_ok (ne : fs ≠ []) : φ_square_least [x, pI many] = .ok (.p (eF (low (leastS fs many) 2))) [x, pI many] := by
  have lk_ := look_two_ok h1 h2
  have len := hx.len
  rw [List.length_map] at len
  have n0 : ¬ (fs.length : Int) = 0 := by have := List.length_pos_iff.2 ne; omega
  have lx : ∀ a b c, lk [x, a, b, c] 0 = some x := fun a b c => hx.lk rfl
  have co := corners_ok hx ne hl
  have bt := best_two_ok hx ne hl
  have fz : frz (corL fs) = some (.list [.list [eF (c00 fs), eF (c11 fs)], .list [eF (c01 fs), eF (c10 fs)]]) := by simp [corL]
  have lo := fun a => lowest_ok (a := a) (b := 2) (by decide) (Bd.of_le 16 (by decide) (by decide) (by decide))
  have g0 : gIx (.p (.list [.list [eF (c00 fs), eF (c11 fs)], .list [eF (c01 fs), eF (c10 fs)]])) (.p (.int 0)) = some (.p (.list [eF (c00 fs), eF (c11 fs)])) := rfl
  have g1 : gIx (.p (.tuple [.list [eF (bc fs), eF (bd fs)], .int (bs2 fs)])) (.p (.int 1)) = some (.p (.int (bs2 fs))) := rfl
  by_cases e : many = 1
  · subst e
    have l1 := lo (side1 fs)
    rw [show leastS fs 1 = side1 fs from rfl]
    have i0 := gIx_eF0 (c11 fs)
    have i1 := gIx_eF1 (c11 fs)
    have j0 := gIx_eF0 (c00 fs)
    have j1 := gIx_eF1 (c00 fs)
    have sd : (if ysR fs - ysL fs > xsR fs - xsL fs then ysR fs - ysL fs else xsR fs - xsL fs) = side1 fs := rfl
    rw [show (c11 fs).1 = xsR fs from rfl] at i0
    rw [show (c11 fs).2 = ysR fs from rfl] at i1
    rw [show (c00 fs).1 = xsL fs from rfl] at j0
    rw [show (c00 fs).2 = ysL fs from rfl] at j1
    clear bt lo g1
    generalize hS : eF (low (side1 fs) 2) = S at *
    generalize side1 fs = S0 at *
    generalize corL fs = CL at *
    generalize eF (c00 fs) = A at *
    generalize eF (c11 fs) = B at *
    generalize eF (c01 fs) = C at *
    generalize eF (c10 fs) = D at *
    generalize xsR fs = RR at *
    generalize xsL fs = LL at *
    generalize ysR fs = HH at *
    generalize ysL fs = KK at *
    generalize (fs.length : Int) = N at *
    rcases hx with rfl | rfl <;> generalize fs.map eF = F at * <;> simp [φ_square_least, fnOfBody_ap, lk_, len, n0, co, fz, g0, i0, i1, j0, j1, sd, l1, -List.map_map, -gIx_list, -gLen_l, -gLen_list]
  · have l1 := lo (bs2 fs)
    rw [show leastS fs many = bs2 fs from if_neg e]
    generalize eF (low (bs2 fs) 2) = S at *
    generalize bs2 fs = S0 at *
    generalize PyData.tuple [.list [eF (bc fs), eF (bd fs)], .int S0] = TT at *
    generalize (fs.length : Int) = N at *
    rcases hx with rfl | rfl <;> generalize fs.map eF = F at * <;> simp [φ_square_least, fnOfBody_ap, lk_, len, n0, e, bt, g1, l1, -List.map_map, -gIx_list, -gLen_l, -gLen_list]
theorem square_least_none (ne : fs = []) : φ_square_least [x, pI many] = .ok (.p (eF (0, 1))) [x, pI many] := by
  subst ne
  have lk_ := look_two_ok h1 h2
  have len := hx.len
  rcases hx with rfl | rfl <;> simp [φ_square_least, fnOfBody_ap, lk_, eF]
end
/-! ### fractions by their worth -/
theorem low_val {a b : Int} (hb : 0 < b) : (low a b).1 * b = a * (low a b).2 := by
  have h1 := gcd_pos (a := a) hb
  obtain ⟨x, hx⟩ : (Int.gcd a b : Int) ∣ a := Int.gcd_dvd_left a b
  obtain ⟨y, hy⟩ : (Int.gcd a b : Int) ∣ b := Int.gcd_dvd_right a b
  generalize hg : (Int.gcd a b : Int) = g at hx hy h1
  show a / _ * b = a * (b / _)
  rw [hg, hx, hy, Int.mul_ediv_cancel_left _ (by omega), Int.mul_ediv_cancel_left _ (by omega)]
  rw [Int.mul_left_comm, Int.mul_assoc]
theorem dvd_of_gcd {k m n : Int} (h : k ∣ m * n) (hg : Int.gcd k m = 1) : k ∣ n := by
  rw [← Int.natAbs_dvd_natAbs] at *
  rw [Int.natAbs_mul] at h
  exact Nat.Coprime.dvd_of_dvd_mul_left hg h
theorem fr_eq {n m : Nat} {f g : Int × Int} (hf : Fr n f) (hg : Fr m g) (h : f.1 * g.2 = g.1 * f.2) : f = g := by
  have d1 : f.2 ∣ g.2 := dvd_of_gcd (k := f.2) (m := f.1) (n := g.2) ⟨g.1, by rw [h, Int.mul_comm]⟩ (by rw [Int.gcd_comm]; exact hf.one)
  have d2 : g.2 ∣ f.2 := dvd_of_gcd (k := g.2) (m := g.1) (n := f.2) ⟨f.1, by rw [← h, Int.mul_comm]⟩ (by rw [Int.gcd_comm]; exact hg.one)
  have p1 := hf.pos
  have p2 := hg.pos
  have e : f.2 = g.2 := Int.le_antisymm (Int.le_of_dvd p2 d1) (Int.le_of_dvd p1 d2)
  rw [e] at h
  have e1 : f.1 = g.1 := Int.eq_of_mul_eq_mul_right (by omega) h
  exact Prod.ext e1 e
theorem low_eq {a b c d : Int} (hb : 0 < b) (hd : 0 < d) (h : a * d = c * b) : low a b = low c d := by
  have big : ∀ x : Int, Bd (x.natAbs) x := fun x => by unfold Bd; exact Nat.lt_two_pow_self
  have bg : ∀ x y : Int, Bd (x.natAbs + y.natAbs) x ∧ Bd (x.natAbs + y.natAbs) y := fun x y => ⟨(big x).mono (by omega), (big y).mono (by omega)⟩
  refine fr_eq (low_fr hb (bg a b).1 (bg a b).2) (low_fr hd (bg c d).1 (bg c d).2) ?_
  have h1 := low_val (a := a) hb
  have h2 := low_val (a := c) hd
  generalize low a b = f at h1
  generalize low c d = g at h2
  apply Int.eq_of_mul_eq_mul_right (a := b * d) (by have := Int.mul_pos hb hd; omega)
  calc f.1 * g.2 * (b * d) = (f.1 * b) * (g.2 * d) := by ac_rfl
    _ = (a * f.2) * (g.2 * d) := by rw [h1]
    _ = (a * d) * (f.2 * g.2) := by ac_rfl
    _ = (c * b) * (f.2 * g.2) := by rw [h]
    _ = (c * g.2) * (f.2 * b) := by ac_rfl
    _ = (g.1 * d) * (f.2 * b) := by rw [h2]
    _ = g.1 * f.2 * (b * d) := by ac_rfl
theorem low_0 {b : Int} (hb : 0 < b) : low 0 b = (0, 1) := by
  rw [low_eq hb (show (0 : Int) < 1 by decide) (c := 0) (by simp)]; rfl
theorem low_id {n : Nat} {f : Int × Int} (h : Fr n f) : low f.1 f.2 = f := fr_eq (low_fr h.pos (show Bd n f.1 from h.b1) h.b2) h (low_val h.pos)
/-! ### squares moved, turned, made greater -/
theorem mn_eq {ns : List Int} {m : Int} (h : m ∈ ns) (l : ∀ n ∈ ns, m ≤ n) : mn ns = m := Int.le_antisymm (mn_le h) (l _ (mn_mem (List.ne_nil_of_mem h)))
theorem mx_eq {ns : List Int} {m : Int} (h : m ∈ ns) (l : ∀ n ∈ ns, n ≤ m) : mxx ns = m := Int.le_antisymm (l _ (mx_mem (List.ne_nil_of_mem h))) (le_mx h)
theorem mn_map {ns : List Int} (ne : ns ≠ []) (h : Int → Int) (hm : ∀ a b, a ≤ b → h a ≤ h b) : mn (ns.map h) = h (mn ns) :=
  mn_eq (List.mem_map_of_mem (mn_mem ne)) fun n hn => by obtain ⟨k, hk, rfl⟩ := List.mem_map.1 hn; exact hm _ _ (mn_le hk)
theorem mx_map {ns : List Int} (ne : ns ≠ []) (h : Int → Int) (hm : ∀ a b, a ≤ b → h a ≤ h b) : mxx (ns.map h) = h (mxx ns) :=
  mx_eq (List.mem_map_of_mem (mx_mem ne)) fun n hn => by obtain ⟨k, hk, rfl⟩ := List.mem_map.1 hn; exact hm _ _ (le_mx hk)
theorem mn_neg {ns : List Int} (ne : ns ≠ []) : mn (ns.map fun a => 0 - a) = 0 - mxx ns :=
  mn_eq (List.mem_map_of_mem (f := fun a => 0 - a) (mx_mem ne)) fun n hn => by obtain ⟨k, hk, rfl⟩ := List.mem_map.1 hn; have := le_mx hk; omega
theorem mx_neg {ns : List Int} (ne : ns ≠ []) : mxx (ns.map fun a => 0 - a) = 0 - mn ns :=
  mx_eq (List.mem_map_of_mem (f := fun a => 0 - a) (mn_mem ne)) fun n hn => by obtain ⟨k, hk, rfl⟩ := List.mem_map.1 hn; have := mn_le hk; omega
theorem mn_rev (ns : List Int) : mn ns.reverse = mn ns := by
  by_cases ne : ns = []
  · subst ne; rfl
  · exact mn_eq (List.mem_reverse.2 (mn_mem ne)) fun n hn => mn_le (List.mem_reverse.1 hn)
theorem mx_rev (ns : List Int) : mxx ns.reverse = mxx ns := by
  by_cases ne : ns = []
  · subst ne; rfl
  · exact mx_eq (List.mem_reverse.2 (mx_mem ne)) fun n hn => le_mx (List.mem_reverse.1 hn)
theorem bs2_eq (fs : List (Int × Int)) : bs2 fs = lil (sA fs) (sB fs) := rfl
theorem lil_comm (a b : Int) : lil a b = lil b a := by unfold lil; split <;> split <;> omega
theorem big_comm (a b : Int) : big a b = big b a := by unfold big; split <;> split <;> omega
section
variable {fs : List (Int × Int)} (ne : fs ≠ [])
include ne
theorem n1 : fs.map (·.1) ≠ [] := fun z => ne (List.map_eq_nil_iff.1 z)
theorem n2 : fs.map (·.2) ≠ [] := fun z => ne (List.map_eq_nil_iff.1 z)
/-- all through one map of both axes -/
theorem ends_map (h k : Int → Int) (hm : ∀ a b, a ≤ b → h a ≤ h b) (km : ∀ a b, a ≤ b → k a ≤ k b) :
    xsL (fs.map fun f => (h f.1, k f.2)) = h (xsL fs) ∧ xsR (fs.map fun f => (h f.1, k f.2)) = h (xsR fs) ∧ ysL (fs.map fun f => (h f.1, k f.2)) = k (ysL fs) ∧ ysR (fs.map fun f => (h f.1, k f.2)) = k (ysR fs) := by
  have e1 : (fs.map fun f => (h f.1, k f.2)).map (·.1) = (fs.map (·.1)).map h := by rw [List.map_map, List.map_map]; rfl
  have e2 : (fs.map fun f => (h f.1, k f.2)).map (·.2) = (fs.map (·.2)).map k := by rw [List.map_map, List.map_map]; rfl
  unfold xsL xsR ysL ysR
  rw [e1, e2]
  exact ⟨mn_map (n1 ne) h hm, mx_map (n1 ne) h hm, mn_map (n2 ne) k km, mx_map (n2 ne) k km⟩
theorem sd_map (h k : Int → Int) (g : Int → Int) (gm : ∀ a b, a ≤ b → g a ≤ g b) (hs : ∀ p c : Int × Int, sf (h p.1, k p.2) (h c.1, k c.2) = g (sf p c)) (a b : Int × Int) :
    sd (fs.map fun f => (h f.1, k f.2)) (h a.1, k a.2) (h b.1, k b.2) = g (sd fs a b) := by
  unfold sd
  rw [List.map_map]
  have e : (fs.map ((fun p => mn [sf p (h a.1, k a.2), sf p (h b.1, k b.2)]) ∘ fun f : Int × Int => (h f.1, k f.2))) = (fs.map fun p => mn [sf p a, sf p b]).map g := by
    rw [List.map_map]
    apply List.map_congr_left
    intro p _
    show mn [sf (h p.1, k p.2) (h a.1, k a.2), sf (h p.1, k p.2) (h b.1, k b.2)] = g (mn [sf p a, sf p b])
    rw [hs, hs]
    exact mn_map (ns := [sf p a, sf p b]) (by simp) g gm
  rw [e]
  exact mx_map (fun z => ne (List.map_eq_nil_iff.1 z)) g gm
theorem lil_map (g : Int → Int) (gm : ∀ a b, a ≤ b → g a ≤ g b) (a b : Int) : lil (g a) (g b) = g (lil a b) := by
  rw [← mn2, ← mn2]; exact mn_map (ns := [a, b]) (by simp) g gm
theorem bs2_map (h k : Int → Int) (hm : ∀ a b, a ≤ b → h a ≤ h b) (km : ∀ a b, a ≤ b → k a ≤ k b) (g : Int → Int) (gm : ∀ a b, a ≤ b → g a ≤ g b) (hs : ∀ p c : Int × Int, sf (h p.1, k p.2) (h c.1, k c.2) = g (sf p c)) :
    bs2 (fs.map fun f => (h f.1, k f.2)) = g (bs2 fs) := by
  obtain ⟨e1, e2, e3, e4⟩ := ends_map ne h k hm km
  rw [bs2_eq, bs2_eq, ← lil_map ne g gm]
  unfold sA sB c00 c11 c01 c10
  rw [e1, e2, e3, e4]
  rw [show sd (fs.map fun f => (h f.1, k f.2)) (h (xsL fs), k (ysL fs)) (h (xsR fs), k (ysR fs)) = g (sd fs (xsL fs, ysL fs) (xsR fs, ysR fs)) from sd_map ne h k g gm hs (xsL fs, ysL fs) (xsR fs, ysR fs)]
  rw [show sd (fs.map fun f => (h f.1, k f.2)) (h (xsL fs), k (ysR fs)) (h (xsR fs), k (ysL fs)) = g (sd fs (xsL fs, ysR fs) (xsR fs, ysL fs)) from sd_map ne h k g gm hs (xsL fs, ysR fs) (xsR fs, ysL fs)]
theorem least_moved (u v : Int) (many : Int) : leastS (fs.map fun f => (f.1 + u, f.2 - v)) many = leastS fs many := by
  have hm : ∀ a b : Int, a ≤ b → a + u ≤ b + u := fun a b q => by omega
  have km : ∀ a b : Int, a ≤ b → a - v ≤ b - v := fun a b q => by omega
  have hs : ∀ p c : Int × Int, sf (p.1 + u, p.2 - v) (c.1 + u, c.2 - v) = sf p c := fun p c => by
    unfold sf
    simp only
    rw [show p.1 + u - (c.1 + u) = p.1 - c.1 by omega, show p.2 - v - (c.2 - v) = p.2 - c.2 by omega]
  have b := bs2_map ne (· + u) (· - v) hm km id (fun _ _ q => q) hs
  obtain ⟨e1, e2, e3, e4⟩ := ends_map ne (· + u) (· - v) hm km
  unfold leastS
  split
  · unfold side1
    rw [e1, e2, e3, e4]
    rw [show xsR fs + u - (xsL fs + u) = xsR fs - xsL fs by omega, show ysR fs - v - (ysL fs - v) = ysR fs - ysL fs by omega]
  · exact b
theorem mulmono {t : Int} (ht : 0 ≤ t) (a b : Int) (q : a ≤ b) : a * t ≤ b * t := Int.mul_le_mul_of_nonneg_right q ht
theorem big_mul {t : Int} (ht : 0 ≤ t) (a b : Int) : big (a * t) (b * t) = big a b * t := by
  unfold big
  by_cases q : b > a
  · rw [if_pos q]
    by_cases z : b * t > a * t
    · rw [if_pos z]
    · rw [if_neg z]
      have := mulmono ne ht a b (by omega)
      omega
  · rw [if_neg q]
    have := mulmono ne ht b a (by omega)
    rw [if_neg (by omega)]
theorem abs_mul {t : Int} (ht : 0 ≤ t) (a : Int) : absI (a * t) = absI a * t := by
  unfold absI
  by_cases q : a < 0
  · rw [if_pos q]
    have := mulmono ne ht a 0 (by omega)
    by_cases z : a * t < 0
    · rw [if_pos z, Int.neg_mul]
    · rw [if_neg z, Int.neg_mul]; omega
  · rw [if_neg q]
    have := mulmono ne ht 0 a (by omega)
    rw [if_neg (by omega)]
theorem least_times {t : Int} (ht : 0 ≤ t) (many : Int) : leastS (fs.map fun f => (f.1 * t, f.2 * t)) many = leastS fs many * t := by
  have hm := mulmono ne ht
  have hs : ∀ p c : Int × Int, sf (p.1 * t, p.2 * t) (c.1 * t, c.2 * t) = sf p c * t := fun p c => by
    unfold sf
    simp only
    rw [← Int.sub_mul, ← Int.sub_mul, abs_mul ne ht, abs_mul ne ht, big_mul ne ht]
  have b := bs2_map ne (· * t) (· * t) hm hm (· * t) hm hs
  obtain ⟨e1, e2, e3, e4⟩ := ends_map ne (· * t) (· * t) hm hm
  unfold leastS
  split
  · unfold side1
    rw [e1, e2, e3, e4, ← Int.sub_mul, ← Int.sub_mul, big_mul ne ht]
  · exact b
theorem sf_rot (p c : Int × Int) : sf (p.2, 0 - p.1) (c.2, 0 - c.1) = sf p c := by
  unfold sf
  simp only
  rw [big_comm, show (0 - p.1 - (0 - c.1)) = -(p.1 - c.1) by omega]
  congr 1
  unfold absI; split <;> split <;> omega
theorem sd_rot (a b : Int × Int) : sd (fs.reverse.map fun f => (f.2, 0 - f.1)) (a.2, 0 - a.1) (b.2, 0 - b.1) = sd fs a b := by
  unfold sd
  rw [List.map_map]
  have e : (fs.reverse.map ((fun p => mn [sf p (a.2, 0 - a.1), sf p (b.2, 0 - b.1)]) ∘ fun f : Int × Int => (f.2, 0 - f.1))) = (fs.map fun p => mn [sf p a, sf p b]).reverse := by
    rw [← List.map_reverse]
    apply List.map_congr_left
    intro p _
    show mn [sf (p.2, 0 - p.1) (a.2, 0 - a.1), sf (p.2, 0 - p.1) (b.2, 0 - b.1)] = _
    rw [sf_rot ne, sf_rot ne]
  rw [e, mx_rev]
theorem sd_comm (a b : Int × Int) : sd fs a b = sd fs b a := by
  unfold sd
  congr 1
  apply List.map_congr_left
  intro p _
  rw [mn2, mn2, lil_comm]
theorem ends_rot : xsL (fs.reverse.map fun f => (f.2, 0 - f.1)) = ysL fs ∧ xsR (fs.reverse.map fun f => (f.2, 0 - f.1)) = ysR fs ∧ ysL (fs.reverse.map fun f => (f.2, 0 - f.1)) = 0 - xsR fs ∧ ysR (fs.reverse.map fun f => (f.2, 0 - f.1)) = 0 - xsL fs := by
  have e1 : (fs.reverse.map fun f : Int × Int => (f.2, 0 - f.1)).map (·.1) = (fs.map (·.2)).reverse := by rw [List.map_map, ← List.map_reverse]; rfl
  have e2 : (fs.reverse.map fun f : Int × Int => (f.2, 0 - f.1)).map (·.2) = ((fs.map (·.1)).map fun a => 0 - a).reverse := by rw [List.map_map, List.map_map, ← List.map_reverse]; rfl
  unfold xsL xsR ysL ysR
  rw [e1, e2, mn_rev, mx_rev, mn_rev, mx_rev]
  exact ⟨rfl, rfl, mn_neg (n1 ne), mx_neg (n1 ne)⟩
theorem least_rot (many : Int) : leastS (fs.reverse.map fun f => (f.2, 0 - f.1)) many = leastS fs many := by
  obtain ⟨e1, e2, e3, e4⟩ := ends_rot ne
  unfold leastS
  split
  · unfold side1
    rw [e1, e2, e3, e4, big_comm]
    congr 1
    omega
  · rw [bs2_eq, bs2_eq, lil_comm]
    unfold sA sB c00 c11 c01 c10
    rw [e1, e2, e3, e4]
    rw [show sd (fs.reverse.map fun f => (f.2, 0 - f.1)) (ysL fs, 0 - xsL fs) (ysR fs, 0 - xsR fs) = sd fs (xsL fs, ysL fs) (xsR fs, ysR fs) from sd_rot ne (xsL fs, ysL fs) (xsR fs, ysR fs)]
    rw [show sd (fs.reverse.map fun f => (f.2, 0 - f.1)) (ysL fs, 0 - xsR fs) (ysR fs, 0 - xsL fs) = sd fs (xsR fs, ysL fs) (xsL fs, ysR fs) from sd_rot ne (xsR fs, ysL fs) (xsL fs, ysR fs), sd_comm ne (xsR fs, ysL fs)]
theorem in_box {p : Int × Int} (hp : p ∈ fs) : xsL fs ≤ p.1 ∧ p.1 ≤ xsR fs ∧ ysL fs ≤ p.2 ∧ p.2 ≤ ysR fs :=
  ⟨mn_le (List.mem_map_of_mem hp), le_mx (List.mem_map_of_mem hp), mn_le (List.mem_map_of_mem hp), le_mx (List.mem_map_of_mem hp)⟩
theorem sd_le {a b : Int × Int} {s : Int} (h : ∀ p ∈ fs, sf p a ≤ s ∨ sf p b ≤ s) : sd fs a b ≤ s := by
  have := mx_mem (ns := fs.map fun p => mn [sf p a, sf p b]) (fun z => ne (List.map_eq_nil_iff.1 z))
  obtain ⟨p, hp, e⟩ := List.mem_map.1 this
  show mxx _ ≤ s
  rw [← e, mn2]
  exact lil_le.2 (h p hp)
theorem sd_nn {a b : Int × Int} : 0 ≤ sd fs a b := by
  obtain ⟨p, l, rfl⟩ := List.exists_cons_of_ne_nil ne
  refine Int.le_trans ?_ (le_mx (List.mem_map_of_mem (f := fun p => mn [sf p a, sf p b]) (List.mem_cons_self (a := p) (l := l))))
  rw [mn2]
  exact le_lil.2 ⟨le_big.2 (.inl (absI_nn _)), le_big.2 (.inl (absI_nn _))⟩
theorem two_le : bs2 fs ≤ side1 fs := by
  rw [bs2_eq]
  refine lil_le.2 (.inl (sd_le ne fun p hp => .inl ?_))
  obtain ⟨h1, h2, h3, h4⟩ := in_box ne hp
  refine big_le.2 ⟨absI_le.2 ?_, absI_le.2 ?_⟩
  · have : xsR fs - xsL fs ≤ side1 fs := le_big.2 (.inl (Int.le_refl _))
    exact ⟨by show p.1 - xsL fs ≤ _; omega, by show -(p.1 - xsL fs) ≤ _; omega⟩
  · have : ysR fs - ysL fs ≤ side1 fs := le_big.2 (.inr (Int.le_refl _))
    exact ⟨by show p.2 - ysL fs ≤ _; omega, by show -(p.2 - ysL fs) ≤ _; omega⟩
theorem two_nn : 0 ≤ bs2 fs := by rw [bs2_eq]; exact le_lil.2 ⟨sd_nn ne, sd_nn ne⟩
theorem side_bd (hs : ∀ f ∈ fs, PlS f) : 0 ≤ side1 fs ∧ side1 fs ≤ 20000000000000000000 := by
  refine ⟨Int.le_trans (two_nn ne) (two_le ne), ?_⟩
  obtain ⟨a, ha, e1⟩ := List.mem_map.1 (mn_mem (n1 ne))
  obtain ⟨b, hb, e2⟩ := List.mem_map.1 (mx_mem (n1 ne))
  obtain ⟨c, hc, e3⟩ := List.mem_map.1 (mn_mem (n2 ne))
  obtain ⟨d, hd, e4⟩ := List.mem_map.1 (mx_mem (n2 ne))
  have q1 := (hs a ha).x0
  have q2 := (hs b hb).x1
  have q3 := (hs c hc).y0
  have q4 := (hs d hd).y1
  refine big_le.2 ⟨?_, ?_⟩
  · show mxx _ - mn _ ≤ _; omega
  · show mxx _ - mn _ ≤ _; omega
theorem least_bd (hs : ∀ f ∈ fs, PlS f) (many : Int) : 0 ≤ leastS fs many ∧ leastS fs many ≤ 20000000000000000000 := by
  have := side_bd ne hs
  have := two_le ne
  have := two_nn ne
  unfold leastS; split <;> omega
theorem leastS_fr (hs : ∀ f ∈ fs, PlS f) (many : Int) : Fr 120 (low (leastS fs many) 2) := by
  have := least_bd ne hs many
  exact low_fr (by decide) (Bd.of_le 20000000000000000001 (by omega) (by omega) (by decide)) (Bd.of_le 16 (by decide) (by decide) (by decide))
end
/-! ### two squares are as good as any two lots -/
theorem split_two {fs : List (Int × Int)} (ne : fs ≠ []) {s : Int} (P Q : Int × Int → Prop) (hPQ : ∀ p ∈ fs, P p ∨ Q p)
    (hP : ∀ p ∈ fs, ∀ q ∈ fs, P p → P q → p.1 - q.1 ≤ s ∧ p.2 - q.2 ≤ s) (hQ : ∀ p ∈ fs, ∀ q ∈ fs, Q p → Q q → p.1 - q.1 ≤ s ∧ p.2 - q.2 ≤ s) : bs2 fs ≤ s := by
  obtain ⟨l, hl, el⟩ := List.mem_map.1 (mn_mem (n1 ne))
  obtain ⟨r, hr, er⟩ := List.mem_map.1 (mx_mem (n1 ne))
  obtain ⟨d, hd, ed⟩ := List.mem_map.1 (mn_mem (n2 ne))
  obtain ⟨u, hu, eu⟩ := List.mem_map.1 (mx_mem (n2 ne))
  replace el : l.1 = xsL fs := el
  replace er : r.1 = xsR fs := er
  replace ed : d.2 = ysL fs := ed
  replace eu : u.2 = ysR fs := eu
  -- one axis: the one lot is near one end, the other lot near the other one
  have axX : ∀ (P Q : Int × Int → Prop), (∀ p ∈ fs, ∀ q ∈ fs, P p → P q → p.1 - q.1 ≤ s ∧ p.2 - q.2 ≤ s) → (∀ p ∈ fs, P p ∨ Q p) → (∀ p ∈ fs, ∀ q ∈ fs, Q p → Q q → p.1 - q.1 ≤ s ∧ p.2 - q.2 ≤ s) → P l →
      (∀ p ∈ fs, P p → p.1 - xsL fs ≤ s) ∧ (∀ p ∈ fs, Q p → xsR fs - p.1 ≤ s) := fun P Q hP hPQ hQ pl => by
    refine ⟨fun p hp pp => by have := (hP p hp l hl pp pl).1; omega, fun p hp qp => ?_⟩
    rcases hPQ r hr with pr | qr
    · have := (hP r hr l hl pr pl).1
      have := (in_box ne hp).1
      omega
    · have := (hQ r hr p hp qr qp).1; omega
  have axY : ∀ (P Q : Int × Int → Prop), (∀ p ∈ fs, ∀ q ∈ fs, P p → P q → p.1 - q.1 ≤ s ∧ p.2 - q.2 ≤ s) → (∀ p ∈ fs, P p ∨ Q p) → (∀ p ∈ fs, ∀ q ∈ fs, Q p → Q q → p.1 - q.1 ≤ s ∧ p.2 - q.2 ≤ s) → P d →
      (∀ p ∈ fs, P p → p.2 - ysL fs ≤ s) ∧ (∀ p ∈ fs, Q p → ysR fs - p.2 ≤ s) := fun P Q hP hPQ hQ pd => by
    refine ⟨fun p hp pp => by have := (hP p hp d hd pp pd).2; omega, fun p hp qp => ?_⟩
    rcases hPQ u hu with pu | qu
    · have := (hP u hu d hd pu pd).2
      have := (in_box ne hp).2.2.1
      omega
    · have := (hQ u hu p hp qu qp).2; omega
  have box := fun p (hp : p ∈ fs) => in_box ne hp
  have a00 : ∀ p ∈ fs, p.1 - xsL fs ≤ s → p.2 - ysL fs ≤ s → sf p (c00 fs) ≤ s := fun p hp h1 h2 => by
    have := box p hp
    exact big_le.2 ⟨absI_le.2 ⟨h1, by show -(p.1 - xsL fs) ≤ s; omega⟩, absI_le.2 ⟨h2, by show -(p.2 - ysL fs) ≤ s; omega⟩⟩
  have a11 : ∀ p ∈ fs, xsR fs - p.1 ≤ s → ysR fs - p.2 ≤ s → sf p (c11 fs) ≤ s := fun p hp h1 h2 => by
    have := box p hp
    exact big_le.2 ⟨absI_le.2 ⟨by show p.1 - xsR fs ≤ s; omega, by show -(p.1 - xsR fs) ≤ s; omega⟩, absI_le.2 ⟨by show p.2 - ysR fs ≤ s; omega, by show -(p.2 - ysR fs) ≤ s; omega⟩⟩
  have a01 : ∀ p ∈ fs, p.1 - xsL fs ≤ s → ysR fs - p.2 ≤ s → sf p (c01 fs) ≤ s := fun p hp h1 h2 => by
    have := box p hp
    exact big_le.2 ⟨absI_le.2 ⟨h1, by show -(p.1 - xsL fs) ≤ s; omega⟩, absI_le.2 ⟨by show p.2 - ysR fs ≤ s; omega, by show -(p.2 - ysR fs) ≤ s; omega⟩⟩
  have a10 : ∀ p ∈ fs, xsR fs - p.1 ≤ s → p.2 - ysL fs ≤ s → sf p (c10 fs) ≤ s := fun p hp h1 h2 => by
    have := box p hp
    exact big_le.2 ⟨absI_le.2 ⟨by show p.1 - xsR fs ≤ s; omega, by show -(p.1 - xsR fs) ≤ s; omega⟩, absI_le.2 ⟨h2, by show -(p.2 - ysL fs) ≤ s; omega⟩⟩
  have hQP : ∀ p ∈ fs, Q p ∨ P p := fun p hp => (hPQ p hp).symm
  rw [bs2_eq]
  rcases hPQ l hl with pl | ql
  · obtain ⟨x1, x2⟩ := axX P Q hP hPQ hQ pl
    rcases hPQ d hd with pd | qd
    · obtain ⟨y1, y2⟩ := axY P Q hP hPQ hQ pd
      exact lil_le.2 (.inl (sd_le ne fun p hp => (hPQ p hp).imp (fun z => a00 p hp (x1 p hp z) (y1 p hp z)) fun z => a11 p hp (x2 p hp z) (y2 p hp z)))
    · obtain ⟨y1, y2⟩ := axY Q P hQ hQP hP qd
      exact lil_le.2 (.inr (sd_le ne fun p hp => (hPQ p hp).imp (fun z => a01 p hp (x1 p hp z) (y2 p hp z)) fun z => a10 p hp (x2 p hp z) (y1 p hp z)))
  · obtain ⟨x1, x2⟩ := axX Q P hQ hQP hP ql
    rcases hPQ d hd with pd | qd
    · obtain ⟨y1, y2⟩ := axY P Q hP hPQ hQ pd
      exact lil_le.2 (.inr (sd_le ne fun p hp => (hPQ p hp).symm.imp (fun z => a01 p hp (x1 p hp z) (y2 p hp z)) fun z => a10 p hp (x2 p hp z) (y1 p hp z)))
    · obtain ⟨y1, y2⟩ := axY Q P hQ hQP hP qd
      exact lil_le.2 (.inl (sd_le ne fun p hp => (hPQ p hp).symm.imp (fun z => a00 p hp (x1 p hp z) (y1 p hp z)) fun z => a11 p hp (x2 p hp z) (y2 p hp z)))
/-- a lot's side -/
def side0 (fs : List (Int × Int)) : Int := if fs = [] then 0 else side1 fs
theorem side0_le {fs : List (Int × Int)} {s : Int} (s0 : 0 ≤ s) (h : ∀ p ∈ fs, ∀ q ∈ fs, p.1 - q.1 ≤ s ∧ p.2 - q.2 ≤ s) : side0 fs ≤ s := by
  unfold side0
  split
  · exact s0
  · rename_i ne
    obtain ⟨l, hl, el⟩ := List.mem_map.1 (mn_mem (n1 ne))
    obtain ⟨r, hr, er⟩ := List.mem_map.1 (mx_mem (n1 ne))
    obtain ⟨d, hd, ed⟩ := List.mem_map.1 (mn_mem (n2 ne))
    obtain ⟨u, hu, eu⟩ := List.mem_map.1 (mx_mem (n2 ne))
    refine big_le.2 ⟨?_, ?_⟩
    · have := (h r hr l hl).1
      show mxx _ - mn _ ≤ s; omega
    · have := (h u hu d hd).2
      show mxx _ - mn _ ≤ s; omega
theorem side0_ge {fs : List (Int × Int)} {p q : Int × Int} (hp : p ∈ fs) (hq : q ∈ fs) : p.1 - q.1 ≤ side0 fs ∧ p.2 - q.2 ≤ side0 fs := by
  have ne := List.ne_nil_of_mem hp
  have a := in_box ne hp
  have b := in_box ne hq
  unfold side0
  rw [if_neg ne]
  have h1 : xsR fs - xsL fs ≤ side1 fs := le_big.2 (.inl (Int.le_refl _))
  have h2 : ysR fs - ysL fs ≤ side1 fs := le_big.2 (.inr (Int.le_refl _))
  omega
/-- who is near one corner of the four is near another such one -/
theorem near_pair {fs : List (Int × Int)} (ne : fs ≠ []) {c : Int × Int} (hc : (c.1 = xsL fs ∨ c.1 = xsR fs) ∧ (c.2 = ysL fs ∨ c.2 = ysR fs)) {s : Int} {p q : Int × Int} (hp : p ∈ fs) (hq : q ∈ fs) (h1 : sf p c ≤ s) (h2 : sf q c ≤ s) :
    p.1 - q.1 ≤ s ∧ p.2 - q.2 ≤ s := by
  have a := in_box ne hp
  have b := in_box ne hq
  obtain ⟨p1, p2⟩ := big_le.1 h1
  obtain ⟨q1, q2⟩ := big_le.1 h2
  obtain ⟨p3, p4⟩ := absI_le.1 p1
  obtain ⟨p5, p6⟩ := absI_le.1 p2
  obtain ⟨q3, q4⟩ := absI_le.1 q1
  obtain ⟨q5, q6⟩ := absI_le.1 q2
  rcases hc with ⟨c1 | c1, c2 | c2⟩ <;> omega
/-! ### lots by bits -/
def fk (fs : List (Int × Int)) (k : Nat) : Int × Int := fs.getD k (0, 0)
theorem fk_in {fs : List (Int × Int)} {k : Nat} (h : k < fs.length) : fk fs k ∈ fs := by
  unfold fk; rw [List.getD_eq_getElem?_getD, List.getElem?_eq_getElem h]; exact List.getElem_mem h
theorem fk_mem {fs : List (Int × Int)} {f : Int × Int} (h : f ∈ fs) : ∃ k, k < fs.length ∧ fk fs k = f := by
  obtain ⟨k, hk, e⟩ := List.mem_iff_getElem.1 h
  exact ⟨k, hk, by unfold fk; rw [List.getD_eq_getElem?_getD, List.getElem?_eq_getElem hk]; exact e⟩
def lot (fs : List (Int × Int)) (p : Nat → Bool) : List (Int × Int) := ((List.range fs.length).filter p).map (fk fs)
theorem lot_mem {fs : List (Int × Int)} {p : Nat → Bool} {f : Int × Int} : f ∈ lot fs p ↔ ∃ k, k < fs.length ∧ p k = true ∧ fk fs k = f := by
  unfold lot
  simp only [List.mem_map, List.mem_filter, List.mem_range]
  exact ⟨fun ⟨k, ⟨a, b⟩, c⟩ => ⟨k, a, b, c⟩, fun ⟨k, a, b, c⟩ => ⟨k, ⟨a, b⟩, c⟩⟩
def bit (b k : Nat) : Bool := decide (b / 2 ^ k % 2 = 1)
/-- what a lot of bits makes -/
def parted (fs : List (Int × Int)) (b : Nat) : Int := big (side0 (lot fs (bit b))) (side0 (lot fs fun k => !bit b k))
theorem parted_ge {fs : List (Int × Int)} (ne : fs ≠ []) (b : Nat) : bs2 fs ≤ parted fs b := by
  refine split_two ne (fun p => p ∈ lot fs (bit b)) (fun p => p ∈ lot fs fun k => !bit b k) (fun p hp => ?_) (fun p _ q _ h1 h2 => ?_) (fun p _ q _ h1 h2 => ?_)
  · obtain ⟨k, hk, e⟩ := fk_mem hp
    cases q : bit b k with
    | true => exact .inl (lot_mem.2 ⟨k, hk, q, e⟩)
    | false => exact .inr (lot_mem.2 ⟨k, hk, by simp [q], e⟩)
  · have := side0_ge h1 h2
    have z : side0 (lot fs (bit b)) ≤ parted fs b := le_big.2 (.inl (Int.le_refl _))
    omega
  · have := side0_ge h1 h2
    have z : side0 (lot fs fun k => !bit b k) ≤ parted fs b := le_big.2 (.inr (Int.le_refl _))
    omega
theorem bits_of (P : Nat → Bool) : ∀ m, ∃ b, b < 2 ^ m ∧ ∀ k, k < m → bit b k = P k
  | 0 => ⟨0, by decide, fun k h => absurd h (Nat.not_lt_zero k)⟩
  | m + 1 => by
    obtain ⟨b, h1, h2⟩ := bits_of P m
    have pw : 2 ^ (m + 1) = 2 ^ m * 2 := rfl
    cases q : P m with
    | false =>
      refine ⟨b, by omega, fun k hk => ?_⟩
      by_cases e : k = m
      · subst e
        rw [q]; unfold bit; rw [Nat.div_eq_of_lt h1]; rfl
      · exact h2 k (by omega)
    | true =>
      refine ⟨b + 2 ^ m, by omega, fun k hk => ?_⟩
      by_cases e : k = m
      · subst e
        rw [q]; unfold bit
        rw [Nat.add_div_right _ (Nat.two_pow_pos k), Nat.div_eq_of_lt h1]; rfl
      · rw [← h2 k (by omega)]
        unfold bit
        obtain ⟨c, rfl⟩ : ∃ c, m = k + 1 + c := ⟨m - k - 1, by omega⟩
        have : b + 2 ^ (k + 1 + c) = b + 2 ^ k * (2 * 2 ^ c) := by rw [Nat.pow_add, Nat.pow_add]; simp [Nat.mul_assoc]
        rw [this, Nat.add_mul_div_left _ _ (Nat.two_pow_pos k), Nat.add_mul_mod_self_left]
theorem parted_le {fs : List (Int × Int)} (ne : fs ≠ []) {c d : Int × Int} (hc : (c.1 = xsL fs ∨ c.1 = xsR fs) ∧ (c.2 = ysL fs ∨ c.2 = ysR fs)) (hd : (d.1 = xsL fs ∨ d.1 = xsR fs) ∧ (d.2 = ysL fs ∨ d.2 = ysR fs)) :
    ∃ b, b < 2 ^ (fs.length - 1) ∧ parted fs b ≤ sd fs c d := by
  have lp := List.length_pos_iff.2 ne
  have near : ∀ p ∈ fs, sf p c ≤ sd fs c d ∨ sf p d ≤ sd fs c d := fun p hp => by
    have := le_mx (List.mem_map_of_mem (f := fun p => mn [sf p c, sf p d]) hp)
    rw [mn2] at this
    exact lil_le.1 this
  have go : ∀ c d : Int × Int, (∀ p ∈ fs, sf p c ≤ sd fs c d ∨ sf p d ≤ sd fs c d) → ((c.1 = xsL fs ∨ c.1 = xsR fs) ∧ (c.2 = ysL fs ∨ c.2 = ysR fs)) → ((d.1 = xsL fs ∨ d.1 = xsR fs) ∧ (d.2 = ysL fs ∨ d.2 = ysR fs)) → sf (fk fs (fs.length - 1)) d ≤ sd fs c d →
      ∃ b, b < 2 ^ (fs.length - 1) ∧ parted fs b ≤ sd fs c d := fun c d near hc hd last => by
    obtain ⟨b, h1, h2⟩ := bits_of (fun k => !decide (sf (fk fs k) d ≤ sd fs c d)) (fs.length - 1)
    have h3 : ∀ k, k < fs.length → bit b k = !decide (sf (fk fs k) d ≤ sd fs c d) := fun k hk => by
      by_cases e : k = fs.length - 1
      · subst e
        rw [decide_eq_true last]; unfold bit; rw [Nat.div_eq_of_lt h1]; rfl
      · exact h2 k (by omega)
    refine ⟨b, h1, big_le.2 ⟨side0_le (sd_nn ne) fun p hp q hq => ?_, side0_le (sd_nn ne) fun p hp q hq => ?_⟩⟩
    · obtain ⟨k, k1, k2, rfl⟩ := lot_mem.1 hp
      obtain ⟨j, j1, j2, rfl⟩ := lot_mem.1 hq
      rw [h3 _ k1] at k2
      rw [h3 _ j1] at j2
      have k3 := (near _ (fk_in k1)).resolve_right (by simpa using k2)
      have j3 := (near _ (fk_in j1)).resolve_right (by simpa using j2)
      exact near_pair ne hc (fk_in k1) (fk_in j1) k3 j3
    · obtain ⟨k, k1, k2, rfl⟩ := lot_mem.1 hp
      obtain ⟨j, j1, j2, rfl⟩ := lot_mem.1 hq
      rw [h3 _ k1] at k2
      rw [h3 _ j1] at j2
      exact near_pair ne hd (fk_in k1) (fk_in j1) (by simpa using k2) (by simpa using j2)
  rcases near _ (fk_in (k := fs.length - 1) (by omega)) with h | h
  · rw [sd_comm ne c d] at near h ⊢
    exact go d c (fun p hp => (near p hp).symm) hd hc h
  · exact go c d near hc hd h
/-- what the law reckons of two lots -/
def lawTwo (fs : List (Int × Int)) : Int := (List.range (2 ^ (fs.length - 1))).foldl (fun m b => lil m (parted fs b)) (side0 fs)
theorem foldl_lil (g : Nat → Int) : ∀ (l : List Nat) (m : Int), (l.foldl (fun m b => lil m (g b)) m ≤ m) ∧ (∀ b ∈ l, l.foldl (fun m b => lil m (g b)) m ≤ g b) ∧ ∀ s, s ≤ m → (∀ b ∈ l, s ≤ g b) → s ≤ l.foldl (fun m b => lil m (g b)) m
  | [], m => ⟨Int.le_refl _, (fun _ h => by cases h), fun _ h _ => h⟩
  | b :: l, m => by
    obtain ⟨h1, h2, h3⟩ := foldl_lil g l (lil m (g b))
    have a : lil m (g b) ≤ m := lil_le.2 (.inl (Int.le_refl m))
    have c : lil m (g b) ≤ g b := lil_le.2 (.inr (Int.le_refl (g b)))
    refine ⟨Int.le_trans h1 a, fun z hz => ?_, fun s hs hg => h3 s (le_lil.2 ⟨hs, hg b List.mem_cons_self⟩) fun z hz => hg z (List.mem_cons_of_mem _ hz)⟩
    rcases List.mem_cons.1 hz with rfl | hz
    · exact Int.le_trans h1 c
    · exact h2 z hz
theorem lawTwo_ok {fs : List (Int × Int)} (ne : fs ≠ []) : lawTwo fs = bs2 fs := by
  obtain ⟨h1, h2, h3⟩ := foldl_lil (parted fs) (List.range (2 ^ (fs.length - 1))) (side0 fs)
  refine Int.le_antisymm ?_ (h3 _ (by unfold side0; rw [if_neg ne]; exact two_le ne) fun b _ => parted_ge ne b)
  rw [bs2_eq]
  refine le_lil.2 ⟨?_, ?_⟩
  · obtain ⟨b, b1, b2⟩ := parted_le ne (c := c00 fs) (d := c11 fs) ⟨.inl rfl, .inl rfl⟩ ⟨.inr rfl, .inr rfl⟩
    exact Int.le_trans (h2 b (List.mem_range.2 b1)) b2
  · obtain ⟨b, b1, b2⟩ := parted_le ne (c := c01 fs) (d := c10 fs) ⟨.inl rfl, .inr rfl⟩ ⟨.inr rfl, .inl rfl⟩
    exact Int.le_trans (h2 b (List.mem_range.2 b1)) b2
theorem gShr_ii (a b : Int) : gShr (.p (.int a)) (.p (.int b)) = if 0 ≤ b then some (.p (.int (a / 2 ^ b.toNat))) else none := by
  show (if _ then _ else _ : Option PyData).map _ = _
  split <;> rfl
theorem gShl_ii (a b : Int) : gShl (.p (.int a)) (.p (.int b)) = if 0 ≤ b ∧ b ≤ 1000000 ∧ a.natAbs < 2 ^ 64 then some (.p (.int (a * 2 ^ b.toNat))) else none := by
  show (if _ then _ else _ : Option PyData).map _ = _
  split <;> rfl
theorem nm_eF (f : Int × Int) : nm 1 (eF f) = true := by simp [eF, nm, nms]
theorem nms_eF (l : List (Int × Int)) : nms 1 (l.map eF) = true := nms_iff.2 fun d hd => by
  obtain ⟨f, _, rfl⟩ := List.mem_map.1 hd
  exact nm_eF f
theorem law_side_ok {fs : List (Int × Int)} {x : OD} (hx : IsL x (fs.map eF)) (hl : fs.length < 100) : φ_law_side [x] = .ok (pI (side0 fs)) [x] := by
  have e0 := hx.eq0 1 (nms_eF fs)
  have lx : ∀ a b c d, lk [x, a, b, c, d] 0 = some x := fun a b c d => hx.lk rfl
  by_cases ne : fs = []
  · subst ne
    rw [decide_eq_true (show ([] : List (Int × Int)).map eF = [] from rfl)] at e0
    rcases hx with rfl | rfl <;> simp only [List.map_nil] at e0 <;> simp [φ_law_side, fnOfBody_ap, side0, e0]
  · rw [decide_eq_false (fun z => ne (List.map_eq_nil_iff.1 z))] at e0
    have k0 := lcGoA_enc (i := 0) (x0 := x) (js := [3, 4]) (g := gTp 2 (gsCons (gNm 3) (gsCons (gNm 4) gsNil))) (t := tYs) (f := law_side_p0) eF (fun f => pI f.1) [x, .h, .h, .h, .h] (hx.lk rfl) fs fun f _ => ⟨_, _, _, rfl, rfl, rfl, rfl⟩
    have k1 := fun X => lcGoA_enc (i := 0) (x0 := x) (js := [3, 4]) (g := gTp 2 (gsCons (gNm 3) (gsCons (gNm 4) gsNil))) (t := tYs) (f := law_side_p1) eF (fun f => pI f.2) [x, .l X, .h, .h, .h] (hx.lk rfl) fs fun f _ => ⟨_, _, _, rfl, rfl, rfl, rfl⟩
    have m0 := gMin1_ints (n1 ne)
    have m1 := gMax1_ints (n1 ne)
    have m2 := gMin1_ints (n2 ne)
    have m3 := gMax1_ints (n2 ne)
    rw [List.map_map] at m0 m1 m2 m3
    replace m0 : gMin1 (.l (fs.map fun f => pI f.1)) = some (.p (.int (xsL fs))) := m0
    replace m1 : gMax1 (.l (fs.map fun f => pI f.1)) = some (.p (.int (xsR fs))) := m1
    replace m2 : gMin1 (.l (fs.map fun f => pI f.2)) = some (.p (.int (ysL fs))) := m2
    replace m3 : gMax1 (.l (fs.map fun f => pI f.2)) = some (.p (.int (ysR fs))) := m3
    have k1 := k1 (fs.map fun f => pI f.1)
    have it := hx.it
    have ll : (fs.map eF).length ≤ 40000 := by rw [List.length_map]; omega
    have e : side0 fs = if ysR fs - ysL fs > xsR fs - xsL fs then ysR fs - ysL fs else xsR fs - xsL fs := by unfold side0 side1 big; rw [if_neg ne]
    rw [e]
    generalize xsL fs = A at *
    generalize xsR fs = B at *
    generalize ysL fs = C at *
    generalize ysR fs = D at *
    generalize (fs.map fun f => pI f.1) = X at *
    generalize (fs.map fun f => pI f.2) = Y at *
    generalize fs.map eF = F at *
    simp [φ_law_side, fnOfBody_ap, lx, e0, it, ll, hol, k0, k1, m0, m1, m2, m3]
def eN2 (fs : List (Int × Int)) (k : Nat) : PyData := .tuple [.int (k : Int), eF (fk fs k)]
theorem enum_fk (fs : List (Int × Int)) : enumL 0 (fs.map eF) = (List.range fs.length).map (eN2 fs) := by
  apply List.ext_getElem
  · rw [enumL_len, List.length_map, List.length_map, List.length_range]
  · intro i h1 h2
    have hi : i < fs.length := by rw [enumL_len, List.length_map] at h1; exact h1
    have := enumL_ix (fs.map eF) (j := i) (by simp; exact hi)
    rw [List.getElem?_eq_getElem h1] at this
    rw [Option.some.inj this, List.getElem_map, List.getElem_map, List.getElem_range]
    unfold eN2 fk
    rw [List.getD_eq_getElem?_getD, List.getElem?_eq_getElem hi]; rfl
theorem bit_int (b k : Nat) : ((b : Int) / 2 ^ (k : Int).toNat % 2 = 1) ↔ bit b k = true := by
  unfold bit
  rw [decide_eq_true_iff, Int.toNat_natCast]
  have : ((b / 2 ^ k % 2 : Nat) : Int) = (b : Int) / 2 ^ k % 2 := by push_cast; rfl
  rw [← this]; omega
theorem bit_int0 (b k : Nat) : ((b : Int) / 2 ^ (k : Int).toNat % 2 = 0) ↔ bit b k = false := by
  have h := bit_int b k
  have h2 : 0 ≤ (b : Int) / 2 ^ (k : Int).toNat % 2 := Int.emod_nonneg _ (by decide)
  have h3 : (b : Int) / 2 ^ (k : Int).toNat % 2 < 2 := Int.emod_lt_of_pos _ (by decide)
  cases q : bit b k with
  | true => have := h.2 q; constructor
            · intro z; omega
            · intro z; cases z
  | false =>
    have : ¬ (b : Int) / 2 ^ (k : Int).toNat % 2 = 1 := fun z => by rw [h.1 z] at q; cases q
    exact ⟨fun _ => rfl, fun _ => by omega⟩
section
variable {fs : List (Int × Int)} {x : OD} (hx : IsL x (fs.map eF)) (hl : fs.length < 20)
include hx hl
theorem two_step (b : Nat) (m : Int) : law_two_p4 [x, pI m, pI (b : Int), .h, .h, .h, .h] = .nx [x, pI (lil m (parted fs b)), .h, .h, .h, .h, .h] := by
  have k0 := lcGoA_sel (i := 0) (x0 := x) (js := [5, 6]) (g := gTp 2 (gsCons (gNm 5) (gsCons (gNm 6) gsNil))) (t := law_two_p1) (f := law_two_p0) (eN2 fs) (bit b) (fun k => .p (eF (fk fs k))) [x, pI m, pI (b : Int), .h, .h, .h, .h] (hx.lk rfl) (List.range fs.length) fun k _ => by
    refine ⟨[x, pI m, pI (b : Int), .h, .h, pI (k : Int), .p (eF (fk fs k))], [x, pI m, pI (b : Int), .h, .h, pI (k : Int), .p (eF (fk fs k))], rfl, ?_, fun _ => rfl, fun _ => ⟨[x, pI m, pI (b : Int), .h, .h, pI (k : Int), .p (eF (fk fs k))], rfl, rfl⟩⟩
    have := bit_int b k
    generalize eF (fk fs k) = E
    cases q : bit b k <;> rw [q] at this <;> simp at this <;> simp [law_two_p1, gShr_ii, this]
  have k1 := fun one => lcGoA_sel (i := 0) (x0 := x) (js := [5, 6]) (g := gTp 2 (gsCons (gNm 5) (gsCons (gNm 6) gsNil))) (t := law_two_p3) (f := law_two_p2) (eN2 fs) (fun k => !bit b k) (fun k => .p (eF (fk fs k))) [x, pI m, pI (b : Int), .l one, .h, .h, .h] (hx.lk rfl) (List.range fs.length) fun k _ => by
    refine ⟨[x, pI m, pI (b : Int), .l one, .h, pI (k : Int), .p (eF (fk fs k))], [x, pI m, pI (b : Int), .l one, .h, pI (k : Int), .p (eF (fk fs k))], rfl, ?_, fun _ => rfl, fun _ => ⟨[x, pI m, pI (b : Int), .l one, .h, pI (k : Int), .p (eF (fk fs k))], rfl, rfl⟩⟩
    have := bit_int0 b k
    generalize eF (fk fs k) = E
    cases q : bit b k <;> rw [q] at this <;> simp at this <;> simp [law_two_p3, gShr_ii, this]
  rw [← enum_fk] at k0 k1
  have e1 : ((List.range fs.length).filter (bit b)).map (fun k => OD.p (eF (fk fs k))) = ((lot fs (bit b)).map eF).map .p := by unfold lot; rw [List.map_map, List.map_map]; rfl
  have e2 : ((List.range fs.length).filter fun k => !bit b k).map (fun k => OD.p (eF (fk fs k))) = ((lot fs fun k => !bit b k).map eF).map .p := by unfold lot; rw [List.map_map, List.map_map]; rfl
  rw [e1] at k0
  rw [e2] at k1
  have ll : ∀ p : Nat → Bool, (lot fs p).length < 100 := fun p => by
    unfold lot
    rw [List.length_map]
    have := List.length_filter_le p (List.range fs.length)
    rw [List.length_range] at this; omega
  have s1 := law_side_ok (x := .l (((lot fs (bit b)).map eF).map .p)) (.inr rfl) (ll _)
  have s2 := law_side_ok (x := .l (((lot fs fun k => !bit b k).map eF).map .p)) (.inr rfl) (ll _)
  have k1 := k1 (((lot fs (bit b)).map eF).map .p)
  have lx : ∀ a b c d f g, lk [x, a, b, c, d, f, g] 0 = some x := fun a b c d f g => hx.lk rfl
  have it := hx.it
  have le : (enumL 0 (fs.map eF)).length ≤ 40000 := by rw [enumL_len, List.length_map]; omega
  have ep : lil m (parted fs b) = if (if side0 (lot fs fun k => !bit b k) > side0 (lot fs (bit b)) then side0 (lot fs fun k => !bit b k) else side0 (lot fs (bit b))) < m then (if side0 (lot fs fun k => !bit b k) > side0 (lot fs (bit b)) then side0 (lot fs fun k => !bit b k) else side0 (lot fs (bit b))) else m := rfl
  rw [ep]
  generalize side0 (lot fs fun k => !bit b k) = S2 at *
  generalize side0 (lot fs (bit b)) = S1 at *
  generalize ((lot fs fun k => !bit b k).map eF).map OD.p = L2 at *
  generalize ((lot fs (bit b)).map eF).map OD.p = L1 at *
  generalize fs.map eF = F at *
  simp [law_two_p4, lx, it, le, hol, k0, k1, s1, s2]
theorem law_two_ok : φ_law_two [x] = .ok (pI (lawTwo fs)) [x] := by
  have s := law_side_ok hx (by omega)
  have len := hx.len
  rw [List.length_map] at len
  have lx : ∀ a b c d f g, lk [x, a, b, c, d, f, g] 0 = some x := fun a b c d f g => hx.lk rfl
  obtain ⟨e', q1, rfl⟩ := forGo_rng0 (g := gNm 2) (f := law_two_p4) (2 ^ (fs.length - 1)) (fun j e => e = [x, pI ((List.range j).foldl (fun m b => lil m (parted fs b)) (side0 fs)), .h, .h, .h, .h, .h]) [x, pI (side0 fs), .h, .h, .h, .h, .h] rfl fun j hj e he => by
    subst he
    refine ⟨_, _, rfl, two_step hx hl j _, ?_⟩
    rw [List.range_succ, List.foldl_append]; rfl
  have pw : 2 ^ (fs.length - 1) < 1000000 := Nat.lt_of_le_of_lt (Nat.pow_le_pow_right (by decide) (by omega : fs.length - 1 ≤ 18)) (by decide)
  have w1 := rng1_nat pw
  have e1 : (if 1 < (fs.length : Int) then (fs.length : Int) - 1 else 0) = ((fs.length - 1 : Nat) : Int) := by split <;> omega
  have e2 : (1 : Int) * 2 ^ (((fs.length - 1 : Nat) : Int)).toNat = ((2 ^ (fs.length - 1) : Nat) : Int) := by rw [Int.one_mul, Int.toNat_natCast]; push_cast; rfl
  have c1 : ((fs.length - 1 : Nat) : Int) ≤ 1000000 := by omega
  rw [show lawTwo fs = (List.range (2 ^ (fs.length - 1))).foldl (fun m b => lil m (parted fs b)) (side0 fs) from rfl]
  generalize (List.range (2 ^ (fs.length - 1))).foldl (fun m b => lil m (parted fs b)) (side0 fs) = R at *
  generalize side0 fs = S at *
  generalize ((2 ^ (fs.length - 1) : Nat) : Int) = PW at *
  generalize rngL 0 (2 ^ (fs.length - 1)) = RN at *
  generalize hn : ((fs.length - 1 : Nat) : Int) = N at *
  have n0 : 0 ≤ N := by omega
  rw [Int.one_mul] at e2
  rcases hx with rfl | rfl <;> generalize fs.map eF = F at * <;> simp [φ_law_two, fnOfBody_ap, gShl_ii, s, len, e1, e2, n0, c1, w1, q1, -List.map_map, -gLen_l, -gLen_list]
end
/-! ### fractions as rational numbers -/
def V (f : Int × Int) : Rat := (f.1 : Rat) / (f.2 : Rat)
theorem pos_cast {b : Int} (h : 0 < b) : (0 : Rat) < (b : Rat) := by exact_mod_cast h
theorem V_mul {f : Int × Int} (h : 0 < f.2) : V f * (f.2 : Rat) = (f.1 : Rat) := Rat.div_mul_cancel (by have := pos_cast h; grind)
theorem below_iff {f g : Int × Int} (hf : 0 < f.2) (hg : 0 < g.2) : below f g = true ↔ V f < V g := by
  have h1 := V_mul hf
  have h2 := V_mul hg
  have p1 := pos_cast hf
  have p2 := pos_cast hg
  have p3 := Rat.mul_pos p1 p2
  unfold below
  rw [decide_eq_true_eq, ← Rat.intCast_lt_intCast, Rat.intCast_mul, Rat.intCast_mul, ← h1, ← h2]
  have e1 : V f * (f.2 : Rat) * (g.2 : Rat) = V f * ((f.2 : Rat) * (g.2 : Rat)) := by grind
  have e2 : V g * (g.2 : Rat) * (f.2 : Rat) = V g * ((f.2 : Rat) * (g.2 : Rat)) := by grind
  rw [e1, e2, Rat.mul_lt_mul_right p3]
theorem not_below {f g : Int × Int} (hf : 0 < f.2) (hg : 0 < g.2) : below f g = false ↔ V g ≤ V f := by
  rw [← Bool.not_eq_true, below_iff hf hg, Rat.not_lt]
theorem fr_V {n m : Nat} {f g : Int × Int} (hf : Fr n f) (hg : Fr m g) (h : V f = V g) : f = g := by
  refine fr_eq hf hg ?_
  have h1 := V_mul hf.pos
  have h2 := V_mul hg.pos
  have : ((f.1 * g.2 : Int) : Rat) = ((g.1 * f.2 : Int) : Rat) := by
    rw [Rat.intCast_mul, Rat.intCast_mul, ← h1, ← h2, h]; grind
  exact_mod_cast this
theorem V_low {a b : Int} (hb : 0 < b) : V (low a b) = (a : Rat) / (b : Rat) := by
  have h1 := V_mul (low_pos (a := a) hb)
  have h2 := low_val (a := a) hb
  have p1 := pos_cast hb
  have p2 := pos_cast (low_pos (a := a) hb)
  have h3 : ((low a b).1 : Rat) * (b : Rat) = (a : Rat) * ((low a b).2 : Rat) := by exact_mod_cast h2
  rw [← h1] at h3
  have h4 : (a : Rat) / (b : Rat) * (b : Rat) = (a : Rat) := Rat.div_mul_cancel (by grind)
  generalize V (low a b) = x at *
  generalize ((low a b).2 : Rat) = y at *
  generalize (a : Rat) / (b : Rat) = z at *
  have h5 : (x * (b : Rat)) * y = (z * (b : Rat)) * y := by rw [h4, ← h3]; grind
  have h6 : x * ((b : Rat) * y) = z * ((b : Rat) * y) := by grind
  have h7 := Rat.mul_pos p1 p2
  have h8 : (b : Rat) * y ≠ 0 := by grind
  calc x = x * ((b : Rat) * y) / ((b : Rat) * y) := by rw [Rat.mul_div_cancel h8]
    _ = z := by rw [h6, Rat.mul_div_cancel h8]
theorem V_00 : V (0, 1) = 0 := by unfold V; decide +kernel
theorem V_nn {f : Int × Int} (hf : 0 < f.2) : 0 ≤ V f ↔ 0 ≤ f.1 := by
  have h1 := V_mul hf
  have p1 := pos_cast hf
  rw [← Rat.intCast_le_intCast, ← h1]
  constructor
  · intro h; have := Rat.mul_nonneg h (by grind : (0 : Rat) ≤ (f.2 : Rat)); grind
  · intro h
    have : (0 : Rat) * (f.2 : Rat) ≤ V f * (f.2 : Rat) := by grind
    exact Rat.le_of_mul_le_mul_right this p1
/-- the least of some fractions -/
def least : List (Int × Int) → Int × Int
  | [] => (0, 1)
  | f :: fs => fs.foldl (fun b a => if below a b then a else b) f
def great (fs : List (Int × Int)) : Int × Int := fs.foldl (fun b a => if below b a then a else b) (0, 1)
theorem fold_fr {n : Nat} {P : Int × Int → Int × Int → Bool} : ∀ (fs : List (Int × Int)) (b : Int × Int), Fr n b → (∀ f ∈ fs, Fr n f) → Fr n (fs.foldl (fun b a => if P b a then a else b) b)
  | [], _, h, _ => h
  | f :: fs, b, h, k => fold_fr fs _ (by dsimp only; split; exact k f List.mem_cons_self; exact h) fun g hg => k g (List.mem_cons_of_mem _ hg)
theorem least_fr {n : Nat} {fs : List (Int × Int)} (hn : 1 ≤ n) (h : ∀ f ∈ fs, Fr n f) : Fr n (least fs) := by
  cases fs with
  | nil => exact fr0 hn
  | cons f fs => exact fold_fr (P := fun b a => below a b) fs f (h f List.mem_cons_self) fun g hg => h g (List.mem_cons_of_mem _ hg)
theorem great_fr {n : Nat} {fs : List (Int × Int)} (hn : 1 ≤ n) (h : ∀ f ∈ fs, Fr n f) : Fr n (great fs) := fold_fr (P := fun b a => below b a) fs _ (fr0 hn) h
/-! ### ways and reaches on a plane -/
structure Sp (q : (Int × Int) × (Int × Int)) : Prop where
  f1 : Fr 120 q.1
  f2 : Fr 120 q.2
def eP (q : (Int × Int) × (Int × Int)) : PyData := .tuple [eF q.1, eF q.2]
def ax (a : Int) (g : Int × Int) : Int × Int := low (if a * g.2 - g.1 < 0 then -(a * g.2 - g.1) else a * g.2 - g.1) g.2
def mx2 (f g : Int × Int) : Int × Int := if below f g then g else f
def waySq (p : Int × Int) (q : (Int × Int) × (Int × Int)) : Int × Int := mx2 (ax p.1 q.1) (ax p.2 q.2)
theorem ax_bd {a : Int} {g : Int × Int} (ha : Bd 84 a) (hg : Fr 120 g) : Bd 206 (if a * g.2 - g.1 < 0 then -(a * g.2 - g.1) else a * g.2 - g.1) := (Bd.sub (n := 204) (ha.mul hg.b2) (hg.b1.mono (by decide))).abs.mono (by decide)
theorem ax_fr {a : Int} {g : Int × Int} (ha : Bd 84 a) (hg : Fr 120 g) : Fr 210 (ax a g) := low_fr hg.pos ((ax_bd ha hg).mono (by decide)) (hg.b2.mono (by decide))
theorem low_nn {a b : Int} (hb : 0 < b) (ha : 0 ≤ a) : 0 ≤ (low a b).1 := Int.ediv_nonneg ha (by have := gcd_pos (a := a) hb; omega)
theorem ax_nn {a : Int} {g : Int × Int} (hg : 0 < g.2) : 0 ≤ (ax a g).1 := low_nn hg (by split <;> omega)
theorem mx2_fr {n : Nat} {f g : Int × Int} (hf : Fr n f) (hg : Fr n g) : Fr n (mx2 f g) := by unfold mx2; split <;> assumption
theorem mx2_0 {n : Nat} {f : Int × Int} (hf : Fr n f) (h : 0 ≤ f.1) : mx2 (0, 1) f = f := by
  unfold mx2
  split
  · rfl
  · rename_i q
    have q : ¬ (0 * f.2 < f.1 * 1) := by simpa [below] using q
    have e : f.1 = 0 := by omega
    have o := hf.one
    rw [e] at o
    have p := hf.pos
    have : f.2 = 1 := by
      have z : Int.gcd 0 f.2 = f.2.natAbs := Int.gcd_zero_left _
      rw [z] at o; omega
    rw [← e, ← this]
theorem way_fr {p : Int × Int} {q : (Int × Int) × (Int × Int)} (hp : Pl p) (hq : Sp q) : Fr 210 (waySq p q) := mx2_fr (ax_fr hp.b1 hq.f1) (ax_fr hp.b2 hq.f2)
def reachS (fs : List (Int × Int)) (ps : List ((Int × Int) × (Int × Int))) : Int × Int := great (fs.map fun p => least (ps.map (waySq p)))
theorem ways_fr {p : Int × Int} {ps : List ((Int × Int) × (Int × Int))} (hp : Pl p) (hq : ∀ q ∈ ps, Sp q) : ∀ x ∈ ps.map (waySq p), Fr 210 x := fun x hx => by
  obtain ⟨q, h, rfl⟩ := List.mem_map.1 hx
  exact way_fr hp (hq q h)
theorem least_w {p : Int × Int} {ps : List ((Int × Int) × (Int × Int))} (hp : Pl p) (hq : ∀ q ∈ ps, Sp q) : Fr 210 (least (ps.map (waySq p))) := least_fr (by decide) (ways_fr hp hq)
theorem reachS_fr {fs : List (Int × Int)} {ps : List ((Int × Int) × (Int × Int))} (hf : ∀ p ∈ fs, Pl p) (hq : ∀ q ∈ ps, Sp q) : Fr 210 (reachS fs ps) := great_fr (by decide) fun x hx => by
  obtain ⟨f, h, rfl⟩ := List.mem_map.1 hx
  exact least_w (hf f h) hq
theorem law_way_step {P Q : PyData} {i a : Int} {g : Int × Int} {l : List PyData} (ll : l.length < 50) (h1 : gIx (.p Q) (.p (.int i)) = some (.p (eF g))) (h2 : gIx (.p P) (.p (.int i)) = some (.p (.int a))) (ha : Bd 84 a) (hg : Fr 120 g) :
    law_way_p0 [.p P, .p Q, .l (l.map .p), pI i, .h, .h] = .nx [.p P, .p Q, .l ((l ++ [eF (ax a g)]).map .p), .h, .h, .h] := by
  have m1 := ha.ok hg.b2
  have lo := law_lowest_ok (a := (if a * g.2 - g.1 < 0 then -(a * g.2 - g.1) else a * g.2 - g.1)) hg.pos (hg.b2.mono (by decide))
  rw [show low _ g.2 = ax a g from rfl] at lo
  generalize eF (ax a g) = Z at *
  simp only [eF] at h1
  have l1 : l.length < 100000 := by omega
  simp [law_way_p0, h1, h2, m1, lo, l1]
theorem law_way_ok {p : Int × Int} {q : (Int × Int) × (Int × Int)} (hp : Pl p) (hq : Sp q) : φ_law_way [.p (eF p), .p (eP q)] = .ok (.p (eF (waySq p q))) [.p (eF p), .p (eP q)] := by
  have s0 := law_way_step (P := eF p) (Q := eP q) (i := 0) (l := []) (by decide) rfl (gIx_eF0 p) hp.b1 hq.f1
  have s1 := law_way_step (P := eF p) (Q := eP q) (i := 1) (l := [eF (ax p.1 q.1)]) (by simp) rfl (gIx_eF1 p) hp.b2 hq.f2
  have ls := law_less_ok (ax_fr hp.b1 hq.f1) (ax_fr hp.b2 hq.f2) (by decide)
  have e : waySq p q = if below (ax p.1 q.1) (ax p.2 q.2) then ax p.2 q.2 else ax p.1 q.1 := rfl
  rw [e]
  generalize ax p.1 q.1 = A at *
  generalize ax p.2 q.2 = B at *
  generalize eF p = P at *
  generalize eP q = Q at *
  simp only [List.nil_append, List.map_nil, List.map_cons, List.cons_append] at s0 s1
  have x0 : gIx (.l [.p (eF A), .p (eF B)]) (.p (.int 0)) = some (.p (eF A)) := rfl
  have x1 : gIx (.l [.p (eF A), .p (eF B)]) (.p (.int 1)) = some (.p (eF B)) := rfl
  cases c : below A B <;> rw [c] at ls <;> simp only [Bool.false_eq_true, ↓reduceIte] <;> generalize eF A = EA at * <;> generalize eF B = EB at * <;> simp [φ_law_way, fnOfBody_ap, forGo_cons, s0, s1, x0, x1, ls, -gIx_l]
section
variable {fs : List (Int × Int)} {ps : List ((Int × Int) × (Int × Int))} (hf : ∀ p ∈ fs, Pl p) (hq : ∀ q ∈ ps, Sp q) {x y : OD} (hx : IsL x (fs.map eF)) (hy : IsL y (ps.map eP))
include hf hq hx hy
theorem law_sq_turn (ne : ps ≠ []) {p : Int × Int} (hp : p ∈ fs) {b : Int × Int} (hb : Fr 210 b) : law_square_reach_p1 [x, y, .p (eF b), .p (eF p), .h, .h] = .nx [x, y, .p (eF (mx2 b (least (ps.map (waySq p))))), .h, .h, .h] := by
  obtain ⟨q, ps', rfl⟩ : ∃ q ps', ps = q :: ps' := by
    cases ps with
    | nil => exact absurd rfl ne
    | cons q l => exact ⟨q, l, rfl⟩
  have inner := (forGoA_fold (i := 1) (x := y) (g := gNm 5) (f := law_square_reach_p0) eP (fun z => [x, y, .p (eF b), .p (eF p), .p (eF z), .h]) (fun z => hy.lk rfl) (fun z g => if below (waySq p g) z then waySq p g else z) (Fr 210) (q :: ps') (waySq p q) (way_fr (hf p hp) (hq q List.mem_cons_self)) fun z g hz hg => by
    have k := law_less_ok (way_fr (hf p hp) (hq g hg)) hz (by decide)
    have k2 := law_way_ok (hf p hp) (hq g hg)
    have wf := way_fr (hf p hp) (hq g hg)
    refine ⟨by split <;> assumption, _, rfl, ?_⟩
    generalize eF p = P at *
    generalize eP g = G at *
    generalize eF b = B at *
    cases hc : below (waySq p g) z <;> rw [hc] at k <;> simp only [Bool.false_eq_true, ↓reduceIte] <;> generalize eF (waySq p g) = W at * <;> generalize eF z = Z at * <;> simp [law_square_reach_p0, k, k2]).1
  rw [List.foldl_cons, below_self, if_neg (by decide)] at inner
  rw [show ps'.foldl (fun z g => if below (waySq p g) z then waySq p g else z) (waySq p q) = least ((q :: ps').map (waySq p)) by simp only [least, List.map_cons, List.foldl_map]] at inner
  have k1 := law_way_ok (hf p hp) (hq q List.mem_cons_self)
  have k4 := law_less_ok hb (least_w (hf p hp) hq) (by decide)
  have k5 : gIx y (.p (.int 0)) = some (.p (eP q)) := hy.ix (k := 0) rfl
  have it := hy.it
  have ly : ∀ a b c d, lk [x, y, a, b, c, d] 1 = some y := fun a b c d => hy.lk rfl
  unfold mx2
  generalize hL : least ((q :: ps').map (waySq p)) = L at *
  generalize (q :: ps').map eP = Y at *
  generalize eF p = P at *
  generalize eP q = Q at *
  generalize eF (waySq p q) = W at *
  cases hc : below b L <;> rw [hc] at k4 <;> simp only [Bool.false_eq_true, ↓reduceIte] <;> generalize eF L = EL at * <;> generalize eF b = EB at * <;> simp [law_square_reach_p1, ly, it, k5, k1, inner, k4, -List.map_map]
theorem law_square_reach_ok (ne : ps ≠ []) : φ_law_square_reach [x, y] = .ok (.p (eF (reachS fs ps))) [x, y] := by
  have loop := (forGoA_fold (i := 0) (x := x) (g := gNm 3) (f := law_square_reach_p1) eF (fun b => [x, y, .p (eF b), .h, .h, .h]) (fun b => hx.lk rfl) (fun b p => mx2 b (least (ps.map (waySq p)))) (Fr 210) fs (0, 1) (fr0 (by decide)) fun b p hb hp =>
    ⟨mx2_fr hb (least_w (hf p hp) hq), _, rfl, law_sq_turn hf hq hx hy ne hp hb⟩).1
  rw [show fs.foldl (fun b p => mx2 b (least (ps.map (waySq p)))) (0, 1) = reachS fs ps by unfold reachS great; rw [List.foldl_map]; rfl, show eF (0, 1) = .tuple [.int 0, .int 1] from rfl] at loop
  have lx : ∀ a b c d, lk [x, y, a, b, c, d] 0 = some x := fun a b c d => hx.lk rfl
  have it := hx.it
  generalize eF (reachS fs ps) = R at *
  generalize fs.map eF = F at *
  simp [φ_law_square_reach, fnOfBody_ap, lx, it, loop]
end
theorem least_V {n : Nat} : ∀ (fs : List (Int × Int)) (f : Int × Int), (∀ x ∈ f :: fs, Fr n x) → (∀ x ∈ f :: fs, V (least (f :: fs)) ≤ V x) ∧ least (f :: fs) ∈ f :: fs
  | [], f, _ => ⟨fun x hx => by rw [List.mem_singleton.1 hx]; exact Rat.le_refl, List.mem_cons_self⟩
  | g :: fs, f, h => by
    have hf := h f List.mem_cons_self
    have hg := h g (List.mem_cons_of_mem _ List.mem_cons_self)
    have e : least (f :: g :: fs) = least ((if below g f then g else f) :: fs) := rfl
    have hm : ∀ x ∈ (if below g f then g else f) :: fs, Fr n x := fun x hx => by
      rcases List.mem_cons.1 hx with rfl | hx
      · split <;> assumption
      · exact h x (List.mem_cons_of_mem _ (List.mem_cons_of_mem _ hx))
    obtain ⟨a, b⟩ := least_V fs _ hm
    rw [e]
    have a0 := a _ List.mem_cons_self
    have m0 : V (if below g f then g else f) ≤ V f ∧ V (if below g f then g else f) ≤ V g := by
      by_cases k : below g f = true
      · rw [if_pos k]
        have := (below_iff hg.pos hf.pos).1 k
        constructor <;> grind
      · rw [if_neg k]
        have := (not_below hg.pos hf.pos).1 (by simpa using k)
        constructor <;> grind
    refine ⟨fun x hx => ?_, ?_⟩
    · rcases List.mem_cons.1 hx with rfl | hx
      · exact Rat.le_trans a0 m0.1
      · rcases List.mem_cons.1 hx with rfl | hx
        · exact Rat.le_trans a0 m0.2
        · exact a x (List.mem_cons_of_mem _ hx)
    · rcases List.mem_cons.1 b with b | b
      · rw [b]
        split
        · exact List.mem_cons_of_mem _ List.mem_cons_self
        · exact List.mem_cons_self
      · exact List.mem_cons_of_mem _ (List.mem_cons_of_mem _ b)
theorem great_V' {n : Nat} : ∀ (fs : List (Int × Int)) (b : Int × Int), Fr n b → (∀ x ∈ fs, Fr n x) → (V b ≤ V (fs.foldl (fun b a => if below b a then a else b) b)) ∧ (∀ x ∈ fs, V x ≤ V (fs.foldl (fun b a => if below b a then a else b) b)) ∧ (fs.foldl (fun b a => if below b a then a else b) b = b ∨ fs.foldl (fun b a => if below b a then a else b) b ∈ fs)
  | [], b, _, _ => ⟨Rat.le_refl, (fun _ h => by cases h), .inl rfl⟩
  | f :: fs, b, hb, h => by
    have hf := h f List.mem_cons_self
    have hm : Fr n (if below b f then f else b) := by split <;> assumption
    obtain ⟨a1, a2, a3⟩ := great_V' fs _ hm fun x hx => h x (List.mem_cons_of_mem _ hx)
    have m0 : V b ≤ V (if below b f then f else b) ∧ V f ≤ V (if below b f then f else b) := by
      by_cases k : below b f = true
      · rw [if_pos k]
        have := (below_iff hb.pos hf.pos).1 k
        constructor <;> grind
      · rw [if_neg k]
        have := (not_below hb.pos hf.pos).1 (by simpa using k)
        constructor <;> grind
    rw [List.foldl_cons]
    refine ⟨Rat.le_trans m0.1 a1, fun x hx => ?_, ?_⟩
    · rcases List.mem_cons.1 hx with rfl | hx
      · exact Rat.le_trans m0.2 a1
      · exact a2 x hx
    · rcases a3 with a3 | a3
      · rw [a3]
        split
        · exact .inr List.mem_cons_self
        · exact .inl rfl
      · exact .inr (List.mem_cons_of_mem _ a3)
/-! ### reaches on a plane, as rational numbers -/
theorem V_ax {a : Int} {g : Int × Int} (hg : 0 < g.2) : V (ax a g) = if (a : Rat) - V g < 0 then -((a : Rat) - V g) else (a : Rat) - V g := by
  have h1 := V_mul hg
  have p1 := pos_cast hg
  have e : ((a * g.2 - g.1 : Int) : Rat) = ((a : Rat) - V g) * (g.2 : Rat) := by
    rw [Rat.intCast_sub, Rat.intCast_mul, ← h1]; grind
  have ec : (((if a * g.2 - g.1 < 0 then -(a * g.2 - g.1) else a * g.2 - g.1) : Int) : Rat) = if ((a : Rat) - V g) * (g.2 : Rat) < 0 then -(((a : Rat) - V g) * (g.2 : Rat)) else ((a : Rat) - V g) * (g.2 : Rat) := by
    by_cases k : a * g.2 - g.1 < 0
    · have : ((a : Rat) - V g) * (g.2 : Rat) < 0 := by rw [← e]; exact_mod_cast k
      rw [if_pos k, if_pos this, Rat.intCast_neg, e]
    · have : ¬ ((a : Rat) - V g) * (g.2 : Rat) < 0 := by rw [← e]; intro z; exact k (by exact_mod_cast z)
      rw [if_neg k, if_neg this, e]
  unfold ax
  rw [V_low hg, ec]
  have inv : ∀ y : Rat, y * (g.2 : Rat) / (g.2 : Rat) = y := fun y => by
    rw [Rat.div_def, Rat.mul_assoc, Rat.mul_inv_cancel _ (by grind), Rat.mul_one]
  by_cases k : (a : Rat) - V g < 0
  · have : ((a : Rat) - V g) * (g.2 : Rat) < 0 := by rw [Rat.mul_neg_iff_of_pos_right p1]; exact k
    rw [if_pos k, if_pos this, show -(((a : Rat) - V g) * (g.2 : Rat)) = -((a : Rat) - V g) * (g.2 : Rat) by grind, inv]
  · have : ¬ ((a : Rat) - V g) * (g.2 : Rat) < 0 := by rw [Rat.mul_neg_iff_of_pos_right p1]; exact k
    rw [if_neg k, if_neg this, inv]
theorem ax_le {a : Int} {g : Int × Int} (hg : 0 < g.2) {r : Rat} : V (ax a g) ≤ r ↔ (a : Rat) - V g ≤ r ∧ V g - (a : Rat) ≤ r := by
  rw [V_ax hg]
  split <;> constructor <;> intro h
  · constructor <;> grind
  · grind
  · constructor <;> grind
  · grind
theorem mx2_le {n : Nat} {f g : Int × Int} (hf : Fr n f) (hg : Fr n g) {r : Rat} : V (mx2 f g) ≤ r ↔ V f ≤ r ∧ V g ≤ r := by
  unfold mx2
  by_cases k : below f g = true
  · rw [if_pos k]
    have := (below_iff hf.pos hg.pos).1 k
    constructor <;> intro h
    · constructor <;> grind
    · grind
  · rw [if_neg k]
    have := (not_below hf.pos hg.pos).1 (by simpa using k)
    constructor <;> intro h
    · constructor <;> grind
    · grind
theorem way_le {p : Int × Int} {q : (Int × Int) × (Int × Int)} (hp : Pl p) (hq : Sp q) {r : Rat} : V (waySq p q) ≤ r ↔ ((p.1 : Rat) - V q.1 ≤ r ∧ V q.1 - (p.1 : Rat) ≤ r) ∧ ((p.2 : Rat) - V q.2 ≤ r ∧ V q.2 - (p.2 : Rat) ≤ r) := by
  unfold waySq
  rw [mx2_le (ax_fr hp.b1 hq.f1) (ax_fr hp.b2 hq.f2), ax_le hq.f1.pos, ax_le hq.f2.pos]
section
variable {fs : List (Int × Int)} {ps : List ((Int × Int) × (Int × Int))} (hf : ∀ p ∈ fs, Pl p) (hq : ∀ q ∈ ps, Sp q)
include hf hq
theorem reachS_le (np : ps ≠ []) {r : Rat} : V (reachS fs ps) ≤ r ↔ 0 ≤ r ∧ ∀ p ∈ fs, ∃ q ∈ ps, V (waySq p q) ≤ r := by
  obtain ⟨a1, a2, a3⟩ := great_V' (n := 210) (fs.map fun p => least (ps.map (waySq p))) (0, 1) (fr0 (by decide)) fun x hx => by
    obtain ⟨p, hp, rfl⟩ := List.mem_map.1 hx
    exact least_w (hf p hp) hq
  rw [V_00] at a1
  have lv : ∀ p ∈ fs, (∀ x ∈ ps.map (waySq p), V (least (ps.map (waySq p))) ≤ V x) ∧ least (ps.map (waySq p)) ∈ ps.map (waySq p) := fun p hp => by
    obtain ⟨q, l, rfl⟩ := List.exists_cons_of_ne_nil np
    exact least_V (n := 210) (l.map (waySq p)) (waySq p q) (ways_fr (ps := q :: l) (hf p hp) hq)
  constructor
  · intro h
    refine ⟨Rat.le_trans a1 h, fun p hp => ?_⟩
    obtain ⟨q, h1, h2⟩ := List.mem_map.1 (lv p hp).2
    refine ⟨q, h1, ?_⟩
    rw [h2]
    exact Rat.le_trans (a2 _ (List.mem_map_of_mem (f := fun p => least (ps.map (waySq p))) hp)) h
  · rintro ⟨r0, h⟩
    rcases a3 with a3 | a3
    · show V (List.foldl _ _ _) ≤ r
      rw [a3, V_00]; exact r0
    · obtain ⟨p, hp, e⟩ := List.mem_map.1 a3
      obtain ⟨q, h1, h2⟩ := h p hp
      show V (List.foldl _ _ _) ≤ r
      rw [← e]
      exact Rat.le_trans ((lv p hp).1 _ (List.mem_map_of_mem h1)) h2
/-- two posts: no less reach than half of the side -/
theorem two_reach (ne : fs ≠ []) (np : ps ≠ []) {q1 q2 : (Int × Int) × (Int × Int)} (h12 : ∀ q ∈ ps, q = q1 ∨ q = q2) (hq1 : Sp q1) (hq2 : Sp q2) : (bs2 fs : Rat) ≤ 2 * V (reachS fs ps) := by
  have fr := reachS_fr hf hq
  have h := ((reachS_le hf hq np).1 (Rat.le_refl (a := V (reachS fs ps)))).2
  have vm := V_mul fr.pos
  have pc := pos_cast fr.pos
  generalize reachS fs ps = R at *
  -- scaled by the bottom
  have two : ∀ (q : (Int × Int) × (Int × Int)), Sp q → ∀ p ∈ fs, ∀ p' ∈ fs, V (waySq p q) ≤ V R → V (waySq p' q) ≤ V R → p.1 * R.2 - p'.1 * R.2 ≤ 2 * R.1 ∧ p.2 * R.2 - p'.2 * R.2 ≤ 2 * R.1 := fun q sq p hp p' hp' a b => by
    obtain ⟨⟨x1, x2⟩, x3, x4⟩ := (way_le (hf p hp) sq).1 a
    obtain ⟨⟨y1, y2⟩, y3, y4⟩ := (way_le (hf p' hp') sq).1 b
    have z1 : ((p.1 : Rat) - (p'.1 : Rat)) * (R.2 : Rat) ≤ 2 * V R * (R.2 : Rat) := Rat.mul_le_mul_of_nonneg_right (by grind) (by grind)
    have z2 : ((p.2 : Rat) - (p'.2 : Rat)) * (R.2 : Rat) ≤ 2 * V R * (R.2 : Rat) := Rat.mul_le_mul_of_nonneg_right (by grind) (by grind)
    rw [Rat.mul_assoc, vm] at z1 z2
    constructor
    · have : ((p.1 * R.2 - p'.1 * R.2 : Int) : Rat) ≤ ((2 * R.1 : Int) : Rat) := by
        rw [Rat.intCast_sub, Rat.intCast_mul, Rat.intCast_mul, Rat.intCast_mul]
        have : ((2 : Int) : Rat) = 2 := rfl
        rw [this]; grind
      exact_mod_cast this
    · have : ((p.2 * R.2 - p'.2 * R.2 : Int) : Rat) ≤ ((2 * R.1 : Int) : Rat) := by
        rw [Rat.intCast_sub, Rat.intCast_mul, Rat.intCast_mul, Rat.intCast_mul]
        have : ((2 : Int) : Rat) = 2 := rfl
        rw [this]; grind
      exact_mod_cast this
  have key := split_two (fs := fs.map fun f => (f.1 * R.2, f.2 * R.2)) (fun z => ne (List.map_eq_nil_iff.1 z)) (s := 2 * R.1) (fun g => ∃ p ∈ fs, (p.1 * R.2, p.2 * R.2) = g ∧ V (waySq p q1) ≤ V R) (fun g => ∃ p ∈ fs, (p.1 * R.2, p.2 * R.2) = g ∧ V (waySq p q2) ≤ V R)
    (fun g hg => by
      obtain ⟨p, hp, rfl⟩ := List.mem_map.1 hg
      obtain ⟨q, a, b⟩ := h p hp
      rcases h12 q a with rfl | rfl
      · exact .inl ⟨p, hp, rfl, b⟩
      · exact .inr ⟨p, hp, rfl, b⟩)
    (fun g _ g' _ ⟨p, hp, e, a⟩ ⟨p', hp', e', a'⟩ => by subst e; subst e'; exact two q1 hq1 p hp p' hp' a a')
    (fun g _ g' _ ⟨p, hp, e, a⟩ ⟨p', hp', e', a'⟩ => by subst e; subst e'; exact two q2 hq2 p hp p' hp' a a')
  have hm := mulmono ne (t := R.2) (by have := fr.pos; omega)
  rw [bs2_map ne (· * R.2) (· * R.2) hm hm (· * R.2) hm (fun p c => by
    unfold sf
    simp only
    rw [← Int.sub_mul, ← Int.sub_mul, abs_mul ne (by have := fr.pos; omega), abs_mul ne (by have := fr.pos; omega), big_mul ne (by have := fr.pos; omega)])] at key
  have kr : (bs2 fs : Rat) * (R.2 : Rat) ≤ 2 * (R.1 : Rat) := by
    have : ((bs2 fs * R.2 : Int) : Rat) ≤ ((2 * R.1 : Int) : Rat) := by exact_mod_cast key
    rw [Rat.intCast_mul, Rat.intCast_mul] at this
    exact this
  rw [← vm] at kr
  apply Rat.le_of_mul_le_mul_right (c := (R.2 : Rat)) _ pc
  grind
theorem one_reach (ne : fs ≠ []) {q : (Int × Int) × (Int × Int)} (e : ps = [q]) : (side1 fs : Rat) ≤ 2 * V (reachS fs ps) := by
  have h := ((reachS_le hf hq (by rw [e]; simp)).1 (Rat.le_refl (a := V (reachS fs ps)))).2
  have sq : Sp q := hq q (by rw [e]; simp)
  have two : ∀ p ∈ fs, ∀ p' ∈ fs, (p.1 : Rat) - (p'.1 : Rat) ≤ 2 * V (reachS fs ps) ∧ (p.2 : Rat) - (p'.2 : Rat) ≤ 2 * V (reachS fs ps) := fun p hp p' hp' => by
    obtain ⟨a, a1, a2⟩ := h p hp
    obtain ⟨b, b1, b2⟩ := h p' hp'
    rw [e] at a1 b1
    obtain rfl := List.mem_singleton.1 a1
    obtain rfl := List.mem_singleton.1 b1
    obtain ⟨⟨x1, x2⟩, x3, x4⟩ := (way_le (hf p hp) sq).1 a2
    obtain ⟨⟨y1, y2⟩, y3, y4⟩ := (way_le (hf p' hp') sq).1 b2
    constructor <;> grind
  obtain ⟨l, hl, el⟩ := List.mem_map.1 (mn_mem (n1 ne))
  obtain ⟨r, hr, er⟩ := List.mem_map.1 (mx_mem (n1 ne))
  obtain ⟨d, hd, ed⟩ := List.mem_map.1 (mn_mem (n2 ne))
  obtain ⟨u, hu, eu⟩ := List.mem_map.1 (mx_mem (n2 ne))
  have t1 := (two r hr l hl).1
  have t2 := (two u hu d hd).2
  rw [el, er] at t1
  rw [ed, eu] at t2
  unfold side1 big
  split
  · rw [Rat.intCast_sub]; exact t2
  · rw [Rat.intCast_sub]; exact t1
end
/-! ### the posts -/
def tn (c a : Int) : Int := if a < c then -1 else 1
def mid (c a : Int × Int) (s : Int) : (Int × Int) × (Int × Int) := (low (2 * c.1 + tn c.1 a.1 * s) 2, low (2 * c.2 + tn c.2 a.2 * s) 2)
theorem mid_step {C A : PyData} {i c a s : Int} {l : List PyData} (ll : l.length < 50) (h1 : gIx (.p C) (.p (.int i)) = some (.p (.int c))) (h2 : gIx (.p A) (.p (.int i)) = some (.p (.int a))) :
    middle_p0 [.p C, .p A, pI s, .l (l.map .p), pI i, .h] = .nx [.p C, .p A, pI s, .l ((l ++ [eF (low (2 * c + tn c a * s) 2)]).map .p), .h, .h] := by
  have lo := lowest_ok (a := 2 * c + tn c a * s) (b := 2) (by decide) (Bd.of_le 16 (by decide) (by decide) (by decide))
  have m1 : MulOk 2 c := mulOk_l _ (by decide) (by decide)
  have l1 : l.length < 100000 := by omega
  generalize hR : eF (low (2 * c + tn c a * s) 2) = R at *
  unfold tn at lo
  by_cases k : a < c
  · rw [if_pos k] at lo
    have m2 : MulOk (-1) s := mulOk_l _ (by decide) (by decide)
    simp at lo
    simp [middle_p0, h1, h2, k, m1, m2, lo, l1]
  · rw [if_neg k] at lo
    have m2 : MulOk 1 s := mulOk_l _ (by decide) (by decide)
    simp at lo
    simp [middle_p0, h1, h2, k, m1, m2, lo, l1]
theorem middle_ok (c a : Int × Int) (s : Int) : φ_middle [.p (eF c), .p (eF a), pI s] = .ok (.p (eP (mid c a s))) [.p (eF c), .p (eF a), pI s] := by
  have s0 := mid_step (C := eF c) (A := eF a) (i := 0) (s := s) (l := []) (by decide) (gIx_eF0 c) (gIx_eF0 a)
  have s1 := mid_step (C := eF c) (A := eF a) (i := 1) (s := s) (l := [eF (low (2 * c.1 + tn c.1 a.1 * s) 2)]) (by simp) (gIx_eF1 c) (gIx_eF1 a)
  simp only [List.nil_append, List.map_nil, List.map_cons, List.cons_append] at s0 s1
  unfold eP mid
  simp only
  generalize eF (low (2 * c.1 + tn c.1 a.1 * s) 2) = X at *
  generalize eF (low (2 * c.2 + tn c.2 a.2 * s) 2) = Y at *
  generalize eF c = C at *
  generalize eF a = A at *
  have it : gTuple (.l [.p X, .p Y]) = some (.p (.tuple [X, Y])) := rfl
  simp [φ_middle, fnOfBody_ap, forGo_cons, s0, s1, it]
def post1 (fs : List (Int × Int)) : (Int × Int) × (Int × Int) := (low (xsL fs + xsR fs) 2, low (ysL fs + ysR fs) 2)
def pA (fs : List (Int × Int)) : (Int × Int) × (Int × Int) := mid (bc fs) (bd fs) (bs2 fs)
def pB (fs : List (Int × Int)) : (Int × Int) × (Int × Int) := mid (bd fs) (bc fs) (bs2 fs)
def ltQ (q r : (Int × Int) × (Int × Int)) : Bool := below q.1 r.1 || (decide (q.1 = r.1) && below q.2 r.2)
def postsS (fs : List (Int × Int)) (many : Int) : List ((Int × Int) × (Int × Int)) := if fs = [] then [] else if many = 1 then [post1 fs] else if pA fs = pB fs then [pA fs] else if ltQ (pB fs) (pA fs) then [pB fs, pA fs] else [pA fs, pB fs]
theorem eF_inj {f g : Int × Int} (h : eF f = eF g) : f = g := by
  unfold eF at h
  cases f; cases g
  simp at h
  rw [h.1, h.2]
theorem eP_inj {f g : (Int × Int) × (Int × Int)} (h : eP f = eP g) : f = g := by
  unfold eP at h
  cases f; cases g
  simp at h
  rw [eF_inj h.1, eF_inj h.2]
theorem nm_eP (q : (Int × Int) × (Int × Int)) : nm 2 (eP q) = true := by simp [eP, eF, nm, nms]
theorem nms_eP (l : List ((Int × Int) × (Int × Int))) : nms 2 (l.map eP) = true := nms_iff.2 fun d hd => by
  obtain ⟨f, _, rfl⟩ := List.mem_map.1 hd
  exact nm_eP f
theorem gEq_eF (f g : Int × Int) : gEq (.p (eF f)) (.p (eF g)) = some (.p (.bool (decide (f = g)))) := by
  by_cases e : f = g
  · subst e; rw [decide_eq_true rfl]; exact gEq_yes 1 rfl rfl (nm_eF f)
  · rw [decide_eq_false e]; exact gEq_not 1 1 rfl rfl (nm_eF f) (nm_eF g) fun z => e (eF_inj z)
theorem gNe_eF (f g : Int × Int) : gNe (.p (eF f)) (.p (eF g)) = some (.p (.bool (!decide (f = g)))) := by
  by_cases e : f = g
  · subst e; rw [decide_eq_true rfl]; exact gNe_no 1 rfl rfl (nm_eF f)
  · rw [decide_eq_false e]; exact gNe_ne 1 1 rfl rfl (nm_eF f) (nm_eF g) fun z => e (eF_inj z)
theorem gEq_eP (f g : (Int × Int) × (Int × Int)) : gEq (.p (eP f)) (.p (eP g)) = some (.p (.bool (decide (f = g)))) := by
  by_cases e : f = g
  · subst e; rw [decide_eq_true rfl]; exact gEq_yes 2 rfl rfl (nm_eP f)
  · rw [decide_eq_false e]; exact gEq_not 2 2 rfl rfl (nm_eP f) (nm_eP g) fun z => e (eP_inj z)
theorem gIx_eP0 (q : (Int × Int) × (Int × Int)) : gIx (.p (eP q)) (.p (.int 0)) = some (.p (eF q.1)) := rfl
theorem gIx_eP1 (q : (Int × Int) × (Int × Int)) : gIx (.p (eP q)) (.p (.int 1)) = some (.p (eF q.2)) := rfl
/-! bounds -/
theorem half_fr {a : Int} (h1 : -1000000000000000000000000000 < a) (h2 : a < 1000000000000000000000000000) : Fr 120 (low a 2) := low_fr (by decide) (Bd.of_le 1000000000000000000000000000 h1 h2 (by decide)) (Bd.of_le 16 (by decide) (by decide) (by decide))
theorem V_half (a : Int) : 2 * V (low a 2) = (a : Rat) := by
  have h := V_low (a := a) (b := 2) (by decide)
  have : V (low a 2) * ((2 : Int) : Rat) = (a : Rat) := by rw [h]; exact Rat.div_mul_cancel (by decide)
  have t : ((2 : Int) : Rat) = 2 := rfl
  rw [t] at this; grind
section
variable {fs : List (Int × Int)} (hs : ∀ f ∈ fs, PlS f) (ne : fs ≠ [])
include hs ne
theorem ends_bd : (-10000000000000000000 ≤ xsL fs ∧ xsL fs ≤ xsR fs ∧ xsR fs ≤ 10000000000000000000) ∧ (-10000000000000000000 ≤ ysL fs ∧ ysL fs ≤ ysR fs ∧ ysR fs ≤ 10000000000000000000) := by
  obtain ⟨l, hl, el⟩ := List.mem_map.1 (mn_mem (n1 ne))
  obtain ⟨r, hr, er⟩ := List.mem_map.1 (mx_mem (n1 ne))
  obtain ⟨d, hd, ed⟩ := List.mem_map.1 (mn_mem (n2 ne))
  obtain ⟨u, hu, eu⟩ := List.mem_map.1 (mx_mem (n2 ne))
  replace el : l.1 = xsL fs := el
  replace er : r.1 = xsR fs := er
  replace ed : d.2 = ysL fs := ed
  replace eu : u.2 = ysR fs := eu
  have a := in_box ne hl
  have := (hs l hl).x0
  have := (hs r hr).x1
  have := (hs d hd).y0
  have := (hs u hu).y1
  omega
theorem side2_bd : 0 ≤ bs2 fs ∧ bs2 fs ≤ 20000000000000000000 := ⟨two_nn ne, Int.le_trans (two_le ne) (side_bd ne hs).2⟩
theorem corner_of : ((bc fs).1 = xsL fs ∧ (bd fs).1 = xsR fs) ∧ (((bc fs).2 = ysL fs ∧ (bd fs).2 = ysR fs) ∨ ((bc fs).2 = ysR fs ∧ (bd fs).2 = ysL fs)) := by
  unfold bc bd
  split
  · exact ⟨⟨rfl, rfl⟩, .inr ⟨rfl, rfl⟩⟩
  · exact ⟨⟨rfl, rfl⟩, .inl ⟨rfl, rfl⟩⟩
theorem mid_sp : Sp (pA fs) ∧ Sp (pB fs) := by
  obtain ⟨⟨a1, a2, a3⟩, a4, a5, a6⟩ := ends_bd hs ne
  obtain ⟨b1, b2⟩ := side2_bd hs ne
  obtain ⟨⟨c1, c2⟩, c3⟩ := corner_of hs ne
  have t : ∀ c a : Int, tn c a = 1 ∨ tn c a = -1 := fun c a => by unfold tn; split; exact .inr rfl; exact .inl rfl
  have h : ∀ c a : Int, -10000000000000000000 ≤ c → c ≤ 10000000000000000000 → Fr 120 (low (2 * c + tn c a * bs2 fs) 2) := fun c a h1 h2 => by
    rcases t c a with e | e <;> rw [e] <;> exact half_fr (by omega) (by omega)
  unfold pA pB mid
  refine ⟨⟨h _ _ (by omega) (by omega), h _ _ (by omega) (by omega)⟩, ⟨h _ _ (by omega) (by omega), h _ _ (by omega) (by omega)⟩⟩
theorem post1_sp : Sp (post1 fs) := by
  obtain ⟨⟨a1, a2, a3⟩, a4, a5, a6⟩ := ends_bd hs ne
  exact ⟨half_fr (by omega) (by omega), half_fr (by omega) (by omega)⟩
theorem posts_sp (many : Int) : ∀ q ∈ postsS fs many, Sp q := fun q hq => by
  have m := mid_sp hs ne
  unfold postsS at hq
  rw [if_neg ne] at hq
  split at hq
  · rw [List.mem_singleton.1 hq]; exact post1_sp hs ne
  · split at hq
    · rw [List.mem_singleton.1 hq]; exact m.1
    · split at hq
      · rcases List.mem_cons.1 hq with rfl | hq
        · exact m.2
        · rw [List.mem_singleton.1 hq]; exact m.1
      · rcases List.mem_cons.1 hq with rfl | hq
        · exact m.1
        · rw [List.mem_singleton.1 hq]; exact m.2
theorem posts_ne (many : Int) : postsS fs many ≠ [] := by
  unfold postsS
  rw [if_neg ne]
  repeat' split
  all_goals simp
/-- one axis: near a corner is near the middle -/
theorem mid_near {c a p s : Int} (h1 : p - c ≤ s) (h2 : c - p ≤ s) (h3 : (a < c → p ≤ c) ∧ (c < a → c ≤ p) ∧ (a = c → p = c)) : (p : Rat) - V (low (2 * c + tn c a * s) 2) ≤ V (low s 2) ∧ V (low (2 * c + tn c a * s) 2) - (p : Rat) ≤ V (low s 2) := by
  have v1 := V_half (2 * c + tn c a * s)
  have v2 := V_half s
  rw [Rat.intCast_add, Rat.intCast_mul, Rat.intCast_mul] at v1
  have t : ((2 : Int) : Rat) = 2 := rfl
  rw [t] at v1
  have k : (2 * p - 2 * c - tn c a * s ≤ s) ∧ (2 * c + tn c a * s - 2 * p ≤ s) := by
    unfold tn
    split
    · rename_i q
      have := h3.1 q
      omega
    · rename_i q
      rcases Int.lt_or_eq_of_le (show c ≤ a by omega) with q | q
      · have := h3.2.1 q; omega
      · have := h3.2.2 q.symm; omega
  have k1 : ((2 * p - 2 * c - tn c a * s : Int) : Rat) ≤ (s : Rat) := by exact_mod_cast k.1
  have k2 : ((2 * c + tn c a * s - 2 * p : Int) : Rat) ≤ (s : Rat) := by exact_mod_cast k.2
  rw [Rat.intCast_sub, Rat.intCast_sub, Rat.intCast_mul, Rat.intCast_mul, Rat.intCast_mul, t] at k1
  rw [Rat.intCast_sub, Rat.intCast_add, Rat.intCast_mul, Rat.intCast_mul, Rat.intCast_mul, t] at k2
  constructor <;> grind
theorem near_mid {c a p : Int × Int} (hp : p ∈ fs) (hca : ((c.1 = xsL fs ∧ a.1 = xsR fs) ∨ (c.1 = xsR fs ∧ a.1 = xsL fs)) ∧ ((c.2 = ysL fs ∧ a.2 = ysR fs) ∨ (c.2 = ysR fs ∧ a.2 = ysL fs))) (h : sf p c ≤ bs2 fs) (hq : Sp (mid c a (bs2 fs))) :
    V (waySq p (mid c a (bs2 fs))) ≤ V (low (bs2 fs) 2) := by
  have b := in_box ne hp
  obtain ⟨x, y⟩ := big_le.1 h
  obtain ⟨x1, x2⟩ := absI_le.1 x
  obtain ⟨y1, y2⟩ := absI_le.1 y
  refine (way_le (hs p hp).pl hq).2 ⟨mid_near hs ne (by omega) (by omega) ?_, mid_near hs ne (by omega) (by omega) ?_⟩
  · rcases hca.1 with ⟨e1, e2⟩ | ⟨e1, e2⟩ <;> rw [e1, e2] <;> omega
  · rcases hca.2 with ⟨e1, e2⟩ | ⟨e1, e2⟩ <;> rw [e1, e2] <;> omega
theorem posts_reach {many : Int} : reachS fs (postsS fs many) = low (leastS fs many) 2 := by
  have hf : ∀ p ∈ fs, Pl p := fun p h => (hs p h).pl
  have sp := posts_sp hs ne many
  have np := posts_ne hs ne many
  have fr := reachS_fr hf sp
  have lf := leastS_fr ne hs many
  refine fr_V fr lf ?_
  have l0 : 0 ≤ V (low (leastS fs many) 2) := by
    have := V_half (leastS fs many)
    have n := (least_bd ne hs many).1
    have : (0 : Rat) ≤ (leastS fs many : Rat) := by exact_mod_cast n
    grind
  have v2 := V_half (leastS fs many)
  by_cases e1 : many = 1
  · have ep : postsS fs many = [post1 fs] := by unfold postsS; rw [if_neg ne, if_pos e1]
    have es : leastS fs many = side1 fs := by unfold leastS; rw [if_pos e1]
    have ge := one_reach hf sp ne ep
    rw [← es] at ge
    have le : V (reachS fs (postsS fs many)) ≤ V (low (leastS fs many) 2) := (reachS_le hf sp np).2 ⟨l0, fun p hp => by
      refine ⟨post1 fs, by rw [ep]; simp, (way_le (hf p hp) (post1_sp hs ne)).2 ?_⟩
      have b := in_box ne hp
      have w1 := V_half (xsL fs + xsR fs)
      have w2 := V_half (ysL fs + ysR fs)
      have s1 : xsR fs - xsL fs ≤ side1 fs := le_big.2 (.inl (Int.le_refl _))
      have s2 : ysR fs - ysL fs ≤ side1 fs := le_big.2 (.inr (Int.le_refl _))
      rw [← es] at s1 s2
      have k1 : ((2 * p.1 : Int) : Rat) ≤ ((xsL fs + xsR fs + leastS fs many : Int) : Rat) := by exact_mod_cast (by omega)
      have k2 : ((xsL fs + xsR fs : Int) : Rat) ≤ ((2 * p.1 + leastS fs many : Int) : Rat) := by exact_mod_cast (by omega)
      have k3 : ((2 * p.2 : Int) : Rat) ≤ ((ysL fs + ysR fs + leastS fs many : Int) : Rat) := by exact_mod_cast (by omega)
      have k4 : ((ysL fs + ysR fs : Int) : Rat) ≤ ((2 * p.2 + leastS fs many : Int) : Rat) := by exact_mod_cast (by omega)
      have t : ((2 : Int) : Rat) = 2 := rfl
      rw [Rat.intCast_mul, Rat.intCast_add _ (leastS fs many), t] at k1
      rw [Rat.intCast_add _ (leastS fs many), Rat.intCast_mul, t] at k2
      rw [Rat.intCast_mul, Rat.intCast_add _ (leastS fs many), t] at k3
      rw [Rat.intCast_add _ (leastS fs many), Rat.intCast_mul, t] at k4
      unfold post1
      simp only
      refine ⟨⟨?_, ?_⟩, ?_, ?_⟩ <;> grind⟩
    grind
  · have es : leastS fs many = bs2 fs := by unfold leastS; rw [if_neg e1]
    have m := mid_sp hs ne
    have e12 : ∀ q ∈ postsS fs many, q = pA fs ∨ q = pB fs := fun q hq => by
      unfold postsS at hq
      rw [if_neg ne, if_neg e1] at hq
      split at hq
      · exact .inl (List.mem_singleton.1 hq)
      · split at hq <;> simp at hq <;> rcases hq with h | h <;> simp [h]
    have ge := two_reach hf sp ne np e12 m.1 m.2
    rw [← es] at ge
    have inA : pA fs ∈ postsS fs many := by unfold postsS; rw [if_neg ne, if_neg e1]; repeat' split
                                            all_goals simp
    have inB : pB fs ∈ postsS fs many := by
      unfold postsS; rw [if_neg ne, if_neg e1]
      split
      · rename_i q; rw [q]; simp
      · split <;> simp
    have le : V (reachS fs (postsS fs many)) ≤ V (low (leastS fs many) 2) := (reachS_le hf sp np).2 ⟨l0, fun p hp => by
      rw [es]
      obtain ⟨⟨c1, c2⟩, c3⟩ := corner_of hs ne
      have near : sf p (bc fs) ≤ bs2 fs ∨ sf p (bd fs) ≤ bs2 fs := by
        have go : ∀ a b : Int × Int, sf p a ≤ sd fs a b ∨ sf p b ≤ sd fs a b := fun a b => by
          have := le_mx (List.mem_map_of_mem (f := fun p => mn [sf p a, sf p b]) hp)
          rw [mn2] at this
          exact lil_le.1 this
        unfold bc bd bs2
        split
        · exact go _ _
        · exact go _ _
      rcases near with h | h
      · exact ⟨pA fs, inA, near_mid hs ne hp ⟨.inl ⟨c1, c2⟩, c3⟩ h m.1⟩
      · exact ⟨pB fs, inB, near_mid hs ne hp ⟨.inr ⟨c2, c1⟩, c3.elim (fun z => .inr ⟨z.2, z.1⟩) fun z => .inl ⟨z.2, z.1⟩⟩ h m.2⟩⟩
    grind
end
section
variable {fs : List (Int × Int)} (hs : ∀ f ∈ fs, PlS f) {x : OD} (hx : IsL x (fs.map eF)) (hl : fs.length < 20) {many : Int} (h1 : 1 ≤ many) (h2 : many ≤ 2)
include hs hx hl h1 h2
theorem square_posts_ok : φ_square_posts [x, pI many] = .ok (.l (((postsS fs many).map eP).map .p)) [x, pI many] := by
  have lk_ := look_two_ok h1 h2
  have len := hx.len
  rw [List.length_map] at len
  by_cases ne : fs = []
  · subst ne
    rcases hx with rfl | rfl <;> simp [φ_square_posts, fnOfBody_ap, lk_, postsS]
  have n0 : ¬ (fs.length : Int) = 0 := by have := List.length_pos_iff.2 ne; omega
  have co := corners_ok hx ne (by omega)
  have bt := best_two_ok hx ne (by omega)
  have fz : frz (corL fs) = some (.list [.list [eF (c00 fs), eF (c11 fs)], .list [eF (c01 fs), eF (c10 fs)]]) := by simp [corL]
  have g0 : gIx (.p (.list [.list [eF (c00 fs), eF (c11 fs)], .list [eF (c01 fs), eF (c10 fs)]])) (.p (.int 0)) = some (.p (.list [eF (c00 fs), eF (c11 fs)])) := rfl
  by_cases e1 : many = 1
  · subst e1
    have lo := fun a => lowest_ok (a := a) (b := 2) (by decide) (Bd.of_le 16 (by decide) (by decide) (by decide))
    have l1 := lo (xsL fs + xsR fs)
    have l2 := lo (ysL fs + ysR fs)
    have i0 := gIx_eF0 (c11 fs)
    have i1 := gIx_eF1 (c11 fs)
    have j0 := gIx_eF0 (c00 fs)
    have j1 := gIx_eF1 (c00 fs)
    rw [show (c11 fs).1 = xsR fs from rfl] at i0
    rw [show (c11 fs).2 = ysR fs from rfl] at i1
    rw [show (c00 fs).1 = xsL fs from rfl] at j0
    rw [show (c00 fs).2 = ysL fs from rfl] at j1
    have ep : (postsS fs 1).map eP = [.tuple [eF (low (xsL fs + xsR fs) 2), eF (low (ysL fs + ysR fs) 2)]] := by unfold postsS; rw [if_neg ne, if_pos rfl]; rfl
    rw [ep]
    clear bt lo
    generalize eF (low (xsL fs + xsR fs) 2) = S1 at *
    generalize eF (low (ysL fs + ysR fs) 2) = S2 at *
    generalize corL fs = CL at *
    generalize eF (c00 fs) = A at *
    generalize eF (c11 fs) = B at *
    generalize eF (c01 fs) = C at *
    generalize eF (c10 fs) = D at *
    generalize xsR fs = RR at *
    generalize xsL fs = LL at *
    generalize ysR fs = HH at *
    generalize ysL fs = KK at *
    generalize (fs.length : Int) = N at *
    rcases hx with rfl | rfl <;> generalize fs.map eF = F at * <;> simp [φ_square_posts, fnOfBody_ap, lk_, len, n0, co, fz, g0, i0, i1, j0, j1, l1, l2, -List.map_map, -gIx_list, -gLen_l, -gLen_list]
  · have m1 := middle_ok (bc fs) (bd fs) (bs2 fs)
    have m2 := middle_ok (bd fs) (bc fs) (bs2 fs)
    rw [show mid (bc fs) (bd fs) (bs2 fs) = pA fs from rfl] at m1
    rw [show mid (bd fs) (bc fs) (bs2 fs) = pB fs from rfl] at m2
    have sp := mid_sp hs ne
    have q1 := gEq_eP (pA fs) (pB fs)
    have q2 := gEq_eF (pB fs).1 (pA fs).1
    have b1 := below_ok sp.2.f1 sp.1.f1 (by decide)
    have b2 := below_ok sp.2.f2 sp.1.f2 (by decide)
    have iA0 := gIx_eP0 (pA fs)
    have iA1 := gIx_eP1 (pA fs)
    have iB0 := gIx_eP0 (pB fs)
    have iB1 := gIx_eP1 (pB fs)
    have k0 : gIx (.p (.list [eF (bc fs), eF (bd fs)])) (.p (.int 0)) = some (.p (eF (bc fs))) := rfl
    have k1 : gIx (.p (.list [eF (bc fs), eF (bd fs)])) (.p (.int 1)) = some (.p (eF (bd fs))) := rfl
    have ep : (postsS fs many).map eP = if pA fs = pB fs then [eP (pA fs)] else if below (pB fs).1 (pA fs).1 || (decide ((pB fs).1 = (pA fs).1) && below (pB fs).2 (pA fs).2) then [eP (pB fs), eP (pA fs)] else [eP (pA fs), eP (pB fs)] := by
      unfold postsS ltQ; rw [if_neg ne, if_neg e1]
      split
      · rfl
      · split <;> rfl
    rw [ep]
    clear ep sp
    have pr : prts (.p (.tuple [.list [eF (bc fs), eF (bd fs)], .int (bs2 fs)])) = some [.p (.list [eF (bc fs), eF (bd fs)]), pI (bs2 fs)] := rfl
    generalize below (pB fs).1 (pA fs).1 = B1 at *
    generalize below (pB fs).2 (pA fs).2 = B2 at *
    generalize hD2 : decide ((pB fs).1 = (pA fs).1) = D2 at *
    by_cases e : pA fs = pB fs
    · rw [if_pos e]
      rw [decide_eq_true e] at q1
      generalize eP (pA fs) = PA at *
      generalize eP (pB fs) = PB at *
      generalize corL fs = CL at *
      generalize eF (c00 fs) = A at *
      generalize eF (c11 fs) = B at *
      generalize eF (c01 fs) = C at *
      generalize eF (c10 fs) = D at *
      generalize eF (bc fs) = BC at *
      generalize eF (bd fs) = BD at *
      generalize bs2 fs = S at *
      generalize (fs.length : Int) = N at *
      rcases hx with rfl | rfl <;> generalize fs.map eF = F at * <;> simp [φ_square_posts, fnOfBody_ap, lk_, len, n0, e1, co, fz, g0, bt, k0, k1, m1, m2, q1, -List.map_map, -gIx_list, -gLen_l, -gLen_list]
    · rw [if_neg e]
      rw [decide_eq_false e] at q1
      generalize eP (pA fs) = PA at *
      generalize eP (pB fs) = PB at *
      generalize eF (pA fs).1 = X1 at *
      generalize eF (pA fs).2 = X2 at *
      generalize eF (pB fs).1 = Y1 at *
      generalize eF (pB fs).2 = Y2 at *
      generalize corL fs = CL at *
      generalize eF (c00 fs) = A at *
      generalize eF (c11 fs) = B at *
      generalize eF (c01 fs) = C at *
      generalize eF (c10 fs) = D at *
      generalize eF (bc fs) = BC at *
      generalize eF (bd fs) = BD at *
      generalize bs2 fs = S at *
      generalize (fs.length : Int) = N at *
      cases B1 <;> cases D2 <;> cases B2 <;> rcases hx with rfl | rfl <;> generalize fs.map eF = F at * <;> simp [φ_square_posts, fnOfBody_ap, lk_, len, n0, e1, co, fz, g0, bt, k0, k1, m1, m2, q1, q2, b1, b2, iA0, iA1, iB0, iB1, -List.map_map, -gIx_list, -gLen_l, -gLen_list]
end
theorem law_fraction_ok {n : Nat} {f : Int × Int} (h : Fr n f) : φ_law_fraction [.p (eF f)] = .ok (.p (.bool true)) [.p (eF f)] := by
  have h1 := law_shared_ok f.1 f.2 (by have := h.pos; omega)
  have h2 := h.pos
  rw [h.one] at h1
  simp [φ_law_fraction, fnOfBody_ap, eF, atI, ixN, lcGo_cons, law_fraction_p1, h1, h2, hol, clr]
/-! ### walks that may end by a return -/
theorem forGo_exit {g : Tg} {f : Env' → Out} {d : OD} {Good : Env' → Prop} {e : Env'} : ∀ (l : List PyData) (p : Nat → Prop),
    (∀ i (hi : i < l.length), (∀ j, j < i → p j) → ∃ e1, g (.p l[i]) e = some e1 ∧ ((p i ∧ f e1 = .nx e) ∨ (¬ p i ∧ ∃ e2, f e1 = .rt d e2 ∧ Good e2))) →
    ((∀ i, i < l.length → p i) ∧ forGo g f l e = .nx e) ∨ ((¬ ∀ i, i < l.length → p i) ∧ ∃ e2, forGo g f l e = .rt d e2 ∧ Good e2)
  | [], p, _ => .inl ⟨fun i hi => absurd hi (Nat.not_lt_zero i), rfl⟩
  | a :: l, p, h => by
    obtain ⟨e1, h1, h2⟩ := h 0 (by simp) (fun j hj => absurd hj (Nat.not_lt_zero j))
    rw [show (a :: l)[0] = a from rfl] at h1
    rw [forGo_cons, h1]
    dsimp only
    rcases h2 with ⟨p0, h2⟩ | ⟨p0, e2, h2, h3⟩
    · rw [h2]
      show _ ∧ forGo g f l e = _ ∨ _ ∧ ∃ e2, forGo g f l e = _ ∧ _
      rcases forGo_exit l (fun i => p (i + 1)) (fun i hi hp => h (i + 1) (by simp; omega) fun j hj => by
        cases j with
        | zero => exact p0
        | succ j => exact hp j (by omega)) with ⟨q1, q2⟩ | ⟨q1, q2⟩
      · exact .inl ⟨fun i hi => by
          cases i with
          | zero => exact p0
          | succ i => exact q1 i (by simp at hi; omega), q2⟩
      · exact .inr ⟨fun z => q1 fun i hi => z (i + 1) (by simp; omega), q2⟩
    · rw [h2]
      exact .inr ⟨fun z => p0 (z 0 (by simp)), e2, rfl, h3⟩
theorem forGoA_exit {ii : Nat} {x : OD} {g : Tg} {f : Env' → Out} {d : OD} {Good : Env' → Prop} {e : Env'} (hk : lk e ii = some x) : ∀ (l : List PyData) (p : Nat → Prop),
    (∀ i (hi : i < l.length), (∀ j, j < i → p j) → ∃ e1, g (.p l[i]) e = some e1 ∧ ((p i ∧ f e1 = .nx e) ∨ (¬ p i ∧ ∃ e2, f e1 = .rt d e2 ∧ Good e2))) →
    ((∀ i, i < l.length → p i) ∧ forGoA ii x g f l e = .nx e) ∨ ((¬ ∀ i, i < l.length → p i) ∧ ∃ e2, forGoA ii x g f l e = .rt d e2 ∧ Good e2)
  | [], p, _ => .inl ⟨fun i hi => absurd hi (Nat.not_lt_zero i), forGoA_nil hk⟩
  | a :: l, p, h => by
    obtain ⟨e1, h1, h2⟩ := h 0 (by simp) (fun j hj => absurd hj (Nat.not_lt_zero j))
    rw [show (a :: l)[0] = a from rfl] at h1
    rw [forGoA_cons hk, h1]
    dsimp only
    rcases h2 with ⟨p0, h2⟩ | ⟨p0, e2, h2, h3⟩
    · rw [h2]
      show _ ∧ forGoA ii x g f l e = _ ∨ _ ∧ ∃ e2, forGoA ii x g f l e = _ ∧ _
      rcases forGoA_exit hk l (fun i => p (i + 1)) (fun i hi hp => h (i + 1) (by simp; omega) fun j hj => by
        cases j with
        | zero => exact p0
        | succ j => exact hp j (by omega)) with ⟨q1, q2⟩ | ⟨q1, q2⟩
      · exact .inl ⟨fun i hi => by
          cases i with
          | zero => exact p0
          | succ i => exact q1 i (by simp at hi; omega), q2⟩
      · exact .inr ⟨fun z => q1 fun i hi => z (i + 1) (by simp; omega), q2⟩
    · rw [h2]
      exact .inr ⟨fun z => p0 (z 0 (by simp)), e2, rfl, h3⟩
theorem seq_to {f g : Env' → Out} {e e' : Env'} {o : Out} (h : f e = .nx e') (k : g e' = o) : sSeq f g e = o := by rw [sSeq_ap, h]; exact k
theorem seq_rt {f g : Env' → Out} {e e' : Env'} {d : OD} (h : f e = .rt d e') : sSeq f g e = .rt d e' := by rw [sSeq_ap, h]; rfl
theorem gNe_bb (D : Bool) : gNe (.p (.bool D)) (.p (.bool D)) = some (.p (.bool false)) := by
  have h : SeqAt.shaped (.bool D) = true := by cases D <;> decide +kernel
  have e : PyData.eqv (.bool D) (.bool D) = true := by cases D <;> decide +kernel
  unfold gNe
  simp only [vw_p]
  rw [if_pos ⟨h, h⟩, e]; rfl
theorem ltQ_or {q r : (Int × Int) × (Int × Int)} (hq : Sp q) (hr : Sp r) (ne : q ≠ r) (h : ltQ r q = false) : ltQ q r = true := by
  unfold ltQ at h ⊢
  rw [Bool.or_eq_false_iff] at h
  have a := (not_below hr.f1.pos hq.f1.pos).1 h.1
  by_cases e : q.1 = r.1
  · have b : below r.2 q.2 = false := by
      have := h.2
      rw [decide_eq_true e.symm, Bool.true_and] at this
      exact this
    have b := (not_below hr.f2.pos hq.f2.pos).1 b
    have n : V q.2 ≠ V r.2 := fun z => ne (by
      have := fr_V hq.f2 hr.f2 z
      cases q; cases r
      simp at e this
      rw [e, this])
    have c : below q.2 r.2 = true := (below_iff hq.f2.pos hr.f2.pos).2 (by grind)
    rw [c, decide_eq_true e]; simp
  · have n : V q.1 ≠ V r.1 := fun z => e (fr_V hq.f1 hr.f1 z)
    have c : below q.1 r.1 = true := (below_iff hq.f1.pos hr.f1.pos).2 (by grind)
    rw [c]; simp
abbrev pL (ps : List ((Int × Int) × (Int × Int))) : OD := .l ((ps.map eP).map .p)
theorem pL_is (ps : List ((Int × Int) × (Int × Int))) : IsL (pL ps) (ps.map eP) := .inr rfl
abbrev fL (fs : List (Int × Int)) : OD := .l ((fs.map eF).map .p)
theorem fL_is (fs : List (Int × Int)) : IsL (fL fs) (fs.map eF) := .inr rfl
section
variable {fs : List (Int × Int)} (hs : ∀ f ∈ fs, PlS f) (hl : fs.length < 20) {many : Int} (h1 : 1 ≤ many) (h2 : many ≤ 2)
theorem postsS_ordered (hs : ∀ f ∈ fs, PlS f) : (postsS fs many = [] ∧ fs = []) ∨ (∃ q, postsS fs many = [q] ∧ fs ≠ []) ∨ ∃ q r, postsS fs many = [q, r] ∧ ltQ q r = true ∧ fs ≠ [] ∧ many ≠ 1 := by
  unfold postsS
  by_cases ne : fs = []
  · rw [if_pos ne]; exact .inl ⟨rfl, ne⟩
  · have m := mid_sp hs ne
    rw [if_neg ne]
    split
    · exact .inr (.inl ⟨_, rfl, ne⟩)
    · split
      · exact .inr (.inl ⟨_, rfl, ne⟩)
      · split
        · rename_i a b c
          exact .inr (.inr ⟨_, _, rfl, c, ne, a⟩)
        · rename_i a b c
          exact .inr (.inr ⟨_, _, rfl, ltQ_or m.1 m.2 b (by simpa using c), ne, a⟩)
include hs hl h1 h2
theorem law_posts_ok : φ_law_posts [fL fs, pL (postsS fs many), pI many, .p (eF (if fs = [] then (0, 1) else low (leastS fs many) 2))] = .ok (.p (.bool true)) [fL fs, pL (postsS fs many), pI many, .p (eF (if fs = [] then (0, 1) else low (leastS fs many) 2))] := by
  generalize hdue : (if fs = [] then ((0, 1) : Int × Int) else low (leastS fs many) 2) = due
  have hf : ∀ p ∈ fs, Pl p := fun p h => (hs p h).pl
  have ord := postsS_ordered (many := many) hs
  have sp : ∀ q ∈ postsS fs many, Sp q := by
    by_cases ne : fs = []
    · unfold postsS; rw [if_pos ne]; simp
    · exact posts_sp hs ne many
  have ef := (fL_is fs).eq0 1 (nms_eF fs)
  have ep := (pL_is (postsS fs many)).eq0 2 (nms_eP _)
  have e01 : decide ((postsS fs many).map eP = []) = decide (fs.map eF = []) := by
    rcases ord with ⟨a, b⟩ | ⟨q, a, b⟩ | ⟨q, r, a, _, b, _⟩ <;> rw [a] <;> simp [b]
  rw [e01] at ep
  have bb := gNe_bb (decide (fs.map eF = []))
  have il := (pL_is (postsS fs many)).isList
  have lenp : gLen (pL (postsS fs many)) = some (.p (.int (postsS fs many).length)) := by rw [gLen_l, List.length_map, List.length_map]
  have lm : ¬ many < ((postsS fs many).length : Int) := by
    rcases ord with ⟨a, b⟩ | ⟨q, a, b⟩ | ⟨q, r, a, _, b, c⟩ <;> rw [a] <;> simp <;> omega
  have loop := (forGoA_fold (i := 1) (x := pL (postsS fs many)) (g := gNm 4) (f := law_posts_p0) eP (fun _ : Unit => [fL fs, pL (postsS fs many), pI many, .p (eF due), .h, .h, .h, .h]) (fun _ => rfl) (fun u _ => u) (fun _ => True) (postsS fs many) () trivial fun _ q _ hq => by
    refine ⟨trivial, _, rfl, ?_⟩
    have f1 := law_fraction_ok (sp q hq).f1
    have f2 := law_fraction_ok (sp q hq).f2
    have g0 := gIx_eP0 q
    have g1 := gIx_eP1 q
    have it : gIsi "tuple" (.p (eP q)) = some (.p (.bool true)) := rfl
    have ln : gLen (.p (eP q)) = some (.p (.int 2)) := rfl
    generalize eF q.1 = A at *
    generalize eF q.2 = B at *
    generalize eP q = Q at *
    generalize eF due = DU at *
    simp only [fL, pL]
    generalize fs.map eF = F at *
    generalize (postsS fs many).map eP = PP at *
    simp [law_posts_p0, it, ln, g0, g1, f1, f2, -List.map_map]).1
  have run : ∀ e, forGo (gNm 5) law_posts_p1 (rngL 1 ((postsS fs many).length - 1)) [fL fs, pL (postsS fs many), pI many, .p (eF due), .h, .h, .h, .h] = .nx e → e = [fL fs, pL (postsS fs many), pI many, .p (eF due), .h, .h, .h, .h] →
      φ_law_posts [fL fs, pL (postsS fs many), pI many, .p (eF due)] = .ok (.p (.bool true)) [fL fs, pL (postsS fs many), pI many, .p (eF due)] := fun e l2 ee => by
    subst ee
    have w2 := rng2_1 (n := (postsS fs many).length) (by rcases ord with ⟨a, b⟩ | ⟨q, a, b⟩ | ⟨q, r, a, _, b, c⟩ <;> rw [a] <;> simp)
    have it := (pL_is (postsS fs many)).it
    by_cases ne : fs = []
    · have ef' : gEq (fL fs) (.l []) = some (.p (.bool true)) := by rw [ef]; subst ne; rfl
      rw [decide_eq_true (show fs.map eF = [] by subst ne; rfl)] at ep bb
      simp only [fL, pL] at *
      generalize eF due = DU at *
      generalize fs.map eF = F at *
      generalize hN : (postsS fs many).length = N at *
      generalize (postsS fs many).map eP = PP at *
      simp [φ_law_posts, fnOfBody_ap, il, lenp, lm, ep, ef', bb, it, loop, w2, l2, -List.map_map, -gLen_l]
    · have np := posts_ne hs ne many
      have lr := law_square_reach_ok hf sp (fL_is fs) (pL_is (postsS fs many)) np
      rw [posts_reach hs ne] at lr
      rw [if_neg ne] at hdue
      rw [hdue] at lr
      have ef' : gEq (fL fs) (.l []) = some (.p (.bool false)) := by rw [ef, decide_eq_false fun z => ne (List.map_eq_nil_iff.1 z)]
      rw [decide_eq_false (fun z => ne (List.map_eq_nil_iff.1 z))] at ep bb
      have dd : gEq (.p (eF due)) (.p (eF due)) = some (.p (.bool true)) := by rw [gEq_eF, decide_eq_true rfl]
      simp only [fL, pL] at *
      generalize eF due = DU at *
      generalize fs.map eF = F at *
      generalize hN : (postsS fs many).length = N at *
      generalize (postsS fs many).map eP = PP at *
      simp [φ_law_posts, fnOfBody_ap, il, lenp, lm, ep, ef', bb, it, loop, w2, l2, lr, dd, -List.map_map, -gLen_l]
  rcases ord with ⟨a, b⟩ | ⟨q, a, b⟩ | ⟨q, r, a, lt, b, c⟩
  · exact run _ (by rw [a]; rfl) rfl
  · exact run _ (by rw [a]; rfl) rfl
  · refine run [fL fs, pL (postsS fs many), pI many, .p (eF due), .h, .h, .h, .h] ?_ rfl
    have sq := sp q (by rw [a]; simp)
    have sr := sp r (by rw [a]; simp)
    rw [a]
    show forGo (gNm 5) law_posts_p1 [.int (1 + ((0 : Nat) : Int))] _ = _
    have l1 := law_less_ok sq.f1 sr.f1 (by decide)
    have l2 := law_less_ok sq.f2 sr.f2 (by decide)
    have q0 := gIx_eP0 q
    have q1 := gIx_eP1 q
    have r0 := gIx_eP0 r
    have r1 := gIx_eP1 r
    have nq := gNe_eF q.1 r.1
    have i0 : gIx (pL [q, r]) (.p (.int 0)) = some (.p (eP q)) := rfl
    have i1 : gIx (pL [q, r]) (.p (.int 1)) = some (.p (eP r)) := rfl
    have lp : lk [fL fs, pL [q, r], pI many, .p (eF due), .h, pI 1, .h, .h] 1 = some (pL [q, r]) := rfl
    unfold ltQ at lt
    generalize below q.1 r.1 = B1 at *
    generalize below q.2 r.2 = B2 at *
    generalize decide (q.1 = r.1) = D2 at *
    generalize eF q.1 = X1 at *
    generalize eF q.2 = X2 at *
    generalize eF r.1 = Y1 at *
    generalize eF r.2 = Y2 at *
    simp only [pL, List.map_cons, List.map_nil] at *
    generalize eP q = EQ at *
    generalize eP r = ER at *
    generalize eF due = DU at *
    cases B1 <;> cases D2 <;> cases B2 <;> simp at lt <;> simp [forGo_cons, law_posts_p1, i0, i1, q0, q1, r0, r1, l1, l2, nq, -gIx_l]
end
def dueS (fs : List (Int × Int)) (many : Int) : Int × Int := if fs = [] then (0, 1) else low (leastS fs many) 2
theorem lawTwo_nil : lawTwo [] = 0 := by decide +kernel
section
variable {fs : List (Int × Int)} (hs : ∀ f ∈ fs, PlS f) (hl : fs.length < 20) {many : Int} (h1 : 1 ≤ many) (h2 : many ≤ 2) (s : OD)
include hl h1 h2
theorem U0 : law_s0 [s, fL fs, fL fs, pI many, .h, .h, .h] = .nx [s, fL fs, fL fs, pI many, .p (eF (dueS fs many)), .h, .h] := by
  have a := law_side_ok (fL_is fs) (by omega)
  have b := law_two_ok (fL_is fs) hl
  have lo := fun z => law_lowest_ok (a := z) (b := 2) (by decide) (Bd.of_le 16 (by decide) (by decide) (by decide))
  rcases (by omega : many = 1 ∨ many = 2) with rfl | rfl
  · have l1 := lo (side0 fs)
    have e : low (side0 fs) 2 = dueS fs 1 := by
      unfold dueS side0
      by_cases ne : fs = []
      · rw [if_pos ne, if_pos ne]; exact low_0 (by decide)
      · rw [if_neg ne, if_neg ne]; rfl
    rw [e] at l1
    have i0 : ∀ y, gIx (.l [pI (side0 fs), y]) (.p (.int 0)) = some (pI (side0 fs)) := fun _ => rfl
    generalize eF (dueS fs 1) = DU at *
    generalize side0 fs = S0 at *
    simp only [fL] at *
    generalize fs.map eF = F at *
    simp [law_s0, a, b, i0, l1, -List.map_map, -gIx_l]
  · have l1 := lo (lawTwo fs)
    have e : low (lawTwo fs) 2 = dueS fs 2 := by
      unfold dueS
      by_cases ne : fs = []
      · rw [if_pos ne]; subst ne; rw [lawTwo_nil]; exact low_0 (by decide)
      · rw [if_neg ne, lawTwo_ok ne]; rfl
    rw [e] at l1
    have i0 : ∀ y z, gIx (.l [y, pI z]) (.p (.int 1)) = some (pI z) := fun _ _ => rfl
    generalize eF (dueS fs 2) = DU at *
    generalize side0 fs = S0 at *
    generalize lawTwo fs = S1 at *
    simp only [fL] at *
    generalize fs.map eF = F at *
    simp [law_s0, a, b, i0, l1, -List.map_map, -gIx_l]
theorem U1 : law_s1 [s, fL fs, fL fs, pI many, .p (eF (dueS fs many)), .h, .h] = .nx [s, fL fs, fL fs, pI many, .p (eF (dueS fs many)), .p (eF (dueS fs many)), .h] := by
  have a : φ_square_least [fL fs, pI many] = .ok (.p (eF (dueS fs many))) [fL fs, pI many] := by
    unfold dueS
    by_cases ne : fs = []
    · rw [if_pos ne]; exact square_least_none (fL_is fs) (by omega) h1 h2 ne
    · rw [if_neg ne]; exact square_least_ok (fL_is fs) (by omega) h1 h2 ne
  generalize eF (dueS fs many) = DU at *
  simp only [fL] at *
  generalize fs.map eF = F at *
  simp [law_s1, a, -List.map_map]
include hs
theorem U2 : law_s2 [s, fL fs, fL fs, pI many, .p (eF (dueS fs many)), .p (eF (dueS fs many)), .h] = .nx [s, fL fs, fL fs, pI many, .p (eF (dueS fs many)), .p (eF (dueS fs many)), .h] := by
  have fr : Fr 120 (dueS fs many) := by
    unfold dueS; split
    · exact fr0 (by decide)
    · rename_i ne; exact leastS_fr ne hs many
  have lf := law_fraction_ok fr
  have nq := gNe_eF (dueS fs many) (dueS fs many)
  rw [decide_eq_true rfl] at nq
  generalize eF (dueS fs many) = DU at *
  simp [law_s2, lf, nq, -List.map_map]
theorem U3 : law_s3 [s, fL fs, fL fs, pI many, .p (eF (dueS fs many)), .p (eF (dueS fs many)), .h] = .nx [s, fL fs, fL fs, pI many, .p (eF (dueS fs many)), .p (eF (dueS fs many)), pL (postsS fs many)] := by
  have a := square_posts_ok hs (fL_is fs) hl h1 h2
  generalize eF (dueS fs many) = DU at *
  simp only [fL, pL] at *
  generalize fs.map eF = F at *
  generalize (postsS fs many).map eP = P at *
  simp [law_s3, a, -List.map_map]
theorem U4 : law_s4 [s, fL fs, fL fs, pI many, .p (eF (dueS fs many)), .p (eF (dueS fs many)), pL (postsS fs many)] = .nx [s, fL fs, fL fs, pI many, .p (eF (dueS fs many)), .p (eF (dueS fs many)), pL (postsS fs many)] := by
  have a := law_posts_ok hs hl h1 h2
  rw [show (if fs = [] then ((0, 1) : Int × Int) else low (leastS fs many) 2) = dueS fs many from rfl] at a
  generalize eF (dueS fs many) = DU at *
  simp only [fL, pL] at *
  generalize fs.map eF = F at *
  generalize (postsS fs many).map eP = P at *
  simp [law_s4, a, -List.map_map]
theorem U5 : law_s5 [s, fL fs, fL fs, pI many, .p (eF (dueS fs many)), .p (eF (dueS fs many)), pL (postsS fs many)] = .nx [s, fL fs, fL fs, pI many, .p (eF (dueS fs many)), .p (eF (dueS fs many)), .l []] := by
  generalize eF (dueS fs many) = DU at *
  simp only [fL, pL] at *
  generalize fs.map eF = F at *
  generalize (postsS fs many).map eP = P at *
  simp [law_s5, -List.map_map]
theorem U6 : law_s6 [s, fL fs, fL fs, pI many, .p (eF (dueS fs many)), .p (eF (dueS fs many)), .l []] = .nx [s, fL fs, fL fs, pI many, .p (eF (dueS fs many)), .p (eF (dueS fs many)), .l []] := by
  have a := law_posts_ok hs hl h1 h2
  have b := square_posts_ok hs (fL_is fs) hl h1 h2
  rw [show (if fs = [] then ((0, 1) : Int × Int) else low (leastS fs many) 2) = dueS fs many from rfl] at a
  have nn := (fL_is fs).neN (fL_is fs) 1 (nms_eF fs)
  generalize eF (dueS fs many) = DU at *
  simp only [fL, pL] at *
  generalize fs.map eF = F at *
  generalize (postsS fs many).map eP = P at *
  simp [law_s6, a, b, nn, -List.map_map]
theorem many_step : law_p0 [s, fL fs, fL fs, pI many, .h, .h, .h] = .nx [s, fL fs, fL fs, .h, .h, .h, .h] := by
  unfold law_p0
  rw [sFgt_ap, seq_to (U0 hl h1 h2 s) (seq_to (U1 hl h1 h2 s) (seq_to (U2 hs hl h1 h2 s) (seq_to (U3 hs hl h1 h2 s) (seq_to (U4 hs hl h1 h2 s) (seq_to (U5 hs hl h1 h2 s) (U6 hs hl h1 h2 s))))))]
  rfl
end
theorem law_true : LawTrue φ_law := by
  intro ns hns
  obtain ⟨fs, hs, hfl, q1⟩ := plane_ok ns (a := 0) (m := 7) (by decide) (by decide) (by decide) (by decide)
  have hl : fs.length < 20 := by omega
  have b1 := many_step hs hl (many := 2) (by decide) (by decide) (.sc ns)
  have b2 := many_step hs hl (many := 1) (by decide) (by decide) (.sc ns)
  have it : itsT (fL fs) = some (fs.map eF) := its_l _
  simp only [fL] at *
  generalize fs.map eF = F at *
  simp [φ_law, fnOfBody_ap, q1, it, forGo_cons, b1, b2, -List.map_map]
end Lw

namespace Lw
open PySem PySem.Spec PyProof.Rows L2 DL
def topS (i : Nat) : Stmt := PySem.Challenge.pw_nearposts_k32_whole_squares.main.body.getD i (.Pass ⟨0, 0, 0, 0⟩)
structure Txt (mg : Mg) : Prop where
  b_abs : mg "abs" = none
  b_bool : mg "bool" = none
  b_enumerate : mg "enumerate" = none
  b_int : mg "int" = none
  b_isinstance : mg "isinstance" = none
  b_len : mg "len" = none
  b_list : mg "list" = none
  b_max : mg "max" = none
  b_min : mg "min" = none
  b_range : mg "range" = none
  b_tuple : mg "tuple" = none
abbrev st_law_mix : Stmt := topS 20
theorem sc_law_mix : FnScope ["_law_unit", "_law_k", "_law_number"] ["_law_unit", "_law_k"] (defScope st_law_mix) := ⟨rfl, rfl, rfl, by decide +kernel, rfl, by decide +kernel, by decide +kernel⟩
theorem ok_law_mix {P : Program} {w : World} {K : PySem.W.Frag} {mg : Mg} {base : Heap} (T : Txt mg) {f : Addr} {fd : FuncData} (F : Fun K "_law_mix" "_law_mix" st_law_mix f fd)  :
    FnOk P w K mg base (L2.CX P w) 1 f fd ["_law_unit", "_law_k"] (spD K mg 2 φ_law_mix) :=
  fn_ok [0, 1] F sc_law_mix (by decide) fun cdv A outer s H E hr =>
  have tk := takes_of (X := cxOf (L2.CX P w) P w K mg base ["_law_unit", "_law_k", "_law_number"] "_law_mix" (defScope st_law_mix) f cdv A outer s H E) (E := E) rfl rfl rfl rfl
  have po := passes_of (X := cxOf (L2.CX P w) P w K mg base ["_law_unit", "_law_k", "_law_number"] "_law_mix" (defScope st_law_mix) f cdv A outer s H E) rfl
  (dss_cons (ds_if (dt_cmp op_ge s_ge (nomark _) (dv_at 0) (dv_of (de_bin op_pow s_pow (dv_of de_int) (dv_of de_int)))) (dss_one (ds_ret (de_bin op_sub s_sub (dv_at 0) (dv_of (de_bin op_pow s_pow (dv_of de_int) (dv_of de_int)))))) dss_nil)
  (dss_cons (ds_set 2 sc_law_mix.nd (de_bin op_mod s_mod (dv_at 0) (dv_of (de_bin op_pow s_pow (dv_of de_int) (dv_of de_int)))))
  (dss_cons (ds_set 2 sc_law_mix.nd (de_bin op_mod s_mod (dv_of (de_bin op_mulD s_mul (dv_of (de_bin op_addD s_add (dv_of (de_bin op_addD s_add (dv_of (de_bin op_mulD s_mul (dv_at 2) (dv_at 2))) (dv_of (de_bin op_mulD s_mul (dv_of (de_bin op_mulD s_mul (dv_of de_int) (dv_at 1))) (dv_at 1))))) (dv_of de_int))) (dv_of de_int))) (dv_of (de_bin op_addD s_add (dv_of (de_bin op_pow s_pow (dv_of de_int) (dv_of de_int))) (dv_of de_int)))))
  (dss_one (ds_ret (de_bin op_mod s_mod (dv_of (de_bin op_mulD s_mul (dv_of (de_bin op_addD s_add (dv_of (de_bin op_mulD s_mul (dv_at 2) (dv_at 2))) (dv_at 1))) (dv_of de_int))) (dv_of (de_bin op_addD s_add (dv_of (de_bin op_pow s_pow (dv_of de_int) (dv_of de_int))) (dv_of de_int)))))))))
abbrev st_law_cell_at : Stmt := topS 19
theorem sc_law_cell_at : FnScope ["_law_script", "_law_k"] ["_law_script", "_law_k"] (defScope st_law_cell_at) := ⟨rfl, rfl, rfl, by decide +kernel, rfl, by decide +kernel, by decide +kernel⟩
theorem ok_law_cell_at {P : Program} {w : World} {K : PySem.W.Frag} {mg : Mg} {base : Heap} (T : Txt mg) {f : Addr} {fd : FuncData} (F : Fun K "_law_cell_at" "_law_cell_at" st_law_cell_at f fd)  :
    FnOk P w K mg base (L2.CX P w) 1 f fd ["_law_script", "_law_k"] (spD K mg 2 φ_law_cell_at) :=
  fn_ok [0, 1] F sc_law_cell_at (by decide) fun cdv A outer s H E hr =>
  have tk := takes_of (X := cxOf (L2.CX P w) P w K mg base ["_law_script", "_law_k"] "_law_cell_at" (defScope st_law_cell_at) f cdv A outer s H E) (E := E) rfl rfl rfl rfl
  have po := passes_of (X := cxOf (L2.CX P w) P w K mg base ["_law_script", "_law_k"] "_law_cell_at" (defScope st_law_cell_at) f cdv A outer s H E) rfl
  (dss_cons (ds_if (dt_cmp op_lt s_lt (nomark _) (dv_at 1) (dv_of (de_callB call_len c_len PySem.boot_len rfl T.b_len (dv_cons (dv_at 0) dv_nil)))) (dss_one (ds_ret (de_ix ix_seq s_ix (fun _ _ => rfl) (dv_at 0) (dv_at 1)))) dss_nil)
  (dss_one (ds_ret de_int)))
abbrev st_law_plane : Stmt := topS 26
theorem sc_law_plane : FnScope ["_law_script", "_law_at", "_law_most", "_law_head", "_law_folk", "_law_k", "_law_number", "_law_size", "_law_place"] ["_law_script", "_law_at", "_law_most"] (defScope st_law_plane) := ⟨rfl, rfl, rfl, by decide +kernel, rfl, by decide +kernel, by decide +kernel⟩
theorem ok_law_plane {P : Program} {w : World} {K : PySem.W.Frag} {mg : Mg} {base : Heap} (T : Txt mg) {f : Addr} {fd : FuncData} (F : Fun K "_law_plane" "_law_plane" st_law_plane f fd) (D_law_mix : Def P w K mg base "_law_mix" 2 φ_law_mix 1) (D_law_cell_at : Def P w K mg base "_law_cell_at" 2 φ_law_cell_at 1) :
    FnOk P w K mg base (L2.CX P w) 2 f fd ["_law_script", "_law_at", "_law_most"] (spD K mg 3 φ_law_plane) :=
  fn_ok [0, 1, 2] F sc_law_plane (by decide) fun cdv A outer s H E hr =>
  have tk := takes_of (X := cxOf (L2.CX P w) P w K mg base ["_law_script", "_law_at", "_law_most", "_law_head", "_law_folk", "_law_k", "_law_number", "_law_size", "_law_place"] "_law_plane" (defScope st_law_plane) f cdv A outer s H E) (E := E) rfl rfl rfl rfl
  have po := passes_of (X := cxOf (L2.CX P w) P w K mg base ["_law_script", "_law_at", "_law_most", "_law_head", "_law_folk", "_law_k", "_law_number", "_law_size", "_law_place"] "_law_plane" (defScope st_law_plane) f cdv A outer s H E) rfl
  (dss_cons (ds_set 3 sc_law_plane.nd (de_call D_law_mix hr tk (db_cons (db_val (de_call D_law_cell_at hr tk (db_cons (db_slot 0) (db_cons (db_slot 1) db_nil)))) (db_cons (db_slot 1) db_nil))))
  (dss_cons (ds_set 4 sc_law_plane.nd (de_lst da_nil))
  (dss_cons (ds_for po rfl (di_rng1 rfl T.b_range (dv_cons (dv_of (de_bin op_mod s_mod (dv_at 3) (dv_of (de_bin op_addD s_add (dv_at 2) (dv_of de_int))))) dv_nil)) (dg_name 5 sc_law_plane.nd) (dss_fgt [5, 6, 7, 8] (dss_cons (ds_set 6 sc_law_plane.nd (de_call D_law_mix hr tk (db_cons (db_val (de_call D_law_cell_at hr tk (db_cons (db_slot 0) (db_cons (db_val (de_bin op_addD s_add (dv_of (de_bin op_addD s_add (dv_at 1) (dv_of de_int))) (dv_at 5))) db_nil)))) (db_cons (db_val de_int) db_nil))))
  (dss_cons (ds_set 7 sc_law_plane.nd (de_ix ix_seq s_ix (fun _ _ => rfl) (dv_of (de_lst (da_cons de_int (da_cons de_int (da_cons de_int (da_cons (de_bin op_pow s_pow (dv_of de_int) (dv_of de_int)) da_nil)))))) (dv_of (de_bin op_mod s_mod (dv_of (de_bin op_fdivW s_fdiv (dv_at 3) (dv_of de_int))) (dv_of de_int)))))
  (dss_cons (ds_set 8 sc_law_plane.nd (de_tup (da_cons (de_bin op_sub s_sub (dv_of (de_bin op_mod s_mod (dv_at 6) (dv_at 7))) (dv_of (de_bin op_fdivW s_fdiv (dv_at 7) (dv_of de_int)))) (da_cons (de_bin op_sub s_sub (dv_of (de_bin op_mod s_mod (dv_of (de_bin op_fdivW s_fdiv (dv_at 6) (dv_of (de_bin op_pow s_pow (dv_of de_int) (dv_of de_int))))) (dv_at 7))) (dv_of (de_bin op_fdivW s_fdiv (dv_at 7) (dv_of de_int)))) da_nil))))
  (dss_cons (ds_if (dt_w (dw_and (dt_cmp (op_eqD hr.units) s_eq (nomark _) (dv_of (de_bin op_mod s_mod (dv_of (de_bin op_fdivW s_fdiv (dv_at 6) (dv_of (de_bin op_pow s_pow (dv_of de_int) (dv_of de_int))))) (dv_of de_int))) (dv_of de_int)) (dw_and1 (dt_cmp op_gt s_gt (nomark _) (dv_of (de_callB call_len c_len PySem.boot_len rfl T.b_len (dv_cons (dv_at 4) dv_nil))) (dv_of de_int))))) (dss_one (ds_set 8 sc_law_plane.nd (de_ix ix_seq s_ix (fun _ _ => rfl) (dv_of (de_lst (da_cons (de_ix ix_seq s_ix (fun _ _ => rfl) (dv_at 4) (dv_of de_int)) (da_cons (de_tup (da_cons (de_ix ix_seq s_ix (fun _ _ => rfl) (dv_of (de_ix ix_seq s_ix (fun _ _ => rfl) (dv_at 4) (dv_of de_int))) (dv_of de_int)) (da_cons (de_ix ix_seq s_ix (fun _ _ => rfl) (dv_at 8) (dv_of de_int)) da_nil))) da_nil)))) (dv_of (de_bin op_mod s_mod (dv_of (de_bin op_fdivW s_fdiv (dv_at 6) (dv_of (de_bin op_pow s_pow (dv_of de_int) (dv_of de_int))))) (dv_of de_int)))))) dss_nil)
  (dss_one (ds_exp (de_mut 4 PySem.F.slot_list_append PySem.F.type_list_append mt_append m_append (da_cons (de_var 8) da_nil))))))))))
  (dss_one (ds_ret (de_mv 4))))))
abbrev st_law_shared : Stmt := topS 21
theorem sc_law_shared : FnScope ["_law_one", "_law_other"] ["_law_one", "_law_other"] (defScope st_law_shared) := ⟨rfl, rfl, rfl, by decide +kernel, rfl, by decide +kernel, by decide +kernel⟩
theorem ok_law_shared {P : Program} {w : World} {K : PySem.W.Frag} {mg : Mg} {base : Heap} (T : Txt mg) {f : Addr} {fd : FuncData} (F : Fun K "_law_shared" "_law_shared" st_law_shared f fd)  :
    FnOk P w K mg base (L2.CX P w) 1 f fd ["_law_one", "_law_other"] (spD K mg 2 φ_law_shared) :=
  fn_ok [] F sc_law_shared (by decide) fun cdv A outer s H E hr =>
  have tk := takes_of (X := cxOf (L2.CX P w) P w K mg base ["_law_one", "_law_other"] "_law_shared" (defScope st_law_shared) f cdv A outer s H E) (E := E) rfl rfl rfl rfl
  have po := passes_of (X := cxOf (L2.CX P w) P w K mg base ["_law_one", "_law_other"] "_law_shared" (defScope st_law_shared) f cdv A outer s H E) rfl
  (dss_cons (ds_fgt [1] (ds_while (fun e => match e with | [_, .p (.int b)] => b.natAbs + 1 | _ => 0) po (dt_cmp (op_neD hr.units) s_ne (nomark _) (dv_at 1) (dv_of de_int)) (dss_one (ds_par 0 1 rfl sc_law_shared.nd (da_cons (de_var 1) (da_cons (de_bin op_mod s_mod (dv_at 0) (dv_at 1)) da_nil))))))
  (dss_one (ds_ret (de_callB call_abs c_abs (by decide +kernel) rfl T.b_abs (dv_cons (dv_at 0) dv_nil)))))
abbrev st_law_lowest : Stmt := topS 22
theorem sc_law_lowest : FnScope ["_law_top", "_law_bottom", "_law_by"] ["_law_top", "_law_bottom"] (defScope st_law_lowest) := ⟨rfl, rfl, rfl, by decide +kernel, rfl, by decide +kernel, by decide +kernel⟩
theorem ok_law_lowest {P : Program} {w : World} {K : PySem.W.Frag} {mg : Mg} {base : Heap} (T : Txt mg) {f : Addr} {fd : FuncData} (F : Fun K "_law_lowest" "_law_lowest" st_law_lowest f fd) (D_law_shared : Def P w K mg base "_law_shared" 2 φ_law_shared 1) :
    FnOk P w K mg base (L2.CX P w) 2 f fd ["_law_top", "_law_bottom"] (spD K mg 2 φ_law_lowest) :=
  fn_ok [0, 1] F sc_law_lowest (by decide) fun cdv A outer s H E hr =>
  have tk := takes_of (X := cxOf (L2.CX P w) P w K mg base ["_law_top", "_law_bottom", "_law_by"] "_law_lowest" (defScope st_law_lowest) f cdv A outer s H E) (E := E) rfl rfl rfl rfl
  have po := passes_of (X := cxOf (L2.CX P w) P w K mg base ["_law_top", "_law_bottom", "_law_by"] "_law_lowest" (defScope st_law_lowest) f cdv A outer s H E) rfl
  (dss_cons (ds_set 2 sc_law_lowest.nd (de_call D_law_shared hr tk (db_cons (db_val (de_var 0)) (db_cons (db_val (de_var 1)) db_nil))))
  (dss_one (ds_ret (de_tup (da_cons (de_bin op_fdivW s_fdiv (dv_at 0) (dv_at 2)) (da_cons (de_bin op_fdivW s_fdiv (dv_at 1) (dv_at 2)) da_nil))))))
abbrev st_law_side : Stmt := topS 29
theorem sc_law_side : FnScope ["_law_folk", "_law_xs", "_law_ys", "_law_x", "_law_y"] ["_law_folk"] (defScope st_law_side) := ⟨rfl, rfl, rfl, by decide +kernel, rfl, by decide +kernel, by decide +kernel⟩
theorem ok_law_side {P : Program} {w : World} {K : PySem.W.Frag} {mg : Mg} {base : Heap} (T : Txt mg) {f : Addr} {fd : FuncData} (F : Fun K "_law_side" "_law_side" st_law_side f fd)  :
    FnOk P w K mg base (L2.CX P w) 1 f fd ["_law_folk"] (spD K mg 1 φ_law_side) :=
  fn_ok [0] F sc_law_side (by decide) fun cdv A outer s H E hr =>
  have tk := takes_of (X := cxOf (L2.CX P w) P w K mg base ["_law_folk", "_law_xs", "_law_ys", "_law_x", "_law_y"] "_law_side" (defScope st_law_side) f cdv A outer s H E) (E := E) rfl rfl rfl rfl
  have po := passes_of (X := cxOf (L2.CX P w) P w K mg base ["_law_folk", "_law_xs", "_law_ys", "_law_x", "_law_y"] "_law_side" (defScope st_law_side) f cdv A outer s H E) rfl
  (dss_cons (ds_if (dt_cmp (op_eqD hr.units) s_eq (nomark _) (dv_at 0) (dv_of (de_lst da_nil))) (dss_one (ds_ret de_int)) dss_nil)
  (dss_cons (ds_setLcA 1 5 [("_law_x", 3), ("_law_y", 4)] rfl sc_law_side.nd (blkOk_by (by (show L2.blkC ["_law_folk", "_law_xs", "_law_ys", "_law_x", "_law_y"] (defScope st_law_side) _ _ = true); decide +kernel)) (dia_name 0) (fun _ _ _ _ _ => (dg_tup 2 rfl (dgs_cons (dg_name 3 sc_law_side.nd) (dgs_cons (dg_name 4 sc_law_side.nd) dgs_nil)))) (fun _ _ _ _ _ => dts_nil) (fun _ _ _ _ _ => (de_var 3)) (sw_true rfl rfl rfl (by decide +kernel)))
  (dss_cons (ds_setLcA 2 5 [("_law_x", 3), ("_law_y", 4)] rfl sc_law_side.nd (blkOk_by (by (show L2.blkC ["_law_folk", "_law_xs", "_law_ys", "_law_x", "_law_y"] (defScope st_law_side) _ _ = true); decide +kernel)) (dia_name 0) (fun _ _ _ _ _ => (dg_tup 2 rfl (dgs_cons (dg_name 3 sc_law_side.nd) (dgs_cons (dg_name 4 sc_law_side.nd) dgs_nil)))) (fun _ _ _ _ _ => dts_nil) (fun _ _ _ _ _ => (de_var 4)) (sw_true rfl rfl rfl (by decide +kernel)))
  (dss_one (ds_ret (de_callB (call_max2 rfl) c_max2 (by decide +kernel) rfl T.b_max (dv_cons (dv_of (de_bin op_sub s_sub (dv_of (de_callB (cr_max rfl) c_max1 (by decide +kernel) rfl T.b_max (dv_cons (dv_at 1) dv_nil))) (dv_of (de_callB (cr_min rfl) c_min1 (by decide +kernel) rfl T.b_min (dv_cons (dv_at 1) dv_nil))))) (dv_cons (dv_of (de_bin op_sub s_sub (dv_of (de_callB (cr_max rfl) c_max1 (by decide +kernel) rfl T.b_max (dv_cons (dv_at 2) dv_nil))) (dv_of (de_callB (cr_min rfl) c_min1 (by decide +kernel) rfl T.b_min (dv_cons (dv_at 2) dv_nil))))) dv_nil))))))))
abbrev st_law_two : Stmt := topS 30
theorem sc_law_two : FnScope ["_law_folk", "_law_least", "_law_bits", "_law_one", "_law_other", "_law_k", "_law_place"] ["_law_folk"] (defScope st_law_two) := ⟨rfl, rfl, rfl, by decide +kernel, rfl, by decide +kernel, by decide +kernel⟩
theorem ok_law_two {P : Program} {w : World} {K : PySem.W.Frag} {mg : Mg} {base : Heap} (T : Txt mg) {f : Addr} {fd : FuncData} (F : Fun K "_law_two" "_law_two" st_law_two f fd) (D_law_side : Def P w K mg base "_law_side" 1 φ_law_side 1) :
    FnOk P w K mg base (L2.CX P w) 2 f fd ["_law_folk"] (spD K mg 1 φ_law_two) :=
  fn_ok [0] F sc_law_two (by decide) fun cdv A outer s H E hr =>
  have tk := takes_of (X := cxOf (L2.CX P w) P w K mg base ["_law_folk", "_law_least", "_law_bits", "_law_one", "_law_other", "_law_k", "_law_place"] "_law_two" (defScope st_law_two) f cdv A outer s H E) (E := E) rfl rfl rfl rfl
  have po := passes_of (X := cxOf (L2.CX P w) P w K mg base ["_law_folk", "_law_least", "_law_bits", "_law_one", "_law_other", "_law_k", "_law_place"] "_law_two" (defScope st_law_two) f cdv A outer s H E) rfl
  (dss_cons (ds_set 1 sc_law_two.nd (de_call D_law_side hr tk (db_cons (db_slot 0) db_nil)))
  (dss_cons (ds_for po rfl (di_rng1 rfl T.b_range (dv_cons (dv_of (de_bin op_shl s_shl (dv_of de_int) (dv_of (de_callB (call_max2 rfl) c_max2 (by decide +kernel) rfl T.b_max (dv_cons (dv_of de_int) (dv_cons (dv_of (de_bin op_sub s_sub (dv_of (de_callB call_len c_len PySem.boot_len rfl T.b_len (dv_cons (dv_at 0) dv_nil))) (dv_of de_int))) dv_nil)))))) dv_nil)) (dg_name 2 sc_law_two.nd) (dss_fgt [2, 3, 4] (dss_cons (ds_setLcA 3 7 [("_law_k", 5), ("_law_place", 6)] rfl sc_law_two.nd (blkOk_by (by (show L2.blkC ["_law_folk", "_law_least", "_law_bits", "_law_one", "_law_other", "_law_k", "_law_place"] (defScope st_law_two) _ _ = true); decide +kernel)) (dia_enum 0 rfl T.b_enumerate) (fun _ _ _ _ _ => (dg_tup 2 rfl (dgs_cons (dg_name 5 sc_law_two.nd) (dgs_cons (dg_name 6 sc_law_two.nd) dgs_nil)))) (fun _ _ _ _ _ => (dts_one (dt_cmp (op_eqD hr.units) s_eq (nomark _) (dv_of (de_bin op_mod s_mod (dv_of (de_bin op_shr s_shr (dv_at 2) (dv_at 5))) (dv_of de_int))) (dv_of de_int)))) (fun _ _ _ _ _ => (de_var 6)) (sw_true rfl rfl rfl (by decide +kernel)))
  (dss_cons (ds_setLcA 4 7 [("_law_k", 5), ("_law_place", 6)] rfl sc_law_two.nd (blkOk_by (by (show L2.blkC ["_law_folk", "_law_least", "_law_bits", "_law_one", "_law_other", "_law_k", "_law_place"] (defScope st_law_two) _ _ = true); decide +kernel)) (dia_enum 0 rfl T.b_enumerate) (fun _ _ _ _ _ => (dg_tup 2 rfl (dgs_cons (dg_name 5 sc_law_two.nd) (dgs_cons (dg_name 6 sc_law_two.nd) dgs_nil)))) (fun _ _ _ _ _ => (dts_one (dt_cmp (op_eqD hr.units) s_eq (nomark _) (dv_of (de_bin op_mod s_mod (dv_of (de_bin op_shr s_shr (dv_at 2) (dv_at 5))) (dv_of de_int))) (dv_of de_int)))) (fun _ _ _ _ _ => (de_var 6)) (sw_true rfl rfl rfl (by decide +kernel)))
  (dss_one (ds_set 1 sc_law_two.nd (de_callB (call_min2 rfl) c_min2 (by decide +kernel) rfl T.b_min (dv_cons (dv_at 1) (dv_cons (dv_of (de_callB (call_max2 rfl) c_max2 (by decide +kernel) rfl T.b_max (dv_cons (dv_of (de_call D_law_side hr tk (db_cons (db_slot 3) db_nil))) (dv_cons (dv_of (de_call D_law_side hr tk (db_cons (db_slot 4) db_nil))) dv_nil)))) dv_nil)))))))))
  (dss_one (ds_ret (de_mv 1)))))
abbrev st_look_at_many : Stmt := topS 8
theorem sc_look_at_many : FnScope ["many"] ["many"] (defScope st_look_at_many) := ⟨rfl, rfl, rfl, by decide +kernel, rfl, by decide +kernel, by decide +kernel⟩
theorem ok_look_at_many {P : Program} {w : World} {K : PySem.W.Frag} {mg : Mg} {base : Heap} (T : Txt mg) {f : Addr} {fd : FuncData} (F : Fun K "look_at_many" "look_at_many" st_look_at_many f fd)  :
    FnOk P w K mg base (L2.CX P w) 1 f fd ["many"] (spD K mg 1 φ_look_at_many) :=
  fn_ok [0] F sc_look_at_many (by decide) fun cdv A outer s H E hr =>
  have tk := takes_of (X := cxOf (L2.CX P w) P w K mg base ["many"] "look_at_many" (defScope st_look_at_many) f cdv A outer s H E) (E := E) rfl rfl rfl rfl
  have po := passes_of (X := cxOf (L2.CX P w) P w K mg base ["many"] "look_at_many" (defScope st_look_at_many) f cdv A outer s H E) rfl
  (dss_one (ds_if (dt_cmp op_lt s_lt (nomark _) (dv_at 0) (dv_of de_int)) (dss_one ds_never) dss_nil))
abbrev st_look_at_two : Stmt := topS 14
theorem sc_look_at_two : FnScope ["many"] ["many"] (defScope st_look_at_two) := ⟨rfl, rfl, rfl, by decide +kernel, rfl, by decide +kernel, by decide +kernel⟩
theorem ok_look_at_two {P : Program} {w : World} {K : PySem.W.Frag} {mg : Mg} {base : Heap} (T : Txt mg) {f : Addr} {fd : FuncData} (F : Fun K "look_at_two" "look_at_two" st_look_at_two f fd) (D_look_at_many : Def P w K mg base "look_at_many" 1 φ_look_at_many 1) :
    FnOk P w K mg base (L2.CX P w) 2 f fd ["many"] (spD K mg 1 φ_look_at_two) :=
  fn_ok [0] F sc_look_at_two (by decide) fun cdv A outer s H E hr =>
  have tk := takes_of (X := cxOf (L2.CX P w) P w K mg base ["many"] "look_at_two" (defScope st_look_at_two) f cdv A outer s H E) (E := E) rfl rfl rfl rfl
  have po := passes_of (X := cxOf (L2.CX P w) P w K mg base ["many"] "look_at_two" (defScope st_look_at_two) f cdv A outer s H E) rfl
  (dss_cons (ds_exp (de_call D_look_at_many hr tk (db_cons (db_slot 0) db_nil)))
  (dss_one (ds_if (dt_cmp op_gt s_gt (nomark _) (dv_at 0) (dv_of de_int)) (dss_one ds_never) dss_nil)))
abbrev st_corners : Stmt := topS 10
theorem sc_corners : FnScope ["folk", "left", "right", "low", "high", "x", "y"] ["folk"] (defScope st_corners) := ⟨rfl, rfl, rfl, by decide +kernel, rfl, by decide +kernel, by decide +kernel⟩
theorem ok_corners {P : Program} {w : World} {K : PySem.W.Frag} {mg : Mg} {base : Heap} (T : Txt mg) {f : Addr} {fd : FuncData} (F : Fun K "corners" "corners" st_corners f fd)  :
    FnOk P w K mg base (L2.CX P w) 1 f fd ["folk"] (spD K mg 1 φ_corners) :=
  fn_ok [0] F sc_corners (by decide) fun cdv A outer s H E hr =>
  have tk := takes_of (X := cxOf (L2.CX P w) P w K mg base ["folk", "left", "right", "low", "high", "x", "y"] "corners" (defScope st_corners) f cdv A outer s H E) (E := E) rfl rfl rfl rfl
  have po := passes_of (X := cxOf (L2.CX P w) P w K mg base ["folk", "left", "right", "low", "high", "x", "y"] "corners" (defScope st_corners) f cdv A outer s H E) rfl
  (dss_cons (ds_set 1 sc_corners.nd (de_callB (cr_min rfl) c_min1 (by decide +kernel) rfl T.b_min (dv_cons (dv_of (de_lcA 7 [("x", 5), ("y", 6)] rfl sc_corners.nd (blkOk_by (by (show L2.blkC ["folk", "left", "right", "low", "high", "x", "y"] (defScope st_corners) _ _ = true); decide +kernel)) (dia_name 0) (fun _ _ _ _ _ => (dg_tup 2 rfl (dgs_cons (dg_name 5 sc_corners.nd) (dgs_cons (dg_name 6 sc_corners.nd) dgs_nil)))) (fun _ _ _ _ _ => dts_nil) (fun _ _ _ _ _ => (de_var 5)))) dv_nil)))
  (dss_cons (ds_set 2 sc_corners.nd (de_callB (cr_max rfl) c_max1 (by decide +kernel) rfl T.b_max (dv_cons (dv_of (de_lcA 7 [("x", 5), ("y", 6)] rfl sc_corners.nd (blkOk_by (by (show L2.blkC ["folk", "left", "right", "low", "high", "x", "y"] (defScope st_corners) _ _ = true); decide +kernel)) (dia_name 0) (fun _ _ _ _ _ => (dg_tup 2 rfl (dgs_cons (dg_name 5 sc_corners.nd) (dgs_cons (dg_name 6 sc_corners.nd) dgs_nil)))) (fun _ _ _ _ _ => dts_nil) (fun _ _ _ _ _ => (de_var 5)))) dv_nil)))
  (dss_cons (ds_set 3 sc_corners.nd (de_callB (cr_min rfl) c_min1 (by decide +kernel) rfl T.b_min (dv_cons (dv_of (de_lcA 7 [("x", 5), ("y", 6)] rfl sc_corners.nd (blkOk_by (by (show L2.blkC ["folk", "left", "right", "low", "high", "x", "y"] (defScope st_corners) _ _ = true); decide +kernel)) (dia_name 0) (fun _ _ _ _ _ => (dg_tup 2 rfl (dgs_cons (dg_name 5 sc_corners.nd) (dgs_cons (dg_name 6 sc_corners.nd) dgs_nil)))) (fun _ _ _ _ _ => dts_nil) (fun _ _ _ _ _ => (de_var 6)))) dv_nil)))
  (dss_cons (ds_set 4 sc_corners.nd (de_callB (cr_max rfl) c_max1 (by decide +kernel) rfl T.b_max (dv_cons (dv_of (de_lcA 7 [("x", 5), ("y", 6)] rfl sc_corners.nd (blkOk_by (by (show L2.blkC ["folk", "left", "right", "low", "high", "x", "y"] (defScope st_corners) _ _ = true); decide +kernel)) (dia_name 0) (fun _ _ _ _ _ => (dg_tup 2 rfl (dgs_cons (dg_name 5 sc_corners.nd) (dgs_cons (dg_name 6 sc_corners.nd) dgs_nil)))) (fun _ _ _ _ _ => dts_nil) (fun _ _ _ _ _ => (de_var 6)))) dv_nil)))
  (dss_one (ds_ret (de_lst (da_cons (de_lst (da_cons (de_tup (da_cons (de_mv 1) (da_cons (de_mv 3) da_nil))) (da_cons (de_tup (da_cons (de_mv 2) (da_cons (de_mv 4) da_nil))) da_nil))) (da_cons (de_lst (da_cons (de_tup (da_cons (de_mv 1) (da_cons (de_mv 4) da_nil))) (da_cons (de_tup (da_cons (de_mv 2) (da_cons (de_mv 3) da_nil))) da_nil))) da_nil)))))))))
abbrev st_divisor : Stmt := topS 4
theorem sc_divisor : FnScope ["one", "other"] ["one", "other"] (defScope st_divisor) := ⟨rfl, rfl, rfl, by decide +kernel, rfl, by decide +kernel, by decide +kernel⟩
theorem ok_divisor {P : Program} {w : World} {K : PySem.W.Frag} {mg : Mg} {base : Heap} (T : Txt mg) {f : Addr} {fd : FuncData} (F : Fun K "divisor" "divisor" st_divisor f fd)  :
    FnOk P w K mg base (L2.CX P w) 1 f fd ["one", "other"] (spD K mg 2 φ_divisor) :=
  fn_ok [] F sc_divisor (by decide) fun cdv A outer s H E hr =>
  have tk := takes_of (X := cxOf (L2.CX P w) P w K mg base ["one", "other"] "divisor" (defScope st_divisor) f cdv A outer s H E) (E := E) rfl rfl rfl rfl
  have po := passes_of (X := cxOf (L2.CX P w) P w K mg base ["one", "other"] "divisor" (defScope st_divisor) f cdv A outer s H E) rfl
  (dss_cons (ds_fgt [1] (ds_while (fun e => match e with | [_, .p (.int b)] => b.natAbs + 1 | _ => 0) po (dt_cmp (op_neD hr.units) s_ne (nomark _) (dv_at 1) (dv_of de_int)) (dss_one (ds_par 0 1 rfl sc_divisor.nd (da_cons (de_var 1) (da_cons (de_bin op_mod s_mod (dv_at 0) (dv_at 1)) da_nil))))))
  (dss_one (ds_ret (de_callB call_abs c_abs (by decide +kernel) rfl T.b_abs (dv_cons (dv_at 0) dv_nil)))))
abbrev st_lowest : Stmt := topS 5
theorem sc_lowest : FnScope ["top", "bottom", "by"] ["top", "bottom"] (defScope st_lowest) := ⟨rfl, rfl, rfl, by decide +kernel, rfl, by decide +kernel, by decide +kernel⟩
theorem ok_lowest {P : Program} {w : World} {K : PySem.W.Frag} {mg : Mg} {base : Heap} (T : Txt mg) {f : Addr} {fd : FuncData} (F : Fun K "lowest" "lowest" st_lowest f fd) (D_divisor : Def P w K mg base "divisor" 2 φ_divisor 1) :
    FnOk P w K mg base (L2.CX P w) 2 f fd ["top", "bottom"] (spD K mg 2 φ_lowest) :=
  fn_ok [0, 1] F sc_lowest (by decide) fun cdv A outer s H E hr =>
  have tk := takes_of (X := cxOf (L2.CX P w) P w K mg base ["top", "bottom", "by"] "lowest" (defScope st_lowest) f cdv A outer s H E) (E := E) rfl rfl rfl rfl
  have po := passes_of (X := cxOf (L2.CX P w) P w K mg base ["top", "bottom", "by"] "lowest" (defScope st_lowest) f cdv A outer s H E) rfl
  (dss_cons (ds_set 2 sc_lowest.nd (de_call D_divisor hr tk (db_cons (db_val (de_var 0)) (db_cons (db_val (de_var 1)) db_nil))))
  (dss_one (ds_ret (de_tup (da_cons (de_bin op_fdivW s_fdiv (dv_at 0) (dv_at 2)) (da_cons (de_bin op_fdivW s_fdiv (dv_at 1) (dv_at 2)) da_nil))))))
abbrev st_side_from : Stmt := topS 11
theorem sc_side_from : FnScope ["place", "corner"] ["place", "corner"] (defScope st_side_from) := ⟨rfl, rfl, rfl, by decide +kernel, rfl, by decide +kernel, by decide +kernel⟩
theorem ok_side_from {P : Program} {w : World} {K : PySem.W.Frag} {mg : Mg} {base : Heap} (T : Txt mg) {f : Addr} {fd : FuncData} (F : Fun K "side_from" "side_from" st_side_from f fd)  :
    FnOk P w K mg base (L2.CX P w) 1 f fd ["place", "corner"] (spD K mg 2 φ_side_from) :=
  fn_ok [0, 1] F sc_side_from (by decide) fun cdv A outer s H E hr =>
  have tk := takes_of (X := cxOf (L2.CX P w) P w K mg base ["place", "corner"] "side_from" (defScope st_side_from) f cdv A outer s H E) (E := E) rfl rfl rfl rfl
  have po := passes_of (X := cxOf (L2.CX P w) P w K mg base ["place", "corner"] "side_from" (defScope st_side_from) f cdv A outer s H E) rfl
  (dss_one (ds_ret (de_callB (call_max2 rfl) c_max2 (by decide +kernel) rfl T.b_max (dv_cons (dv_of (de_callB call_abs c_abs (by decide +kernel) rfl T.b_abs (dv_cons (dv_of (de_bin op_sub s_sub (dv_of (de_ix ix_seq s_ix (fun _ _ => rfl) (dv_at 0) (dv_of de_int))) (dv_of (de_ix ix_seq s_ix (fun _ _ => rfl) (dv_at 1) (dv_of de_int))))) dv_nil))) (dv_cons (dv_of (de_callB call_abs c_abs (by decide +kernel) rfl T.b_abs (dv_cons (dv_of (de_bin op_sub s_sub (dv_of (de_ix ix_seq s_ix (fun _ _ => rfl) (dv_at 0) (dv_of de_int))) (dv_of (de_ix ix_seq s_ix (fun _ _ => rfl) (dv_at 1) (dv_of de_int))))) dv_nil))) dv_nil)))))
abbrev st_side_of_two : Stmt := topS 12
theorem sc_side_of_two : FnScope ["folk", "across", "place", "corner"] ["folk", "across"] (defScope st_side_of_two) := ⟨rfl, rfl, rfl, by decide +kernel, rfl, by decide +kernel, by decide +kernel⟩
theorem ok_side_of_two {P : Program} {w : World} {K : PySem.W.Frag} {mg : Mg} {base : Heap} (T : Txt mg) {f : Addr} {fd : FuncData} (F : Fun K "side_of_two" "side_of_two" st_side_of_two f fd) (D_side_from : Def P w K mg base "side_from" 2 φ_side_from 1) :
    FnOk P w K mg base (L2.CX P w) 2 f fd ["folk", "across"] (spD K mg 2 φ_side_of_two) :=
  fn_ok [0, 1] F sc_side_of_two (by decide) fun cdv A outer s H E hr =>
  have tk := takes_of (X := cxOf (L2.CX P w) P w K mg base ["folk", "across", "place", "corner"] "side_of_two" (defScope st_side_of_two) f cdv A outer s H E) (E := E) rfl rfl rfl rfl
  have po := passes_of (X := cxOf (L2.CX P w) P w K mg base ["folk", "across", "place", "corner"] "side_of_two" (defScope st_side_of_two) f cdv A outer s H E) rfl
  (dss_one (ds_ret (de_callB (cr_max rfl) c_max1 (by decide +kernel) rfl T.b_max (dv_cons (dv_of (de_lcA 4 [("place", 2)] rfl sc_side_of_two.nd (blkOk_by (by (show L2.blkC ["folk", "across", "place", "corner"] (defScope st_side_of_two) _ _ = true); decide +kernel)) (dia_name 0) (fun _ _ _ _ _ => (dg_name 2 sc_side_of_two.nd)) (fun _ _ _ _ _ => dts_nil) (fun _ _ _ _ _ => (de_callB (cr_min rfl) c_min1 (by decide +kernel) rfl T.b_min (dv_cons (dv_of (de_lcA 4 [("corner", 3)] rfl sc_side_of_two.nd (blkOk_by (by (show L2.blkC ["folk", "across", "place", "corner"] (relS _ (defScope st_side_of_two)) _ _ = true); decide +kernel)) (dia_name 1) (fun _ _ _ _ _ => (dg_name 3 sc_side_of_two.nd)) (fun _ _ _ _ _ => dts_nil) (fun _ _ _ _ _ => (de_call D_side_from hr takes0 (db_cons (db_slot 2) (db_cons (db_slot 3) db_nil)))))) dv_nil))))) dv_nil))))
abbrev st_best_two : Stmt := topS 15
theorem sc_best_two : FnScope ["folk", "ways", "side", "at", "across"] ["folk"] (defScope st_best_two) := ⟨rfl, rfl, rfl, by decide +kernel, rfl, by decide +kernel, by decide +kernel⟩
theorem ok_best_two {P : Program} {w : World} {K : PySem.W.Frag} {mg : Mg} {base : Heap} (T : Txt mg) {f : Addr} {fd : FuncData} (F : Fun K "best_two" "best_two" st_best_two f fd) (D_corners : Def P w K mg base "corners" 1 φ_corners 1) (D_side_of_two : Def P w K mg base "side_of_two" 2 φ_side_of_two 2) :
    FnOk P w K mg base (L2.CX P w) 3 f fd ["folk"] (spD K mg 1 φ_best_two) :=
  fn_ok [0] F sc_best_two (by decide) fun cdv A outer s H E hr =>
  have tk := takes_of (X := cxOf (L2.CX P w) P w K mg base ["folk", "ways", "side", "at", "across"] "best_two" (defScope st_best_two) f cdv A outer s H E) (E := E) rfl rfl rfl rfl
  have po := passes_of (X := cxOf (L2.CX P w) P w K mg base ["folk", "ways", "side", "at", "across"] "best_two" (defScope st_best_two) f cdv A outer s H E) rfl
  (dss_cons (ds_setLc 1 5 [("at", 3), ("across", 4)] rfl sc_best_two.nd (blkOk_by (by (show L2.blkC ["folk", "ways", "side", "at", "across"] (defScope st_best_two) _ _ = true); decide +kernel)) (di_enum rfl T.b_enumerate (da_cons (de_call D_corners hr tk (db_cons (db_slot 0) db_nil)) da_nil)) (fun _ _ _ _ _ => (dg_tup 2 rfl (dgs_cons (dg_name 3 sc_best_two.nd) (dgs_cons (dg_name 4 sc_best_two.nd) dgs_nil)))) (fun _ _ _ _ _ => dts_nil) (fun _ _ _ _ _ => (de_tup (da_cons (de_call D_side_of_two hr takes0 (db_cons (db_slot 0) (db_cons (db_slot 4) db_nil))) (da_cons (de_var 3) da_nil)))) (sw_true rfl rfl rfl (by decide +kernel)))
  (dss_cons (ds_asg (de_callB (cr_minT rfl (units1 hr)) c_minT (by decide +kernel) rfl T.b_min (dv_cons (dv_at 1) dv_nil)) (dg_tup 2 rfl (dgs_cons (dg_name 2 sc_best_two.nd) (dgs_cons (dg_name 3 sc_best_two.nd) dgs_nil))))
  (dss_one (ds_ret (de_tup (da_cons (de_ix ix_seq s_ix (fun _ _ => rfl) (dv_of (de_fz (de_call D_corners hr tk (db_cons (db_slot 0) db_nil)))) (dv_at 3)) (da_cons (de_mv 2) da_nil)))))))
abbrev st_square_least : Stmt := topS 17
theorem sc_square_least : FnScope ["folk", "many", "first", "last"] ["folk", "many"] (defScope st_square_least) := ⟨rfl, rfl, rfl, by decide +kernel, rfl, by decide +kernel, by decide +kernel⟩
theorem ok_square_least {P : Program} {w : World} {K : PySem.W.Frag} {mg : Mg} {base : Heap} (T : Txt mg) {f : Addr} {fd : FuncData} (F : Fun K "square_least" "square_least" st_square_least f fd) (D_look_at_two : Def P w K mg base "look_at_two" 1 φ_look_at_two 2) (D_corners : Def P w K mg base "corners" 1 φ_corners 1) (D_lowest : Def P w K mg base "lowest" 2 φ_lowest 2) (D_best_two : Def P w K mg base "best_two" 1 φ_best_two 3) :
    FnOk P w K mg base (L2.CX P w) 4 f fd ["folk", "many"] (spD K mg 2 φ_square_least) :=
  fn_ok [0, 1] F sc_square_least (by decide) fun cdv A outer s H E hr =>
  have tk := takes_of (X := cxOf (L2.CX P w) P w K mg base ["folk", "many", "first", "last"] "square_least" (defScope st_square_least) f cdv A outer s H E) (E := E) rfl rfl rfl rfl
  have po := passes_of (X := cxOf (L2.CX P w) P w K mg base ["folk", "many", "first", "last"] "square_least" (defScope st_square_least) f cdv A outer s H E) rfl
  (dss_cons (ds_exp (de_call D_look_at_two hr tk (db_cons (db_slot 1) db_nil)))
  (dss_cons (ds_if (dt_cmp (op_eqD hr.units) s_eq (nomark _) (dv_of (de_callB call_len c_len PySem.boot_len rfl T.b_len (dv_cons (dv_at 0) dv_nil))) (dv_of de_int)) (dss_one (ds_ret (de_tup (da_cons de_int (da_cons de_int da_nil))))) dss_nil)
  (dss_cons (ds_if (dt_cmp (op_eqD hr.units) s_eq (nomark _) (dv_at 1) (dv_of de_int)) (dss_cons (ds_asg (de_ix ix_seq s_ix (fun _ _ => rfl) (dv_of (de_fz (de_call D_corners hr tk (db_cons (db_slot 0) db_nil)))) (dv_of de_int)) (dg_tup 2 rfl (dgs_cons (dg_name 2 sc_square_least.nd) (dgs_cons (dg_name 3 sc_square_least.nd) dgs_nil))))
  (dss_one (ds_ret (de_call D_lowest hr tk (db_cons (db_val (de_callB (call_max2 rfl) c_max2 (by decide +kernel) rfl T.b_max (dv_cons (dv_of (de_bin op_sub s_sub (dv_of (de_ix ix_seq s_ix (fun _ _ => rfl) (dv_at 3) (dv_of de_int))) (dv_of (de_ix ix_seq s_ix (fun _ _ => rfl) (dv_at 2) (dv_of de_int))))) (dv_cons (dv_of (de_bin op_sub s_sub (dv_of (de_ix ix_seq s_ix (fun _ _ => rfl) (dv_at 3) (dv_of de_int))) (dv_of (de_ix ix_seq s_ix (fun _ _ => rfl) (dv_at 2) (dv_of de_int))))) dv_nil)))) (db_cons (db_val de_int) db_nil)))))) dss_nil)
  (dss_one (ds_ret (de_call D_lowest hr tk (db_cons (db_val (de_ix ix_seq s_ix (fun _ _ => rfl) (dv_of (de_fz (de_call D_best_two hr tk (db_cons (db_slot 0) db_nil)))) (dv_of de_int))) (db_cons (db_val de_int) db_nil))))))))
abbrev st_law_fraction : Stmt := topS 24
theorem sc_law_fraction : FnScope ["_law_told", "_law_one"] ["_law_told"] (defScope st_law_fraction) := ⟨rfl, rfl, rfl, by decide +kernel, rfl, by decide +kernel, by decide +kernel⟩
theorem ok_law_fraction {P : Program} {w : World} {K : PySem.W.Frag} {mg : Mg} {base : Heap} (T : Txt mg) {f : Addr} {fd : FuncData} (F : Fun K "_law_fraction" "_law_fraction" st_law_fraction f fd) (D_law_shared : Def P w K mg base "_law_shared" 2 φ_law_shared 1) :
    FnOk P w K mg base (L2.CX P w) 2 f fd ["_law_told"] (spD K mg 1 φ_law_fraction) :=
  fn_ok [0] F sc_law_fraction (by decide) fun cdv A outer s H E hr =>
  have tk := takes_of (X := cxOf (L2.CX P w) P w K mg base ["_law_told", "_law_one"] "_law_fraction" (defScope st_law_fraction) f cdv A outer s H E) (E := E) rfl rfl rfl rfl
  have po := passes_of (X := cxOf (L2.CX P w) P w K mg base ["_law_told", "_law_one"] "_law_fraction" (defScope st_law_fraction) f cdv A outer s H E) rfl
  (dss_cons (ds_if (dt_w (dw_or (dt_not (dt_of (de_isi (T := "tuple") (by decide +kernel) rfl T.b_tuple rfl T.b_isinstance (dv_at 0)))) (dw_or1 (dt_cmp (op_neD hr.units) s_ne (nomark _) (dv_of (de_callB call_len c_len PySem.boot_len rfl T.b_len (dv_cons (dv_at 0) dv_nil))) (dv_of de_int))))) (dss_one (ds_ret de_bl)) dss_nil)
  (dss_cons (ds_if (dt_cmp (op_neD hr.units) s_ne (nomark _) (dv_of (de_lcA 2 [("_law_one", 1)] rfl sc_law_fraction.nd (blkOk_by (by (show L2.blkC ["_law_told", "_law_one"] (defScope st_law_fraction) _ _ = true); decide +kernel)) (dia_name 0) (fun _ _ _ _ _ => (dg_name 1 sc_law_fraction.nd)) (fun _ _ _ _ _ => (dts_one (dt_w (dw_or (dt_of (de_isi (T := "bool") (by decide +kernel) rfl T.b_bool rfl T.b_isinstance (dv_at 1))) (dw_or1 (dt_not (dt_of (de_isi (T := "int") (by decide +kernel) rfl T.b_int rfl T.b_isinstance (dv_at 1))))))))) (fun _ _ _ _ _ => (de_var 1)))) (dv_of (de_lst da_nil))) (dss_one (ds_ret de_bl)) dss_nil)
  (dss_one (ds_ret (de_and (de_cmp op_gt s_gt (nomark _) (dv_of (de_ix ix_seq s_ix (fun _ _ => rfl) (dv_at 0) (dv_of de_int))) (dv_of de_int)) (de_one (de_cmp (op_eqD hr.units) s_eq (nomark _) (dv_of (de_call D_law_shared hr tk (db_cons (db_val (de_ix ix_seq s_ix (fun _ _ => rfl) (dv_at 0) (dv_of de_int))) (db_cons (db_val (de_ix ix_seq s_ix (fun _ _ => rfl) (dv_at 0) (dv_of de_int))) db_nil)))) (dv_of de_int))))))))
abbrev st_middle : Stmt := topS 13
theorem sc_middle : FnScope ["corner", "across", "side", "found", "at", "turn"] ["corner", "across", "side"] (defScope st_middle) := ⟨rfl, rfl, rfl, by decide +kernel, rfl, by decide +kernel, by decide +kernel⟩
theorem ok_middle {P : Program} {w : World} {K : PySem.W.Frag} {mg : Mg} {base : Heap} (T : Txt mg) {f : Addr} {fd : FuncData} (F : Fun K "middle" "middle" st_middle f fd) (D_lowest : Def P w K mg base "lowest" 2 φ_lowest 2) :
    FnOk P w K mg base (L2.CX P w) 3 f fd ["corner", "across", "side"] (spD K mg 3 φ_middle) :=
  fn_ok [0, 1, 2] F sc_middle (by decide) fun cdv A outer s H E hr =>
  have tk := takes_of (X := cxOf (L2.CX P w) P w K mg base ["corner", "across", "side", "found", "at", "turn"] "middle" (defScope st_middle) f cdv A outer s H E) (E := E) rfl rfl rfl rfl
  have po := passes_of (X := cxOf (L2.CX P w) P w K mg base ["corner", "across", "side", "found", "at", "turn"] "middle" (defScope st_middle) f cdv A outer s H E) rfl
  (dss_cons (ds_set 3 sc_middle.nd (de_lst da_nil))
  (dss_cons (ds_for po rfl (di_seq (de_lst (da_cons de_int (da_cons de_int da_nil)))) (dg_name 4 sc_middle.nd) (dss_fgt [4, 5] (dss_cons (ds_set 5 sc_middle.nd de_int)
  (dss_cons (ds_if (dt_cmp op_lt s_lt (nomark _) (dv_of (de_ix ix_seq s_ix (fun _ _ => rfl) (dv_at 1) (dv_at 4))) (dv_of (de_ix ix_seq s_ix (fun _ _ => rfl) (dv_at 0) (dv_at 4)))) (dss_one (ds_set 5 sc_middle.nd (de_un un_neg s_neg (dv_of de_int)))) dss_nil)
  (dss_one (ds_exp (de_mut 3 PySem.F.slot_list_append PySem.F.type_list_append mt_append m_append (da_cons (de_call D_lowest hr tk (db_cons (db_val (de_bin op_addD s_add (dv_of (de_bin op_mulD s_mul (dv_of de_int) (dv_of (de_ix ix_seq s_ix (fun _ _ => rfl) (dv_at 0) (dv_at 4))))) (dv_of (de_bin op_mulD s_mul (dv_at 5) (dv_at 2))))) (db_cons (db_val de_int) db_nil))) da_nil))))))))
  (dss_one (ds_ret (de_callT call_tuple_of c_tuple (by decide +kernel) rfl T.b_tuple (dv_cons (dv_at 3) dv_nil))))))
abbrev st_is_below : Stmt := topS 6
theorem sc_is_below : FnScope ["one", "other"] ["one", "other"] (defScope st_is_below) := ⟨rfl, rfl, rfl, by decide +kernel, rfl, by decide +kernel, by decide +kernel⟩
theorem ok_is_below {P : Program} {w : World} {K : PySem.W.Frag} {mg : Mg} {base : Heap} (T : Txt mg) {f : Addr} {fd : FuncData} (F : Fun K "is_below" "is_below" st_is_below f fd)  :
    FnOk P w K mg base (L2.CX P w) 1 f fd ["one", "other"] (spD K mg 2 φ_is_below) :=
  fn_ok [0, 1] F sc_is_below (by decide) fun cdv A outer s H E hr =>
  have tk := takes_of (X := cxOf (L2.CX P w) P w K mg base ["one", "other"] "is_below" (defScope st_is_below) f cdv A outer s H E) (E := E) rfl rfl rfl rfl
  have po := passes_of (X := cxOf (L2.CX P w) P w K mg base ["one", "other"] "is_below" (defScope st_is_below) f cdv A outer s H E) rfl
  (dss_one (ds_ret (de_cmp op_lt s_lt (nomark _) (dv_of (de_bin op_mulD s_mul (dv_of (de_ix ix_seq s_ix (fun _ _ => rfl) (dv_at 0) (dv_of de_int))) (dv_of (de_ix ix_seq s_ix (fun _ _ => rfl) (dv_at 1) (dv_of de_int))))) (dv_of (de_bin op_mulD s_mul (dv_of (de_ix ix_seq s_ix (fun _ _ => rfl) (dv_at 1) (dv_of de_int))) (dv_of (de_ix ix_seq s_ix (fun _ _ => rfl) (dv_at 0) (dv_of de_int))))))))
abbrev st_square_posts : Stmt := topS 16
theorem sc_square_posts : FnScope ["folk", "many", "first", "last", "across", "side", "one", "other"] ["folk", "many"] (defScope st_square_posts) := ⟨rfl, rfl, rfl, by decide +kernel, rfl, by decide +kernel, by decide +kernel⟩
theorem ok_square_posts {P : Program} {w : World} {K : PySem.W.Frag} {mg : Mg} {base : Heap} (T : Txt mg) {f : Addr} {fd : FuncData} (F : Fun K "square_posts" "square_posts" st_square_posts f fd) (D_look_at_two : Def P w K mg base "look_at_two" 1 φ_look_at_two 2) (D_corners : Def P w K mg base "corners" 1 φ_corners 1) (D_lowest : Def P w K mg base "lowest" 2 φ_lowest 2) (D_best_two : Def P w K mg base "best_two" 1 φ_best_two 3) (D_middle : Def P w K mg base "middle" 3 φ_middle 3) (D_is_below : Def P w K mg base "is_below" 2 φ_is_below 1) :
    FnOk P w K mg base (L2.CX P w) 4 f fd ["folk", "many"] (spD K mg 2 φ_square_posts) :=
  fn_ok [0, 1] F sc_square_posts (by decide) fun cdv A outer s H E hr =>
  have tk := takes_of (X := cxOf (L2.CX P w) P w K mg base ["folk", "many", "first", "last", "across", "side", "one", "other"] "square_posts" (defScope st_square_posts) f cdv A outer s H E) (E := E) rfl rfl rfl rfl
  have po := passes_of (X := cxOf (L2.CX P w) P w K mg base ["folk", "many", "first", "last", "across", "side", "one", "other"] "square_posts" (defScope st_square_posts) f cdv A outer s H E) rfl
  (dss_cons (ds_exp (de_call D_look_at_two hr tk (db_cons (db_slot 1) db_nil)))
  (dss_cons (ds_if (dt_cmp (op_eqD hr.units) s_eq (nomark _) (dv_of (de_callB call_len c_len PySem.boot_len rfl T.b_len (dv_cons (dv_at 0) dv_nil))) (dv_of de_int)) (dss_one (ds_ret (de_lst da_nil))) dss_nil)
  (dss_cons (ds_asg (de_ix ix_seq s_ix (fun _ _ => rfl) (dv_of (de_fz (de_call D_corners hr tk (db_cons (db_slot 0) db_nil)))) (dv_of de_int)) (dg_tup 2 rfl (dgs_cons (dg_name 2 sc_square_posts.nd) (dgs_cons (dg_name 3 sc_square_posts.nd) dgs_nil))))
  (dss_cons (ds_if (dt_cmp (op_eqD hr.units) s_eq (nomark _) (dv_at 1) (dv_of de_int)) (dss_one (ds_ret (de_lst (da_cons (de_tup (da_cons (de_call D_lowest hr tk (db_cons (db_val (de_bin op_addD s_add (dv_of (de_ix ix_seq s_ix (fun _ _ => rfl) (dv_at 2) (dv_of de_int))) (dv_of (de_ix ix_seq s_ix (fun _ _ => rfl) (dv_at 3) (dv_of de_int))))) (db_cons (db_val de_int) db_nil))) (da_cons (de_call D_lowest hr tk (db_cons (db_val (de_bin op_addD s_add (dv_of (de_ix ix_seq s_ix (fun _ _ => rfl) (dv_at 2) (dv_of de_int))) (dv_of (de_ix ix_seq s_ix (fun _ _ => rfl) (dv_at 3) (dv_of de_int))))) (db_cons (db_val de_int) db_nil))) da_nil))) da_nil)))) dss_nil)
  (dss_cons (ds_asg (de_call D_best_two hr tk (db_cons (db_slot 0) db_nil)) (dg_tup 2 rfl (dgs_cons (dg_name 4 sc_square_posts.nd) (dgs_cons (dg_name 5 sc_square_posts.nd) dgs_nil))))
  (dss_cons (ds_set 6 sc_square_posts.nd (de_call D_middle hr tk (db_cons (db_val (de_ix ix_seq s_ix (fun _ _ => rfl) (dv_at 4) (dv_of de_int))) (db_cons (db_val (de_ix ix_seq s_ix (fun _ _ => rfl) (dv_at 4) (dv_of de_int))) (db_cons (db_slot 5) db_nil)))))
  (dss_cons (ds_set 7 sc_square_posts.nd (de_call D_middle hr tk (db_cons (db_val (de_ix ix_seq s_ix (fun _ _ => rfl) (dv_at 4) (dv_of de_int))) (db_cons (db_val (de_ix ix_seq s_ix (fun _ _ => rfl) (dv_at 4) (dv_of de_int))) (db_cons (db_slot 5) db_nil)))))
  (dss_cons (ds_if (dt_cmp (op_eqD hr.units) s_eq (nomark _) (dv_at 6) (dv_at 7)) (dss_one (ds_ret (de_lst (da_cons (de_mv 6) da_nil)))) dss_nil)
  (dss_cons (ds_if (dt_w (dw_or (dt_of (de_call D_is_below hr tk (db_cons (db_val (de_ix ix_seq s_ix (fun _ _ => rfl) (dv_at 7) (dv_of de_int))) (db_cons (db_val (de_ix ix_seq s_ix (fun _ _ => rfl) (dv_at 6) (dv_of de_int))) db_nil)))) (dw_or1 (dt_w (dw_and (dt_cmp (op_eqD hr.units) s_eq (nomark _) (dv_of (de_ix ix_seq s_ix (fun _ _ => rfl) (dv_at 7) (dv_of de_int))) (dv_of (de_ix ix_seq s_ix (fun _ _ => rfl) (dv_at 6) (dv_of de_int)))) (dw_and1 (dt_of (de_call D_is_below hr tk (db_cons (db_val (de_ix ix_seq s_ix (fun _ _ => rfl) (dv_at 7) (dv_of de_int))) (db_cons (db_val (de_ix ix_seq s_ix (fun _ _ => rfl) (dv_at 6) (dv_of de_int))) db_nil)))))))))) (dss_one (ds_ret (de_lst (da_cons (de_mv 7) (da_cons (de_mv 6) da_nil))))) dss_nil)
  (dss_one (ds_ret (de_lst (da_cons (de_mv 6) (da_cons (de_mv 7) da_nil))))))))))))))
abbrev st_law_less : Stmt := topS 23
theorem sc_law_less : FnScope ["_law_one", "_law_other"] ["_law_one", "_law_other"] (defScope st_law_less) := ⟨rfl, rfl, rfl, by decide +kernel, rfl, by decide +kernel, by decide +kernel⟩
theorem ok_law_less {P : Program} {w : World} {K : PySem.W.Frag} {mg : Mg} {base : Heap} (T : Txt mg) {f : Addr} {fd : FuncData} (F : Fun K "_law_less" "_law_less" st_law_less f fd)  :
    FnOk P w K mg base (L2.CX P w) 1 f fd ["_law_one", "_law_other"] (spD K mg 2 φ_law_less) :=
  fn_ok [0, 1] F sc_law_less (by decide) fun cdv A outer s H E hr =>
  have tk := takes_of (X := cxOf (L2.CX P w) P w K mg base ["_law_one", "_law_other"] "_law_less" (defScope st_law_less) f cdv A outer s H E) (E := E) rfl rfl rfl rfl
  have po := passes_of (X := cxOf (L2.CX P w) P w K mg base ["_law_one", "_law_other"] "_law_less" (defScope st_law_less) f cdv A outer s H E) rfl
  (dss_one (ds_ret (de_cmp op_lt s_lt (nomark _) (dv_of (de_bin op_mulD s_mul (dv_of (de_ix ix_seq s_ix (fun _ _ => rfl) (dv_at 0) (dv_of de_int))) (dv_of (de_ix ix_seq s_ix (fun _ _ => rfl) (dv_at 1) (dv_of de_int))))) (dv_of (de_bin op_mulD s_mul (dv_of (de_ix ix_seq s_ix (fun _ _ => rfl) (dv_at 1) (dv_of de_int))) (dv_of (de_ix ix_seq s_ix (fun _ _ => rfl) (dv_at 0) (dv_of de_int))))))))
abbrev st_law_way : Stmt := topS 27
theorem sc_law_way : FnScope ["_law_place", "_law_post", "_law_ways", "_law_at", "_law_top", "_law_bottom"] ["_law_place", "_law_post"] (defScope st_law_way) := ⟨rfl, rfl, rfl, by decide +kernel, rfl, by decide +kernel, by decide +kernel⟩
theorem ok_law_way {P : Program} {w : World} {K : PySem.W.Frag} {mg : Mg} {base : Heap} (T : Txt mg) {f : Addr} {fd : FuncData} (F : Fun K "_law_way" "_law_way" st_law_way f fd) (D_law_lowest : Def P w K mg base "_law_lowest" 2 φ_law_lowest 2) (D_law_less : Def P w K mg base "_law_less" 2 φ_law_less 1) :
    FnOk P w K mg base (L2.CX P w) 3 f fd ["_law_place", "_law_post"] (spD K mg 2 φ_law_way) :=
  fn_ok [0, 1] F sc_law_way (by decide) fun cdv A outer s H E hr =>
  have tk := takes_of (X := cxOf (L2.CX P w) P w K mg base ["_law_place", "_law_post", "_law_ways", "_law_at", "_law_top", "_law_bottom"] "_law_way" (defScope st_law_way) f cdv A outer s H E) (E := E) rfl rfl rfl rfl
  have po := passes_of (X := cxOf (L2.CX P w) P w K mg base ["_law_place", "_law_post", "_law_ways", "_law_at", "_law_top", "_law_bottom"] "_law_way" (defScope st_law_way) f cdv A outer s H E) rfl
  (dss_cons (ds_set 2 sc_law_way.nd (de_lst da_nil))
  (dss_cons (ds_for po rfl (di_seq (de_lst (da_cons de_int (da_cons de_int da_nil)))) (dg_name 3 sc_law_way.nd) (dss_fgt [3, 4, 5] (dss_cons (ds_asg (de_ix ix_seq s_ix (fun _ _ => rfl) (dv_at 1) (dv_at 3)) (dg_tup 2 rfl (dgs_cons (dg_name 4 sc_law_way.nd) (dgs_cons (dg_name 5 sc_law_way.nd) dgs_nil))))
  (dss_one (ds_exp (de_mut 2 PySem.F.slot_list_append PySem.F.type_list_append mt_append m_append (da_cons (de_call D_law_lowest hr tk (db_cons (db_val (de_callB call_abs c_abs (by decide +kernel) rfl T.b_abs (dv_cons (dv_of (de_bin op_sub s_sub (dv_of (de_bin op_mulD s_mul (dv_of (de_ix ix_seq s_ix (fun _ _ => rfl) (dv_at 0) (dv_at 3))) (dv_at 5))) (dv_at 4))) dv_nil))) (db_cons (db_slot 5) db_nil))) da_nil)))))))
  (dss_one (ds_ret (de_ix ix_seq s_ix (fun _ _ => rfl) (dv_at 2) (dv_of (de_callT call_int1 c_int (by decide +kernel) rfl T.b_int (dv_cons (dv_of (de_call D_law_less hr tk (db_cons (db_val (de_ix ix_seq s_ix (fun _ _ => rfl) (dv_at 2) (dv_of de_int))) (db_cons (db_val (de_ix ix_seq s_ix (fun _ _ => rfl) (dv_at 2) (dv_of de_int))) db_nil)))) dv_nil))))))))
abbrev st_law_square_reach : Stmt := topS 28
theorem sc_law_square_reach : FnScope ["_law_folk", "_law_posts_here", "_law_most", "_law_place", "_law_least", "_law_post"] ["_law_folk", "_law_posts_here"] (defScope st_law_square_reach) := ⟨rfl, rfl, rfl, by decide +kernel, rfl, by decide +kernel, by decide +kernel⟩
theorem ok_law_square_reach {P : Program} {w : World} {K : PySem.W.Frag} {mg : Mg} {base : Heap} (T : Txt mg) {f : Addr} {fd : FuncData} (F : Fun K "_law_square_reach" "_law_square_reach" st_law_square_reach f fd) (D_law_way : Def P w K mg base "_law_way" 2 φ_law_way 3) (D_law_less : Def P w K mg base "_law_less" 2 φ_law_less 1) :
    FnOk P w K mg base (L2.CX P w) 4 f fd ["_law_folk", "_law_posts_here"] (spD K mg 2 φ_law_square_reach) :=
  fn_ok [0, 1] F sc_law_square_reach (by decide) fun cdv A outer s H E hr =>
  have tk := takes_of (X := cxOf (L2.CX P w) P w K mg base ["_law_folk", "_law_posts_here", "_law_most", "_law_place", "_law_least", "_law_post"] "_law_square_reach" (defScope st_law_square_reach) f cdv A outer s H E) (E := E) rfl rfl rfl rfl
  have po := passes_of (X := cxOf (L2.CX P w) P w K mg base ["_law_folk", "_law_posts_here", "_law_most", "_law_place", "_law_least", "_law_post"] "_law_square_reach" (defScope st_law_square_reach) f cdv A outer s H E) rfl
  (dss_cons (ds_set 2 sc_law_square_reach.nd (de_tup (da_cons de_int (da_cons de_int da_nil))))
  (dss_cons (ds_forA po rfl (dia_name 0) (dg_name 3 sc_law_square_reach.nd) (dss_fgt [3, 4, 5] (dss_cons (ds_set 4 sc_law_square_reach.nd (de_call D_law_way hr tk (db_cons (db_slot 3) (db_cons (db_val (de_ix ix_seq s_ix (fun _ _ => rfl) (dv_at 1) (dv_of de_int))) db_nil))))
  (dss_cons (ds_forA po rfl (dia_name 1) (dg_name 5 sc_law_square_reach.nd) (dss_fgt [5] (dss_one (ds_if (dt_of (de_call D_law_less hr tk (db_cons (db_val (de_call D_law_way hr tk (db_cons (db_slot 3) (db_cons (db_slot 5) db_nil)))) (db_cons (db_slot 4) db_nil)))) (dss_one (ds_set 4 sc_law_square_reach.nd (de_call D_law_way hr tk (db_cons (db_slot 3) (db_cons (db_slot 5) db_nil))))) dss_nil))))
  (dss_one (ds_if (dt_of (de_call D_law_less hr tk (db_cons (db_slot 2) (db_cons (db_slot 4) db_nil)))) (dss_one (ds_set 2 sc_law_square_reach.nd (de_var 4))) dss_nil))))))
  (dss_one (ds_ret (de_mv 2)))))
abbrev st_law_posts : Stmt := topS 31
theorem sc_law_posts : FnScope ["_law_folk", "_law_posts_here", "_law_many", "_law_reach", "_law_post", "_law_k", "_law_one", "_law_other"] ["_law_folk", "_law_posts_here", "_law_many", "_law_reach"] (defScope st_law_posts) := ⟨rfl, rfl, rfl, by decide +kernel, rfl, by decide +kernel, by decide +kernel⟩
theorem ok_law_posts {P : Program} {w : World} {K : PySem.W.Frag} {mg : Mg} {base : Heap} (T : Txt mg) {f : Addr} {fd : FuncData} (F : Fun K "_law_posts" "_law_posts" st_law_posts f fd) (D_law_fraction : Def P w K mg base "_law_fraction" 1 φ_law_fraction 2) (D_law_less : Def P w K mg base "_law_less" 2 φ_law_less 1) (D_law_square_reach : Def P w K mg base "_law_square_reach" 2 φ_law_square_reach 4) :
    FnOk P w K mg base (L2.CX P w) 5 f fd ["_law_folk", "_law_posts_here", "_law_many", "_law_reach"] (spD K mg 4 φ_law_posts) :=
  fn_ok [0, 1, 2, 3] F sc_law_posts (by decide) fun cdv A outer s H E hr =>
  have tk := takes_of (X := cxOf (L2.CX P w) P w K mg base ["_law_folk", "_law_posts_here", "_law_many", "_law_reach", "_law_post", "_law_k", "_law_one", "_law_other"] "_law_posts" (defScope st_law_posts) f cdv A outer s H E) (E := E) rfl rfl rfl rfl
  have po := passes_of (X := cxOf (L2.CX P w) P w K mg base ["_law_folk", "_law_posts_here", "_law_many", "_law_reach", "_law_post", "_law_k", "_law_one", "_law_other"] "_law_posts" (defScope st_law_posts) f cdv A outer s H E) rfl
  (dss_cons (ds_if (dt_w (dw_or (dt_not (dt_of (de_isi (T := "list") (by decide +kernel) rfl T.b_list rfl T.b_isinstance (dv_at 1)))) (dw_or (dt_cmp op_gt s_gt (nomark _) (dv_of (de_callB call_len c_len PySem.boot_len rfl T.b_len (dv_cons (dv_at 1) dv_nil))) (dv_at 2)) (dw_or1 (dt_cmp (op_neD hr.units) s_ne (nomark _) (dv_of (de_cmp (op_eqD hr.units) s_eq (nomark _) (dv_at 1) (dv_of (de_lst da_nil)))) (dv_of (de_cmp (op_eqD hr.units) s_eq (nomark _) (dv_at 0) (dv_of (de_lst da_nil))))))))) (dss_one (ds_ret de_bl)) dss_nil)
  (dss_cons (ds_forA po rfl (dia_name 1) (dg_name 4 sc_law_posts.nd) (dss_fgt [4] (dss_one (ds_if (dt_w (dw_or (dt_not (dt_of (de_isi (T := "tuple") (by decide +kernel) rfl T.b_tuple rfl T.b_isinstance (dv_at 4)))) (dw_or (dt_cmp (op_neD hr.units) s_ne (nomark _) (dv_of (de_callB call_len c_len PySem.boot_len rfl T.b_len (dv_cons (dv_at 4) dv_nil))) (dv_of de_int)) (dw_or (dt_not (dt_of (de_call D_law_fraction hr tk (db_cons (db_val (de_ix ix_seq s_ix (fun _ _ => rfl) (dv_at 4) (dv_of de_int))) db_nil)))) (dw_or1 (dt_not (dt_of (de_call D_law_fraction hr tk (db_cons (db_val (de_ix ix_seq s_ix (fun _ _ => rfl) (dv_at 4) (dv_of de_int))) db_nil))))))))) (dss_one (ds_ret de_bl)) dss_nil))))
  (dss_cons (ds_for po rfl (di_rng2 rfl T.b_range (dv_cons (dv_of de_int) (dv_cons (dv_of (de_callB call_len c_len PySem.boot_len rfl T.b_len (dv_cons (dv_at 1) dv_nil))) dv_nil))) (dg_name 5 sc_law_posts.nd) (dss_fgt [5, 6, 7] (dss_cons (ds_set 6 sc_law_posts.nd (de_ix ix_seq s_ix (fun _ _ => rfl) (dv_at 1) (dv_of (de_bin op_sub s_sub (dv_at 5) (dv_of de_int)))))
  (dss_cons (ds_set 7 sc_law_posts.nd (de_ix ix_seq s_ix (fun _ _ => rfl) (dv_at 1) (dv_at 5)))
  (dss_one (ds_if (dt_w (dw_and (dt_not (dt_of (de_call D_law_less hr tk (db_cons (db_val (de_ix ix_seq s_ix (fun _ _ => rfl) (dv_at 6) (dv_of de_int))) (db_cons (db_val (de_ix ix_seq s_ix (fun _ _ => rfl) (dv_at 7) (dv_of de_int))) db_nil))))) (dw_and1 (dt_w (dw_or (dt_cmp (op_neD hr.units) s_ne (nomark _) (dv_of (de_ix ix_seq s_ix (fun _ _ => rfl) (dv_at 6) (dv_of de_int))) (dv_of (de_ix ix_seq s_ix (fun _ _ => rfl) (dv_at 7) (dv_of de_int)))) (dw_or1 (dt_not (dt_of (de_call D_law_less hr tk (db_cons (db_val (de_ix ix_seq s_ix (fun _ _ => rfl) (dv_at 6) (dv_of de_int))) (db_cons (db_val (de_ix ix_seq s_ix (fun _ _ => rfl) (dv_at 7) (dv_of de_int))) db_nil))))))))))) (dss_one (ds_ret de_bl)) dss_nil))))))
  (dss_one (ds_ret (de_or (de_cmp (op_eqD hr.units) s_eq (nomark _) (dv_at 0) (dv_of (de_lst da_nil))) (de_one (de_cmp (op_eqD hr.units) s_eq (nomark _) (dv_of (de_call D_law_square_reach hr tk (db_cons (db_slot 0) (db_cons (db_slot 1) db_nil)))) (dv_at 3)))))))))
abbrev st_law : Stmt := topS 32
theorem sc_law : FnScope ["_law_script", "_law_folk", "_law_handed", "_law_many", "_law_due", "_law_told", "_law_posts_here"] ["_law_script"] (defScope st_law) := ⟨rfl, rfl, rfl, by decide +kernel, rfl, by decide +kernel, by decide +kernel⟩
theorem ok_law {P : Program} {w : World} {K : PySem.W.Frag} {mg : Mg} {base : Heap} (T : Txt mg) {f : Addr} {fd : FuncData} (F : Fun K "law" "law" st_law f fd) (D_law_plane : Def P w K mg base "_law_plane" 3 φ_law_plane 2) (D_law_lowest : Def P w K mg base "_law_lowest" 2 φ_law_lowest 2) (D_law_two : Def P w K mg base "_law_two" 1 φ_law_two 2) (D_law_side : Def P w K mg base "_law_side" 1 φ_law_side 1) (D_square_least : Def P w K mg base "square_least" 2 φ_square_least 4) (D_law_fraction : Def P w K mg base "_law_fraction" 1 φ_law_fraction 2) (D_square_posts : Def P w K mg base "square_posts" 2 φ_square_posts 4) (D_law_posts : Def P w K mg base "_law_posts" 4 φ_law_posts 5) :
    FnOk P w K mg base (L2.CX P w) 6 f fd ["_law_script"] (spD K mg 1 φ_law) :=
  fn_ok [0] F sc_law (by decide) fun cdv A outer s H E hr =>
  have tk := takes_of (X := cxOf (L2.CX P w) P w K mg base ["_law_script", "_law_folk", "_law_handed", "_law_many", "_law_due", "_law_told", "_law_posts_here"] "law" (defScope st_law) f cdv A outer s H E) (E := E) rfl rfl rfl rfl
  have po := passes_of (X := cxOf (L2.CX P w) P w K mg base ["_law_script", "_law_folk", "_law_handed", "_law_many", "_law_due", "_law_told", "_law_posts_here"] "law" (defScope st_law) f cdv A outer s H E) rfl
  (dss_cons (ds_set 1 sc_law.nd (de_call D_law_plane hr tk (db_cons (db_slot 0) (db_cons (db_val de_int) (db_cons (db_val de_int) db_nil)))))
  (dss_cons (ds_set 2 sc_law.nd (de_callT call_list_of c_list (by decide +kernel) rfl T.b_list (dv_cons (dv_at 1) dv_nil)))
  (dss_cons (ds_for po rfl (di_seq (de_lst (da_cons de_int (da_cons de_int (da_cons de_int da_nil))))) (dg_name 3 sc_law.nd) (dss_fgt [3, 4, 5, 6] (dss_cons (ds_set 4 sc_law.nd (de_call D_law_lowest hr tk (db_cons (db_val (de_ix ix_seq s_ix (fun _ _ => rfl) (dv_of (de_lst (da_cons (de_call D_law_side hr tk (db_cons (db_slot 1) db_nil)) (da_cons (de_call D_law_two hr tk (db_cons (db_slot 1) db_nil)) da_nil)))) (dv_of (de_bin op_sub s_sub (dv_at 3) (dv_of de_int))))) (db_cons (db_val de_int) db_nil))))
  (dss_cons (ds_set 5 sc_law.nd (de_call D_square_least hr tk (db_cons (db_slot 2) (db_cons (db_slot 3) db_nil))))
  (dss_cons (ds_if (dt_w (dw_or (dt_not (dt_of (de_call D_law_fraction hr tk (db_cons (db_slot 5) db_nil)))) (dw_or1 (dt_cmp (op_neD hr.units) s_ne (nomark _) (dv_at 5) (dv_at 4))))) (dss_one (ds_ret de_bl)) dss_nil)
  (dss_cons (ds_set 6 sc_law.nd (de_call D_square_posts hr tk (db_cons (db_slot 2) (db_cons (db_slot 3) db_nil))))
  (dss_cons (ds_if (dt_not (dt_of (de_call D_law_posts hr tk (db_cons (db_slot 1) (db_cons (db_slot 6) (db_cons (db_slot 3) (db_cons (db_slot 4) db_nil))))))) (dss_one (ds_ret de_bl)) dss_nil)
  (dss_cons (ds_exp (de_mut0 6 PySem.F.slot_list_clear PySem.F.type_list_clear mt_clear m_clear))
  (dss_one (ds_if (dt_w (dw_or (dt_not (dt_of (de_call D_law_posts hr tk (db_cons (db_slot 1) (db_cons (db_val (de_call D_square_posts hr tk (db_cons (db_slot 2) (db_cons (db_slot 3) db_nil)))) (db_cons (db_slot 3) (db_cons (db_slot 4) db_nil))))))) (dw_or1 (dt_cmp (op_neD hr.units) s_ne (nomark _) (dv_at 2) (dv_at 1))))) (dss_one (ds_ret de_bl)) dss_nil))))))))))
  (dss_one (ds_ret de_bl)))))
end Lw

namespace Lw
open PySem PySem.Spec PyProof.Rows L2 DL
theorem all_mk {l : PySem.W.OpenLaw} {w : World} {K : PySem.W.Frag} {h : Heap} {mg : Str → Option Value} {fa f0 f1 f2 f3 f4 f5 f6 f7 f8 f9 f10 f11 f12 f13 f14 f15 f16 f17 f18 f19 f20 f21 f22 f23 f24  : Addr} (X : K.In h) (G : h.Ns mainGlobals mg) (hfa : mg "law" = some (.ref fa))
    {od0 an0 : Option Addr} {sl0 : Array (Option Value)} {oc0 kV0 dc0 pm0 cd0 ct0 : Value}
    {od1 an1 : Option Addr} {sl1 : Array (Option Value)} {oc1 kV1 dc1 pm1 cd1 ct1 : Value}
    {od2 an2 : Option Addr} {sl2 : Array (Option Value)} {oc2 kV2 dc2 pm2 cd2 ct2 : Value}
    {od3 an3 : Option Addr} {sl3 : Array (Option Value)} {oc3 kV3 dc3 pm3 cd3 ct3 : Value}
    {od4 an4 : Option Addr} {sl4 : Array (Option Value)} {oc4 kV4 dc4 pm4 cd4 ct4 : Value}
    {od5 an5 : Option Addr} {sl5 : Array (Option Value)} {oc5 kV5 dc5 pm5 cd5 ct5 : Value}
    {od6 an6 : Option Addr} {sl6 : Array (Option Value)} {oc6 kV6 dc6 pm6 cd6 ct6 : Value}
    {od7 an7 : Option Addr} {sl7 : Array (Option Value)} {oc7 kV7 dc7 pm7 cd7 ct7 : Value}
    {od8 an8 : Option Addr} {sl8 : Array (Option Value)} {oc8 kV8 dc8 pm8 cd8 ct8 : Value}
    {od9 an9 : Option Addr} {sl9 : Array (Option Value)} {oc9 kV9 dc9 pm9 cd9 ct9 : Value}
    {od10 an10 : Option Addr} {sl10 : Array (Option Value)} {oc10 kV10 dc10 pm10 cd10 ct10 : Value}
    {od11 an11 : Option Addr} {sl11 : Array (Option Value)} {oc11 kV11 dc11 pm11 cd11 ct11 : Value}
    {od12 an12 : Option Addr} {sl12 : Array (Option Value)} {oc12 kV12 dc12 pm12 cd12 ct12 : Value}
    {od13 an13 : Option Addr} {sl13 : Array (Option Value)} {oc13 kV13 dc13 pm13 cd13 ct13 : Value}
    {od14 an14 : Option Addr} {sl14 : Array (Option Value)} {oc14 kV14 dc14 pm14 cd14 ct14 : Value}
    {od15 an15 : Option Addr} {sl15 : Array (Option Value)} {oc15 kV15 dc15 pm15 cd15 ct15 : Value}
    {od16 an16 : Option Addr} {sl16 : Array (Option Value)} {oc16 kV16 dc16 pm16 cd16 ct16 : Value}
    {od17 an17 : Option Addr} {sl17 : Array (Option Value)} {oc17 kV17 dc17 pm17 cd17 ct17 : Value}
    {od18 an18 : Option Addr} {sl18 : Array (Option Value)} {oc18 kV18 dc18 pm18 cd18 ct18 : Value}
    {od19 an19 : Option Addr} {sl19 : Array (Option Value)} {oc19 kV19 dc19 pm19 cd19 ct19 : Value}
    {od20 an20 : Option Addr} {sl20 : Array (Option Value)} {oc20 kV20 dc20 pm20 cd20 ct20 : Value}
    {od21 an21 : Option Addr} {sl21 : Array (Option Value)} {oc21 kV21 dc21 pm21 cd21 ct21 : Value}
    {od22 an22 : Option Addr} {sl22 : Array (Option Value)} {oc22 kV22 dc22 pm22 cd22 ct22 : Value}
    {od23 an23 : Option Addr} {sl23 : Array (Option Value)} {oc23 kV23 dc23 pm23 cd23 ct23 : Value}
    {od24 an24 : Option Addr} {sl24 : Array (Option Value)} {oc24 kV24 dc24 pm24 cd24 ct24 : Value}
    (a0 : PySem.W.nsIn K mainGlobals "_law_mix" = some (some (.ref f0)))
    (l0 : K.lookup f0 = some ⟨oc0, od0, .func (PySem.W.fnOf "_law_mix" "_law_mix" (defArgs st_law_mix) (defBody st_law_mix) (defScope st_law_mix) .none kV0 dc0 pm0 an0 cd0 ct0), sl0⟩)
    (c0 : PySem.W.codeIn K cd0 "_law_mix" = true) (k0 : PySem.W.keepIn K (.ref f0) = true)
    (a1 : PySem.W.nsIn K mainGlobals "_law_cell_at" = some (some (.ref f1)))
    (l1 : K.lookup f1 = some ⟨oc1, od1, .func (PySem.W.fnOf "_law_cell_at" "_law_cell_at" (defArgs st_law_cell_at) (defBody st_law_cell_at) (defScope st_law_cell_at) .none kV1 dc1 pm1 an1 cd1 ct1), sl1⟩)
    (c1 : PySem.W.codeIn K cd1 "_law_cell_at" = true) (k1 : PySem.W.keepIn K (.ref f1) = true)
    (a2 : PySem.W.nsIn K mainGlobals "_law_plane" = some (some (.ref f2)))
    (l2 : K.lookup f2 = some ⟨oc2, od2, .func (PySem.W.fnOf "_law_plane" "_law_plane" (defArgs st_law_plane) (defBody st_law_plane) (defScope st_law_plane) .none kV2 dc2 pm2 an2 cd2 ct2), sl2⟩)
    (c2 : PySem.W.codeIn K cd2 "_law_plane" = true) (k2 : PySem.W.keepIn K (.ref f2) = true)
    (a3 : PySem.W.nsIn K mainGlobals "_law_shared" = some (some (.ref f3)))
    (l3 : K.lookup f3 = some ⟨oc3, od3, .func (PySem.W.fnOf "_law_shared" "_law_shared" (defArgs st_law_shared) (defBody st_law_shared) (defScope st_law_shared) .none kV3 dc3 pm3 an3 cd3 ct3), sl3⟩)
    (c3 : PySem.W.codeIn K cd3 "_law_shared" = true) (k3 : PySem.W.keepIn K (.ref f3) = true)
    (a4 : PySem.W.nsIn K mainGlobals "_law_lowest" = some (some (.ref f4)))
    (l4 : K.lookup f4 = some ⟨oc4, od4, .func (PySem.W.fnOf "_law_lowest" "_law_lowest" (defArgs st_law_lowest) (defBody st_law_lowest) (defScope st_law_lowest) .none kV4 dc4 pm4 an4 cd4 ct4), sl4⟩)
    (c4 : PySem.W.codeIn K cd4 "_law_lowest" = true) (k4 : PySem.W.keepIn K (.ref f4) = true)
    (a5 : PySem.W.nsIn K mainGlobals "_law_side" = some (some (.ref f5)))
    (l5 : K.lookup f5 = some ⟨oc5, od5, .func (PySem.W.fnOf "_law_side" "_law_side" (defArgs st_law_side) (defBody st_law_side) (defScope st_law_side) .none kV5 dc5 pm5 an5 cd5 ct5), sl5⟩)
    (c5 : PySem.W.codeIn K cd5 "_law_side" = true) (k5 : PySem.W.keepIn K (.ref f5) = true)
    (a6 : PySem.W.nsIn K mainGlobals "_law_two" = some (some (.ref f6)))
    (l6 : K.lookup f6 = some ⟨oc6, od6, .func (PySem.W.fnOf "_law_two" "_law_two" (defArgs st_law_two) (defBody st_law_two) (defScope st_law_two) .none kV6 dc6 pm6 an6 cd6 ct6), sl6⟩)
    (c6 : PySem.W.codeIn K cd6 "_law_two" = true) (k6 : PySem.W.keepIn K (.ref f6) = true)
    (a7 : PySem.W.nsIn K mainGlobals "look_at_many" = some (some (.ref f7)))
    (l7 : K.lookup f7 = some ⟨oc7, od7, .func (PySem.W.fnOf "look_at_many" "look_at_many" (defArgs st_look_at_many) (defBody st_look_at_many) (defScope st_look_at_many) .none kV7 dc7 pm7 an7 cd7 ct7), sl7⟩)
    (c7 : PySem.W.codeIn K cd7 "look_at_many" = true) (k7 : PySem.W.keepIn K (.ref f7) = true)
    (a8 : PySem.W.nsIn K mainGlobals "look_at_two" = some (some (.ref f8)))
    (l8 : K.lookup f8 = some ⟨oc8, od8, .func (PySem.W.fnOf "look_at_two" "look_at_two" (defArgs st_look_at_two) (defBody st_look_at_two) (defScope st_look_at_two) .none kV8 dc8 pm8 an8 cd8 ct8), sl8⟩)
    (c8 : PySem.W.codeIn K cd8 "look_at_two" = true) (k8 : PySem.W.keepIn K (.ref f8) = true)
    (a9 : PySem.W.nsIn K mainGlobals "corners" = some (some (.ref f9)))
    (l9 : K.lookup f9 = some ⟨oc9, od9, .func (PySem.W.fnOf "corners" "corners" (defArgs st_corners) (defBody st_corners) (defScope st_corners) .none kV9 dc9 pm9 an9 cd9 ct9), sl9⟩)
    (c9 : PySem.W.codeIn K cd9 "corners" = true) (k9 : PySem.W.keepIn K (.ref f9) = true)
    (a10 : PySem.W.nsIn K mainGlobals "divisor" = some (some (.ref f10)))
    (l10 : K.lookup f10 = some ⟨oc10, od10, .func (PySem.W.fnOf "divisor" "divisor" (defArgs st_divisor) (defBody st_divisor) (defScope st_divisor) .none kV10 dc10 pm10 an10 cd10 ct10), sl10⟩)
    (c10 : PySem.W.codeIn K cd10 "divisor" = true) (k10 : PySem.W.keepIn K (.ref f10) = true)
    (a11 : PySem.W.nsIn K mainGlobals "lowest" = some (some (.ref f11)))
    (l11 : K.lookup f11 = some ⟨oc11, od11, .func (PySem.W.fnOf "lowest" "lowest" (defArgs st_lowest) (defBody st_lowest) (defScope st_lowest) .none kV11 dc11 pm11 an11 cd11 ct11), sl11⟩)
    (c11 : PySem.W.codeIn K cd11 "lowest" = true) (k11 : PySem.W.keepIn K (.ref f11) = true)
    (a12 : PySem.W.nsIn K mainGlobals "side_from" = some (some (.ref f12)))
    (l12 : K.lookup f12 = some ⟨oc12, od12, .func (PySem.W.fnOf "side_from" "side_from" (defArgs st_side_from) (defBody st_side_from) (defScope st_side_from) .none kV12 dc12 pm12 an12 cd12 ct12), sl12⟩)
    (c12 : PySem.W.codeIn K cd12 "side_from" = true) (k12 : PySem.W.keepIn K (.ref f12) = true)
    (a13 : PySem.W.nsIn K mainGlobals "side_of_two" = some (some (.ref f13)))
    (l13 : K.lookup f13 = some ⟨oc13, od13, .func (PySem.W.fnOf "side_of_two" "side_of_two" (defArgs st_side_of_two) (defBody st_side_of_two) (defScope st_side_of_two) .none kV13 dc13 pm13 an13 cd13 ct13), sl13⟩)
    (c13 : PySem.W.codeIn K cd13 "side_of_two" = true) (k13 : PySem.W.keepIn K (.ref f13) = true)
    (a14 : PySem.W.nsIn K mainGlobals "best_two" = some (some (.ref f14)))
    (l14 : K.lookup f14 = some ⟨oc14, od14, .func (PySem.W.fnOf "best_two" "best_two" (defArgs st_best_two) (defBody st_best_two) (defScope st_best_two) .none kV14 dc14 pm14 an14 cd14 ct14), sl14⟩)
    (c14 : PySem.W.codeIn K cd14 "best_two" = true) (k14 : PySem.W.keepIn K (.ref f14) = true)
    (a15 : PySem.W.nsIn K mainGlobals "square_least" = some (some (.ref f15)))
    (l15 : K.lookup f15 = some ⟨oc15, od15, .func (PySem.W.fnOf "square_least" "square_least" (defArgs st_square_least) (defBody st_square_least) (defScope st_square_least) .none kV15 dc15 pm15 an15 cd15 ct15), sl15⟩)
    (c15 : PySem.W.codeIn K cd15 "square_least" = true) (k15 : PySem.W.keepIn K (.ref f15) = true)
    (a16 : PySem.W.nsIn K mainGlobals "_law_fraction" = some (some (.ref f16)))
    (l16 : K.lookup f16 = some ⟨oc16, od16, .func (PySem.W.fnOf "_law_fraction" "_law_fraction" (defArgs st_law_fraction) (defBody st_law_fraction) (defScope st_law_fraction) .none kV16 dc16 pm16 an16 cd16 ct16), sl16⟩)
    (c16 : PySem.W.codeIn K cd16 "_law_fraction" = true) (k16 : PySem.W.keepIn K (.ref f16) = true)
    (a17 : PySem.W.nsIn K mainGlobals "middle" = some (some (.ref f17)))
    (l17 : K.lookup f17 = some ⟨oc17, od17, .func (PySem.W.fnOf "middle" "middle" (defArgs st_middle) (defBody st_middle) (defScope st_middle) .none kV17 dc17 pm17 an17 cd17 ct17), sl17⟩)
    (c17 : PySem.W.codeIn K cd17 "middle" = true) (k17 : PySem.W.keepIn K (.ref f17) = true)
    (a18 : PySem.W.nsIn K mainGlobals "is_below" = some (some (.ref f18)))
    (l18 : K.lookup f18 = some ⟨oc18, od18, .func (PySem.W.fnOf "is_below" "is_below" (defArgs st_is_below) (defBody st_is_below) (defScope st_is_below) .none kV18 dc18 pm18 an18 cd18 ct18), sl18⟩)
    (c18 : PySem.W.codeIn K cd18 "is_below" = true) (k18 : PySem.W.keepIn K (.ref f18) = true)
    (a19 : PySem.W.nsIn K mainGlobals "square_posts" = some (some (.ref f19)))
    (l19 : K.lookup f19 = some ⟨oc19, od19, .func (PySem.W.fnOf "square_posts" "square_posts" (defArgs st_square_posts) (defBody st_square_posts) (defScope st_square_posts) .none kV19 dc19 pm19 an19 cd19 ct19), sl19⟩)
    (c19 : PySem.W.codeIn K cd19 "square_posts" = true) (k19 : PySem.W.keepIn K (.ref f19) = true)
    (a20 : PySem.W.nsIn K mainGlobals "_law_less" = some (some (.ref f20)))
    (l20 : K.lookup f20 = some ⟨oc20, od20, .func (PySem.W.fnOf "_law_less" "_law_less" (defArgs st_law_less) (defBody st_law_less) (defScope st_law_less) .none kV20 dc20 pm20 an20 cd20 ct20), sl20⟩)
    (c20 : PySem.W.codeIn K cd20 "_law_less" = true) (k20 : PySem.W.keepIn K (.ref f20) = true)
    (a21 : PySem.W.nsIn K mainGlobals "_law_way" = some (some (.ref f21)))
    (l21 : K.lookup f21 = some ⟨oc21, od21, .func (PySem.W.fnOf "_law_way" "_law_way" (defArgs st_law_way) (defBody st_law_way) (defScope st_law_way) .none kV21 dc21 pm21 an21 cd21 ct21), sl21⟩)
    (c21 : PySem.W.codeIn K cd21 "_law_way" = true) (k21 : PySem.W.keepIn K (.ref f21) = true)
    (a22 : PySem.W.nsIn K mainGlobals "_law_square_reach" = some (some (.ref f22)))
    (l22 : K.lookup f22 = some ⟨oc22, od22, .func (PySem.W.fnOf "_law_square_reach" "_law_square_reach" (defArgs st_law_square_reach) (defBody st_law_square_reach) (defScope st_law_square_reach) .none kV22 dc22 pm22 an22 cd22 ct22), sl22⟩)
    (c22 : PySem.W.codeIn K cd22 "_law_square_reach" = true) (k22 : PySem.W.keepIn K (.ref f22) = true)
    (a23 : PySem.W.nsIn K mainGlobals "_law_posts" = some (some (.ref f23)))
    (l23 : K.lookup f23 = some ⟨oc23, od23, .func (PySem.W.fnOf "_law_posts" "_law_posts" (defArgs st_law_posts) (defBody st_law_posts) (defScope st_law_posts) .none kV23 dc23 pm23 an23 cd23 ct23), sl23⟩)
    (c23 : PySem.W.codeIn K cd23 "_law_posts" = true) (k23 : PySem.W.keepIn K (.ref f23) = true)
    (a24 : PySem.W.nsIn K mainGlobals "law" = some (some (.ref f24)))
    (l24 : K.lookup f24 = some ⟨oc24, od24, .func (PySem.W.fnOf "law" "law" (defArgs st_law) (defBody st_law) (defScope st_law) .none kV24 dc24 pm24 an24 cd24 ct24), sl24⟩)
    (c24 : PySem.W.codeIn K cd24 "law" = true) (k24 : PySem.W.keepIn K (.ref f24) = true)
    (z_abs : PySem.W.nsIn K mainGlobals "abs" = some none)
    (z_bool : PySem.W.nsIn K mainGlobals "bool" = some none)
    (z_enumerate : PySem.W.nsIn K mainGlobals "enumerate" = some none)
    (z_int : PySem.W.nsIn K mainGlobals "int" = some none)
    (z_isinstance : PySem.W.nsIn K mainGlobals "isinstance" = some none)
    (z_len : PySem.W.nsIn K mainGlobals "len" = some none)
    (z_list : PySem.W.nsIn K mainGlobals "list" = some none)
    (z_max : PySem.W.nsIn K mainGlobals "max" = some none)
    (z_min : PySem.W.nsIn K mainGlobals "min" = some none)
    (z_range : PySem.W.nsIn K mainGlobals "range" = some none)
    (z_tuple : PySem.W.nsIn K mainGlobals "tuple" = some none)
    : ∃ fd : FuncData, (∀ (s : Shared) (v : Value), BindsTo s fd ⟨[v], []⟩ [("_law_script", v)]) ∧ ∀ base : Heap, K.In base → base.Ns mainGlobals mg → FnOk l.prog w K mg base (L2.CX l.prog w) 6 fa fd ["_law_script"] (spL K) := by
  have e := hfa.symm.trans (PySem.W.mg_of X G a24)
  cases e
  have T : Txt mg := ⟨PySem.W.mg_none_of X G z_abs, PySem.W.mg_none_of X G z_bool, PySem.W.mg_none_of X G z_enumerate, PySem.W.mg_none_of X G z_int, PySem.W.mg_none_of X G z_isinstance, PySem.W.mg_none_of X G z_len, PySem.W.mg_none_of X G z_list, PySem.W.mg_none_of X G z_max, PySem.W.mg_none_of X G z_min, PySem.W.mg_none_of X G z_range, PySem.W.mg_none_of X G z_tuple⟩
  have F0 := fun_mk (st := st_law_mix) l0 c0 k0
  have b0 := F0.binds (ps := ["_law_unit", "_law_k"]) fun _ _ _ _ _ _ us hl => match us, hl with | [_, _], _ => rfl
  have F1 := fun_mk (st := st_law_cell_at) l1 c1 k1
  have b1 := F1.binds (ps := ["_law_script", "_law_k"]) fun _ _ _ _ _ _ us hl => match us, hl with | [_, _], _ => rfl
  have F2 := fun_mk (st := st_law_plane) l2 c2 k2
  have b2 := F2.binds (ps := ["_law_script", "_law_at", "_law_most"]) fun _ _ _ _ _ _ us hl => match us, hl with | [_, _, _], _ => rfl
  have F3 := fun_mk (st := st_law_shared) l3 c3 k3
  have b3 := F3.binds (ps := ["_law_one", "_law_other"]) fun _ _ _ _ _ _ us hl => match us, hl with | [_, _], _ => rfl
  have F4 := fun_mk (st := st_law_lowest) l4 c4 k4
  have b4 := F4.binds (ps := ["_law_top", "_law_bottom"]) fun _ _ _ _ _ _ us hl => match us, hl with | [_, _], _ => rfl
  have F5 := fun_mk (st := st_law_side) l5 c5 k5
  have b5 := F5.binds (ps := ["_law_folk"]) fun _ _ _ _ _ _ us hl => match us, hl with | [_], _ => rfl
  have F6 := fun_mk (st := st_law_two) l6 c6 k6
  have b6 := F6.binds (ps := ["_law_folk"]) fun _ _ _ _ _ _ us hl => match us, hl with | [_], _ => rfl
  have F7 := fun_mk (st := st_look_at_many) l7 c7 k7
  have b7 := F7.binds (ps := ["many"]) fun _ _ _ _ _ _ us hl => match us, hl with | [_], _ => rfl
  have F8 := fun_mk (st := st_look_at_two) l8 c8 k8
  have b8 := F8.binds (ps := ["many"]) fun _ _ _ _ _ _ us hl => match us, hl with | [_], _ => rfl
  have F9 := fun_mk (st := st_corners) l9 c9 k9
  have b9 := F9.binds (ps := ["folk"]) fun _ _ _ _ _ _ us hl => match us, hl with | [_], _ => rfl
  have F10 := fun_mk (st := st_divisor) l10 c10 k10
  have b10 := F10.binds (ps := ["one", "other"]) fun _ _ _ _ _ _ us hl => match us, hl with | [_, _], _ => rfl
  have F11 := fun_mk (st := st_lowest) l11 c11 k11
  have b11 := F11.binds (ps := ["top", "bottom"]) fun _ _ _ _ _ _ us hl => match us, hl with | [_, _], _ => rfl
  have F12 := fun_mk (st := st_side_from) l12 c12 k12
  have b12 := F12.binds (ps := ["place", "corner"]) fun _ _ _ _ _ _ us hl => match us, hl with | [_, _], _ => rfl
  have F13 := fun_mk (st := st_side_of_two) l13 c13 k13
  have b13 := F13.binds (ps := ["folk", "across"]) fun _ _ _ _ _ _ us hl => match us, hl with | [_, _], _ => rfl
  have F14 := fun_mk (st := st_best_two) l14 c14 k14
  have b14 := F14.binds (ps := ["folk"]) fun _ _ _ _ _ _ us hl => match us, hl with | [_], _ => rfl
  have F15 := fun_mk (st := st_square_least) l15 c15 k15
  have b15 := F15.binds (ps := ["folk", "many"]) fun _ _ _ _ _ _ us hl => match us, hl with | [_, _], _ => rfl
  have F16 := fun_mk (st := st_law_fraction) l16 c16 k16
  have b16 := F16.binds (ps := ["_law_told"]) fun _ _ _ _ _ _ us hl => match us, hl with | [_], _ => rfl
  have F17 := fun_mk (st := st_middle) l17 c17 k17
  have b17 := F17.binds (ps := ["corner", "across", "side"]) fun _ _ _ _ _ _ us hl => match us, hl with | [_, _, _], _ => rfl
  have F18 := fun_mk (st := st_is_below) l18 c18 k18
  have b18 := F18.binds (ps := ["one", "other"]) fun _ _ _ _ _ _ us hl => match us, hl with | [_, _], _ => rfl
  have F19 := fun_mk (st := st_square_posts) l19 c19 k19
  have b19 := F19.binds (ps := ["folk", "many"]) fun _ _ _ _ _ _ us hl => match us, hl with | [_, _], _ => rfl
  have F20 := fun_mk (st := st_law_less) l20 c20 k20
  have b20 := F20.binds (ps := ["_law_one", "_law_other"]) fun _ _ _ _ _ _ us hl => match us, hl with | [_, _], _ => rfl
  have F21 := fun_mk (st := st_law_way) l21 c21 k21
  have b21 := F21.binds (ps := ["_law_place", "_law_post"]) fun _ _ _ _ _ _ us hl => match us, hl with | [_, _], _ => rfl
  have F22 := fun_mk (st := st_law_square_reach) l22 c22 k22
  have b22 := F22.binds (ps := ["_law_folk", "_law_posts_here"]) fun _ _ _ _ _ _ us hl => match us, hl with | [_, _], _ => rfl
  have F23 := fun_mk (st := st_law_posts) l23 c23 k23
  have b23 := F23.binds (ps := ["_law_folk", "_law_posts_here", "_law_many", "_law_reach"]) fun _ _ _ _ _ _ us hl => match us, hl with | [_, _, _, _], _ => rfl
  have F24 := fun_mk (st := st_law) l24 c24 k24
  refine ⟨PySem.W.fnOf "law" "law" (defArgs st_law) (defBody st_law) (defScope st_law) .none kV24 dc24 pm24 an24 cd24 ct24, fun s v => .of_eq rfl, fun base _ _ => law_fn (φ := φ_law) ?_ law_true⟩
  have D0 : Def l.prog w K mg base "_law_mix" 2 φ_law_mix 1 := def_mk (PySem.W.mg_of X G a0) (ok_law_mix T F0 ) b0 k0
  have D1 : Def l.prog w K mg base "_law_cell_at" 2 φ_law_cell_at 1 := def_mk (PySem.W.mg_of X G a1) (ok_law_cell_at T F1 ) b1 k1
  have D2 : Def l.prog w K mg base "_law_plane" 3 φ_law_plane 2 := def_mk (PySem.W.mg_of X G a2) (ok_law_plane T F2 D0 D1) b2 k2
  have D3 : Def l.prog w K mg base "_law_shared" 2 φ_law_shared 1 := def_mk (PySem.W.mg_of X G a3) (ok_law_shared T F3 ) b3 k3
  have D4 : Def l.prog w K mg base "_law_lowest" 2 φ_law_lowest 2 := def_mk (PySem.W.mg_of X G a4) (ok_law_lowest T F4 D3) b4 k4
  have D5 : Def l.prog w K mg base "_law_side" 1 φ_law_side 1 := def_mk (PySem.W.mg_of X G a5) (ok_law_side T F5 ) b5 k5
  have D6 : Def l.prog w K mg base "_law_two" 1 φ_law_two 2 := def_mk (PySem.W.mg_of X G a6) (ok_law_two T F6 D5) b6 k6
  have D7 : Def l.prog w K mg base "look_at_many" 1 φ_look_at_many 1 := def_mk (PySem.W.mg_of X G a7) (ok_look_at_many T F7 ) b7 k7
  have D8 : Def l.prog w K mg base "look_at_two" 1 φ_look_at_two 2 := def_mk (PySem.W.mg_of X G a8) (ok_look_at_two T F8 D7) b8 k8
  have D9 : Def l.prog w K mg base "corners" 1 φ_corners 1 := def_mk (PySem.W.mg_of X G a9) (ok_corners T F9 ) b9 k9
  have D10 : Def l.prog w K mg base "divisor" 2 φ_divisor 1 := def_mk (PySem.W.mg_of X G a10) (ok_divisor T F10 ) b10 k10
  have D11 : Def l.prog w K mg base "lowest" 2 φ_lowest 2 := def_mk (PySem.W.mg_of X G a11) (ok_lowest T F11 D10) b11 k11
  have D12 : Def l.prog w K mg base "side_from" 2 φ_side_from 1 := def_mk (PySem.W.mg_of X G a12) (ok_side_from T F12 ) b12 k12
  have D13 : Def l.prog w K mg base "side_of_two" 2 φ_side_of_two 2 := def_mk (PySem.W.mg_of X G a13) (ok_side_of_two T F13 D12) b13 k13
  have D14 : Def l.prog w K mg base "best_two" 1 φ_best_two 3 := def_mk (PySem.W.mg_of X G a14) (ok_best_two T F14 D9 D13) b14 k14
  have D15 : Def l.prog w K mg base "square_least" 2 φ_square_least 4 := def_mk (PySem.W.mg_of X G a15) (ok_square_least T F15 D8 D9 D11 D14) b15 k15
  have D16 : Def l.prog w K mg base "_law_fraction" 1 φ_law_fraction 2 := def_mk (PySem.W.mg_of X G a16) (ok_law_fraction T F16 D3) b16 k16
  have D17 : Def l.prog w K mg base "middle" 3 φ_middle 3 := def_mk (PySem.W.mg_of X G a17) (ok_middle T F17 D11) b17 k17
  have D18 : Def l.prog w K mg base "is_below" 2 φ_is_below 1 := def_mk (PySem.W.mg_of X G a18) (ok_is_below T F18 ) b18 k18
  have D19 : Def l.prog w K mg base "square_posts" 2 φ_square_posts 4 := def_mk (PySem.W.mg_of X G a19) (ok_square_posts T F19 D8 D9 D11 D14 D17 D18) b19 k19
  have D20 : Def l.prog w K mg base "_law_less" 2 φ_law_less 1 := def_mk (PySem.W.mg_of X G a20) (ok_law_less T F20 ) b20 k20
  have D21 : Def l.prog w K mg base "_law_way" 2 φ_law_way 3 := def_mk (PySem.W.mg_of X G a21) (ok_law_way T F21 D4 D20) b21 k21
  have D22 : Def l.prog w K mg base "_law_square_reach" 2 φ_law_square_reach 4 := def_mk (PySem.W.mg_of X G a22) (ok_law_square_reach T F22 D21 D20) b22 k22
  have D23 : Def l.prog w K mg base "_law_posts" 4 φ_law_posts 5 := def_mk (PySem.W.mg_of X G a23) (ok_law_posts T F23 D16 D20 D22) b23 k23
  exact ok_law T F24 D2 D4 D6 D5 D15 D16 D19 D23
end Lw
open PySem PySem.W PyProof.Rows
set_option maxHeartbeats 0 in
theorem PySem.Challenge.cw_nearposts_k32_whole_squares_holds : PySem.Challenge.rw_nearposts_k32_whole_squares.Holds := by
  w_on; o_law; k_head; (case hw => w_witness2)
  k_fill
  refine L2.walk_of (l := PySem.Challenge.rw_nearposts_k32_whole_squares) (n := 63) (k := 6) (x := "_law_script") (CX := fun w => L2.CX (PySem.Challenge.rw_nearposts_k32_whole_squares).prog w) (sp := fun w => DL.spL _) rfl (by decide) rfl ⟨rfl, by decide, by decide⟩ (fun w h Y => PySem.W.kIn_of Y) ?F (fun _ _ a ns hl _ hS => ⟨a, ns, rfl, hS, hl, fun _ => rfl⟩) (fun _ _ _ _ _ h => DL.cx_no h)
  case F =>
    intro w mg fa h KX G hmg
    refine' Lw.all_mk KX G hmg ?a0 ?l0 ?c0 ?k0 ?a1 ?l1 ?c1 ?k1 ?a2 ?l2 ?c2 ?k2 ?a3 ?l3 ?c3 ?k3 ?a4 ?l4 ?c4 ?k4 ?a5 ?l5 ?c5 ?k5 ?a6 ?l6 ?c6 ?k6 ?a7 ?l7 ?c7 ?k7 ?a8 ?l8 ?c8 ?k8 ?a9 ?l9 ?c9 ?k9 ?a10 ?l10 ?c10 ?k10 ?a11 ?l11 ?c11 ?k11 ?a12 ?l12 ?c12 ?k12 ?a13 ?l13 ?c13 ?k13 ?a14 ?l14 ?c14 ?k14 ?a15 ?l15 ?c15 ?k15 ?a16 ?l16 ?c16 ?k16 ?a17 ?l17 ?c17 ?k17 ?a18 ?l18 ?c18 ?k18 ?a19 ?l19 ?c19 ?k19 ?a20 ?l20 ?c20 ?k20 ?a21 ?l21 ?c21 ?k21 ?a22 ?l22 ?c22 ?k22 ?a23 ?l23 ?c23 ?k23 ?a24 ?l24 ?c24 ?k24 ?z_abs ?z_bool ?z_enumerate ?z_int ?z_isinstance ?z_len ?z_list ?z_max ?z_min ?z_range ?z_tuple
    (case a0 => k_is)
    (case l0 => k_is)
    (case c0 => k_is)
    (case k0 => k_is)
    (case a1 => k_is)
    (case l1 => k_is)
    (case c1 => k_is)
    (case k1 => k_is)
    (case a2 => k_is)
    (case l2 => k_is)
    (case c2 => k_is)
    (case k2 => k_is)
    (case a3 => k_is)
    (case l3 => k_is)
    (case c3 => k_is)
    (case k3 => k_is)
    (case a4 => k_is)
    (case l4 => k_is)
    (case c4 => k_is)
    (case k4 => k_is)
    (case a5 => k_is)
    (case l5 => k_is)
    (case c5 => k_is)
    (case k5 => k_is)
    (case a6 => k_is)
    (case l6 => k_is)
    (case c6 => k_is)
    (case k6 => k_is)
    (case a7 => k_is)
    (case l7 => k_is)
    (case c7 => k_is)
    (case k7 => k_is)
    (case a8 => k_is)
    (case l8 => k_is)
    (case c8 => k_is)
    (case k8 => k_is)
    (case a9 => k_is)
    (case l9 => k_is)
    (case c9 => k_is)
    (case k9 => k_is)
    (case a10 => k_is)
    (case l10 => k_is)
    (case c10 => k_is)
    (case k10 => k_is)
    (case a11 => k_is)
    (case l11 => k_is)
    (case c11 => k_is)
    (case k11 => k_is)
    (case a12 => k_is)
    (case l12 => k_is)
    (case c12 => k_is)
    (case k12 => k_is)
    (case a13 => k_is)
    (case l13 => k_is)
    (case c13 => k_is)
    (case k13 => k_is)
    (case a14 => k_is)
    (case l14 => k_is)
    (case c14 => k_is)
    (case k14 => k_is)
    (case a15 => k_is)
    (case l15 => k_is)
    (case c15 => k_is)
    (case k15 => k_is)
    (case a16 => k_is)
    (case l16 => k_is)
    (case c16 => k_is)
    (case k16 => k_is)
    (case a17 => k_is)
    (case l17 => k_is)
    (case c17 => k_is)
    (case k17 => k_is)
    (case a18 => k_is)
    (case l18 => k_is)
    (case c18 => k_is)
    (case k18 => k_is)
    (case a19 => k_is)
    (case l19 => k_is)
    (case c19 => k_is)
    (case k19 => k_is)
    (case a20 => k_is)
    (case l20 => k_is)
    (case c20 => k_is)
    (case k20 => k_is)
    (case a21 => k_is)
    (case l21 => k_is)
    (case c21 => k_is)
    (case k21 => k_is)
    (case a22 => k_is)
    (case l22 => k_is)
    (case c22 => k_is)
    (case k22 => k_is)
    (case a23 => k_is)
    (case l23 => k_is)
    (case c23 => k_is)
    (case k23 => k_is)
    (case a24 => k_is)
    (case l24 => k_is)
    (case c24 => k_is)
    (case k24 => k_is)
    (case z_abs => k_is)
    (case z_bool => k_is)
    (case z_enumerate => k_is)
    (case z_int => k_is)
    (case z_isinstance => k_is)
    (case z_len => k_is)
    (case z_list => k_is)
    (case z_max => k_is)
    (case z_min => k_is)
    (case z_range => k_is)
    (case z_tuple => k_is)
