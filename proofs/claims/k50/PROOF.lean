import PyProof.Rows.All
import Wide.All
import OpenK.AllK
import Wide.FinOn
import HandS.ForMost
import HandS.ForExc
import HandS.Wide
import HandS.SortInts
import HandS.Strs
import HandS.Deep
import HandS.IsInst
import HandS.More
import HandS.Style
import HandS.TryOnly
import HandS.ExcField
import HandS.ExcIs
import HandS.ExcInit
import KE.KExcIs
import HandS.Iter
import HandS.RevTup
import KE.DataFind
import HandS.Conv
import HandS.Text
import HandS.Dict
import HandS.TupLe
import PySem.Challenge.RW_nearposts_k50_folk_that_come
set_option autoImplicit false
set_option Elab.async false
set_option linter.all false
set_option maxRecDepth 100000
set_option maxHeartbeats 4000000
namespace DL
variable {K : PySem.W.Frag}
open PySem L2
/-! values told as trees: what stands still (PyData), what one holds alone (OD) -/
mutual
inductive Dd (F : Hp) : V → PyData → Prop
  | non : Dd F .non .none
  | bl (b : Bool) : Dd F (.bl b) (.bool b)
  | int (i : Int) : Dd F (.int i) (.int i)
  | str (x : Str) : Dd F (.str x) (.str x)
  | lst {a vs ds} : F a = some (.lst vs) → DdL F vs ds → Dd F (.ref a) (.list ds)
  | tup {a vs ds} : F a = some (.tup vs) → DdL F vs ds → Dd F (.ref a) (.tuple ds)
inductive DdL (F : Hp) : List V → List PyData → Prop
  | nil : DdL F [] []
  | cons {v vs d ds} : Dd F v d → DdL F vs ds → DdL F (v :: vs) (d :: ds)
end
def Inc (F F' : Hp) : Prop := ∀ a o, F a = some o → F' a = some o
theorem Inc.rfl' {F : Hp} : Inc F F := fun _ _ h => h
theorem Inc.tr {F G H : Hp} (a : Inc F G) (b : Inc G H) : Inc F H := fun x o h => b x o (a x o h)
mutual
theorem Dd.inc {F F' : Hp} (e : Inc F F') : ∀ {v d}, Dd F v d → Dd F' v d
  | _, _, .non => .non
  | _, _, .bl b => .bl b
  | _, _, .int i => .int i
  | _, _, .str x => .str x
  | _, _, .lst h t => .lst (e _ _ h) (t.inc e)
  | _, _, .tup h t => .tup (e _ _ h) (t.inc e)
theorem DdL.inc {F F' : Hp} (e : Inc F F') : ∀ {v d}, DdL F v d → DdL F' v d
  | _, _, .nil => .nil
  | _, _, .cons h t => .cons (h.inc e) (t.inc e)
end
mutual
theorem Dd.dp {K : PySem.W.Frag} {F : Hp} : ∀ {v d}, Dd F v d → Dp K F v d
  | _, _, .non => .non
  | _, _, .bl b => .bl b
  | _, _, .int i => .int i
  | _, _, .str x => .str x
  | _, _, .lst h t => .lst (SqL.of h) t.dp
  | _, _, .tup h t => .tup (SqT.of h) t.dp
theorem DdL.dp {K : PySem.W.Frag} {F : Hp} : ∀ {v d}, DdL F v d → DpAll K F v d
  | _, _, .nil => .nil
  | _, _, .cons h t => .cons h.dp t.dp
end
theorem DdL.len {F : Hp} : ∀ {vs ds}, DdL F vs ds → vs.length = ds.length
  | _, _, .nil => rfl
  | _, _, .cons _ t => congrArg (· + 1) t.len
theorem DdL.get {F : Hp} : ∀ {vs ds} {i : Nat} {d}, DdL F vs ds → ds[i]? = some d → ∃ v, vs[i]? = some v ∧ Dd F v d
  | _, _, _, _, .nil, h => by simp at h
  | _, _, 0, _, .cons h _, e => by simp at e; subst e; exact ⟨_, rfl, h⟩
  | _, _, i + 1, _, .cons _ t, e => by simpa using t.get (i := i) (by simpa using e)
theorem DdL.getV {F : Hp} : ∀ {vs ds} {i : Nat} {v}, DdL F vs ds → vs[i]? = some v → ∃ d, ds[i]? = some d ∧ Dd F v d
  | _, _, _, _, .nil, h => by simp at h
  | _, _, 0, _, .cons h _, e => by simp at e; subst e; exact ⟨_, rfl, h⟩
  | _, _, i + 1, _, .cons _ t, e => by simpa using t.getV (i := i) (by simpa using e)
theorem DdL.app {F : Hp} : ∀ {vs ds ws es}, DdL F vs ds → DdL F ws es → DdL F (vs ++ ws) (ds ++ es)
  | _, _, _, _, .nil, t => t
  | _, _, _, _, .cons h r, t => .cons h (r.app t)
theorem DdL.take {F : Hp} : ∀ {vs ds} (n : Nat), DdL F vs ds → DdL F (vs.take n) (ds.take n)
  | _, _, 0, _ => by simpa using DdL.nil
  | _, _, n + 1, .nil => by simpa using DdL.nil
  | _, _, n + 1, .cons h t => by simpa using DdL.cons h (t.take n)
theorem DdL.drop {F : Hp} : ∀ {vs ds} (n : Nat), DdL F vs ds → DdL F (vs.drop n) (ds.drop n)
  | _, _, 0, h => by simpa using h
  | _, _, n + 1, .nil => by simpa using DdL.nil
  | _, _, n + 1, .cons h t => by simpa using t.drop n
theorem DdL.set {F : Hp} : ∀ {vs ds} (n : Nat) {v d}, DdL F vs ds → Dd F v d → DdL F (vs.set n v) (ds.set n d)
  | _, _, _, _, _, .nil, _ => by simpa using DdL.nil
  | _, _, 0, _, _, .cons h t, e => .cons e t
  | _, _, n + 1, _, _, .cons h t, e => .cons h (t.set n e)
theorem DdL.ints {F : Hp} : ∀ {vs} {ns : List Int}, DdL F vs (ns.map .int) → vs = ns.map V.int
  | _, [], .nil => rfl
  | _, n :: ns, .cons h t => by cases h; rw [t.ints]; rfl
theorem DdL.of_ints {F : Hp} : ∀ {ns : List Int}, DdL F (ns.map V.int) (ns.map .int)
  | [] => .nil
  | n :: ns => .cons (.int n) DdL.of_ints
theorem DdL.strs {F : Hp} : ∀ {vs} {ns : List Str}, DdL F vs (ns.map .str) → vs = ns.map V.str
  | _, [], .nil => rfl
  | _, n :: ns, .cons h t => by cases h; rw [t.strs]; rfl
theorem DdL.of_strs {F : Hp} : ∀ {ns : List Str}, DdL F (ns.map V.str) (ns.map .str)
  | [] => .nil
  | n :: ns => .cons (.str n) DdL.of_strs
theorem DdL.bls {F : Hp} : ∀ {vs} {ns : List Bool}, DdL F vs (ns.map .bool) → vs = ns.map V.bl
  | _, [], .nil => rfl
  | _, n :: ns, .cons h t => by cases h; rw [t.bls]; rfl

theorem sqInc {F F' : Hp} {a : Addr} {xs : List V} (e : Inc F F') (h : SqL K F a xs) : SqL K F' a xs := by
  rcases h with (h | ⟨o, h⟩) | h
  · exact .inl (.inl (e _ _ h))
  · exact .inl (.inr ⟨o, e _ _ h⟩)
  · exact .inr h
/-- what a name may hold: nothing known; what stands still; a list of one's own; a tuple of such; the script -/
inductive OD where
  | h
  | p (d : PyData)
  | l (xs : List OD)
  | t (xs : List OD)
  | sc (ns : List Int)
  /-- an error kept: its class's name, its field -/
  | er (C : Str) (f : Option (Str × PyData))
  /-- an instance of one's own class: the class's name, its fields -/
  | ob (C : Str) (ns : List Str) (xs : List OD)
  /-- such an instance that stands still -/
  | fo (C : Str) (ns : List Str) (ds : List PyData)
  /-- a dict whose keys are texts -/
  | dc (ks : List Str) (xs : List OD)
/-- what a dict of texts holds -/
def dkO (ks : List Str) (vs : List V) : HO := .dK ((ks.zip vs).map fun p => (.inr p.1, p.2))
/-- an error object -/
def erO (a : Addr) (cls : Value) (d : Option Addr) : HO := .ext fun h => ∃ oe vs, h.get? a = some oe ∧ Zc cls d oe ∧ oe.data = .fields vs
def ErF (F : Hp) (d : Option Addr) : Option (Str × PyData) → Prop
  | none => d = none
  | some (n, pd) => ∃ dd v, d = some dd ∧ F dd = some (.xd [(n, v)]) ∧ Dd F v pd
def ErAt (K : PySem.W.Frag) (F : Hp) (a : Addr) (C : Str) (f : Option (Str × PyData)) : Prop := ∃ Ca d, PySem.W.nsIn K mainGlobals C = some (some (.ref Ca)) ∧ F a = some (erO a (.ref Ca) d) ∧ ErF F d f
theorem ErAt.inc {F F' : Hp} {a C f} (e : Inc F F') (h : ErAt K F a C f) : ErAt K F' a C f := by
  obtain ⟨Ca, d, h1, h2, h3⟩ := h
  refine ⟨Ca, d, h1, e _ _ h2, ?_⟩
  cases f with
  | none => exact h3
  | some p => obtain ⟨dd, v, p1, p2, p3⟩ := h3; exact ⟨dd, v, p1, e _ _ p2, p3.inc e⟩
abbrev Fp := Addr → Prop
mutual
inductive Ow (K : PySem.W.Frag) (F H : Hp) : V → OD → Fp → Prop
  | h {v fp} : Ow K F H v .h fp
  | p {v d fp} : Dd F v d → Ow K F H v (.p d) fp
  | l {a vs xs} {fp fq : Fp} : fp a → H a = some (.lst vs) → Ows K F H (vs.map some) xs fq → (∀ b, fq b → fp b ∧ b ≠ a) → Ow K F H (.ref a) (.l xs) fp
  | t {a vs xs fp} : F a = some (.tup vs) → Ows K F H (vs.map some) xs fp → Ow K F H (.ref a) (.t xs) fp
  | sc {a ns fp} : SqL K F a (ns.map V.int) → Ow K F H (.ref a) (.sc ns) fp
  | er {a C f fp} : ErAt K F a C f → Ow K F H (.ref a) (.er C f) fp
  | ob {a dx Ca vs C ns xs} {fp fq : Fp} : fp a → fp dx → H a = some (.ins Ca dx (ns.zip vs)) → H dx = some (.own a) → PySem.W.nsIn K mainGlobals C = some (some (.ref Ca)) ∧ vs.length = ns.length → Ows K F H (vs.map some) xs fq → (∀ b, fq b → fp b ∧ b ≠ a ∧ b ≠ dx) → Ow K F H (.ref a) (.ob C ns xs) fp
  | fo {a dx Ca vs C ns ds fp} : F a = some (.ins Ca dx (ns.zip vs)) → F dx = some (.own a) → PySem.W.nsIn K mainGlobals C = some (some (.ref Ca)) ∧ vs.length = ns.length → DdL F vs ds → Ow K F H (.ref a) (.fo C ns ds) fp
  | dc {a ks vs xs} {fp fq : Fp} : fp a → H a = some (dkO ks vs) ∧ vs.length = ks.length ∧ ks.Nodup → Ows K F H (vs.map some) xs fq → (∀ b, fq b → fp b ∧ b ≠ a) → Ow K F H (.ref a) (.dc ks xs) fp
inductive Ows (K : PySem.W.Frag) (F H : Hp) : List (Option V) → List OD → Fp → Prop
  | nil {fp} : Ows K F H [] [] fp
  | hole {u us xs fp} : Ows K F H us xs fp → Ows K F H (u :: us) (.h :: xs) fp
  | cons {v x us xs} {fp f1 f2 : Fp} : Ow K F H v x f1 → Ows K F H us xs f2 → (∀ b, f1 b → fp b) → (∀ b, f2 b → fp b) → (∀ b, f1 b → ¬ f2 b) → Ows K F H (some v :: us) (x :: xs) fp
end
theorem Ow.weak {F H : Hp} {v x} {fp fq : Fp} (h : Ow K F H v x fp) (s : ∀ b, fp b → fq b) : Ow K F H v x fq := by
  have go : ∀ {us xs} {fp fq : Fp}, Ows K F H us xs fp → (∀ b, fp b → fq b) → Ows K F H us xs fq := by
    intro us
    induction us with
    | nil => intro xs fp fq h s; cases h; exact .nil
    | cons u us ih =>
      intro xs fp fq h s
      cases h with
      | hole t => exact .hole (ih t s)
      | cons a b c d e => exact .cons a b (fun _ q => s _ (c _ q)) (fun _ q => s _ (d _ q)) e
  cases h with
  | h => exact .h
  | p d => exact .p d
  | l a b c d => exact .l (s _ a) b c fun _ q => ⟨s _ (d _ q).1, (d _ q).2⟩
  | t a b => exact .t a (go b s)
  | sc a => exact .sc a
  | er a => exact .er a
  | ob a b c d e f g => exact .ob (s _ a) (s _ b) c d e f fun _ q => ⟨s _ (g _ q).1, (g _ q).2⟩
  | fo a b c d => exact .fo a b c d
  | dc a b c d => exact .dc (s _ a) b c fun _ q => ⟨s _ (d _ q).1, (d _ q).2⟩
theorem Ows.weak {F H : Hp} : ∀ {us xs} {fp fq : Fp}, Ows K F H us xs fp → (∀ b, fp b → fq b) → Ows K F H us xs fq
  | _, _, _, _, .nil, _ => .nil
  | _, _, _, _, .hole t, s => .hole (t.weak s)
  | _, _, _, _, .cons a b c d e, s => .cons a b (fun _ q => s _ (c _ q)) (fun _ q => s _ (d _ q)) e
mutual
theorem Ow.mono {F H F' H' : Hp} (e : Inc F F') : ∀ {v x fp}, Ow K F H v x fp → (∀ a, fp a → H' a = H a) → Ow K F' H' v x fp
  | _, _, _, .h, _ => .h
  | _, _, _, .p d, _ => .p (d.inc e)
  | _, _, _, .l a b c d, k => .l a ((k _ a).trans b) (c.mono e fun b q => k b (d b q).1) d
  | _, _, _, .t a b, k => .t (e _ _ a) (b.mono e k)
  | _, _, _, .sc a, _ => .sc (sqInc e a)
  | _, _, _, .er a, _ => .er (a.inc e)
  | _, _, _, .ob a b c d g f q, k => .ob a b ((k _ a).trans c) ((k _ b).trans d) g (f.mono e fun b z => k b (q b z).1) q
  | _, _, _, .fo a b c d, _ => .fo (e _ _ a) (e _ _ b) c (d.inc e)
  | _, _, _, .dc a b c d, k => .dc a ⟨(k _ a).trans b.1, b.2⟩ (c.mono e fun b q => k b (d b q).1) d
theorem Ows.mono {F H F' H' : Hp} (e : Inc F F') : ∀ {v x fp}, Ows K F H v x fp → (∀ a, fp a → H' a = H a) → Ows K F' H' v x fp
  | _, _, _, .nil, _ => .nil
  | _, _, _, .hole t, k => .hole (t.mono e k)
  | _, _, _, .cons a b c d f, k => .cons (a.mono e fun b q => k b (c b q)) (b.mono e fun b q => k b (d b q)) c d f
end
/-- the state: F stands still within H; fp is held alone -/
structure RS (F H : Hp) (fp : Fp) : Prop where
  sub : Inc F H
  own : ∀ a, fp a → F a = none ∧ H a ≠ none
/-- a step: what stood still stands; what is neither held nor new is as it was -/
structure Stp (F H : Hp) (fp : Fp) (F' H' : Hp) (fp' : Fp) : Prop where
  inc : Inc F F'
  keep : ∀ a, ¬ fp a → H a ≠ none → H' a = H a ∧ F' a = F a
  new : ∀ a, fp' a → fp a ∨ H a = none
  rs : RS F' H' fp'
abbrev Un2 (f g : Fp) : Fp := fun a => f a ∨ g a
abbrev Dj (f g : Fp) : Prop := ∀ a, f a → ¬ g a
theorem Stp.rfl' {F H : Hp} {fp : Fp} (r : RS F H fp) : Stp F H fp F H fp := ⟨Inc.rfl', fun _ _ _ => ⟨rfl, rfl⟩, fun _ h => .inl h, r⟩
theorem Stp.less {F H F' H' : Hp} {fp f1 f2 : Fp} (s : Stp F H fp F' H' f1) (l : ∀ a, f2 a → f1 a) : Stp F H fp F' H' f2 :=
  ⟨s.inc, s.keep, fun a h => s.new a (l a h), ⟨s.rs.sub, fun a h => s.rs.own a (l a h)⟩⟩
theorem Stp.from {F H F' H' : Hp} {fp fq f1 : Fp} (s : Stp F H fp F' H' f1) (l : ∀ a, fp a → fq a) : Stp F H fq F' H' f1 :=
  ⟨s.inc, fun a n => s.keep a fun q => n (l a q), fun a h => (s.new a h).imp_left (l a), s.rs⟩
theorem Stp.tr {F H F1 H1 F2 H2 : Hp} {f f1 f2 : Fp} (s : Stp F H f F1 H1 f1) (t : Stp F1 H1 f1 F2 H2 f2) : Stp F H f F2 H2 f2 where
  inc := s.inc.tr t.inc
  keep := fun a n e => by
    have k := s.keep a n e
    have n1 : ¬ f1 a := fun q => (s.new a q).elim n e
    have k2 := t.keep a n1 (by rw [k.1]; exact e)
    exact ⟨k2.1.trans k.1, k2.2.trans k.2⟩
  new := fun a q => by
    rcases t.new a q with q | q
    · exact s.new a q
    · by_cases hf : f a
      · exact .inl hf
      · by_cases e : H a = none
        · exact .inr e
        · have k := s.keep a hf e
          exact absurd (k.1 ▸ q) e
  rs := t.rs
/-- what is held beside stays held -/
theorem Stp.frame {F H F' H' : Hp} {f f' g : Fp} (s : Stp F H f F' H' f') (d : Dj g f) (o : ∀ a, g a → F a = none ∧ H a ≠ none) : Stp F H (Un2 f g) F' H' (Un2 f' g) where
  inc := s.inc
  keep := fun a n e => s.keep a (fun q => n (.inl q)) e
  new := fun a q => q.elim (fun q => (s.new a q).imp_left .inl) fun q => .inl (.inr q)
  rs := ⟨s.rs.sub, fun a q => q.elim (s.rs.own a) fun q => by
    have k := s.keep a (d a q) (o a q).2
    exact ⟨k.2.trans (o a q).1, by rw [k.1]; exact (o a q).2⟩⟩
theorem Stp.dj {F H F' H' : Hp} {f f' g : Fp} (s : Stp F H f F' H' f') (d : Dj g f) (o : ∀ a, g a → H a ≠ none) : Dj g f' := fun a q z =>
  (s.new a z).elim (d a q) (o a q)
theorem Ow.step {F H F' H' : Hp} {f f' g : Fp} {v x} (s : Stp F H f F' H' f') (d : Dj g f) (o : ∀ a, g a → H a ≠ none) (w : Ow K F H v x g) : Ow K F' H' v x g :=
  w.mono s.inc fun a q => (s.keep a (d a q) (o a q)).1
theorem Ows.step {F H F' H' : Hp} {f f' g : Fp} {v x} (s : Stp F H f F' H' f') (d : Dj g f) (o : ∀ a, g a → H a ≠ none) (w : Ows K F H v x g) : Ows K F' H' v x g :=
  w.mono s.inc fun a q => (s.keep a (d a q) (o a q)).1
/-- a new object, held alone -/
theorem Stp.newOwn {F H : Hp} {fp : Fp} {a : Addr} {o : HO} (r : RS F H fp) (n : H a = none) : Stp F H fp F (upd H a o) (Un2 (fun b => b = a) fp) where
  inc := Inc.rfl'
  keep := fun b _ e => ⟨upd_ne fun z => e (z ▸ n), rfl⟩
  new := fun b q => q.elim (fun q => .inr (q ▸ n)) .inl
  rs := ⟨fun b u e => by
    have h := r.sub b u e
    rw [upd_ne (ne_of_none h n)]; exact h, fun b q => q.elim (fun q => by
      subst q
      refine ⟨?_, by rw [upd_same]; exact Option.some_ne_none _⟩
      cases e : F b with
      | none => rfl
      | some u => have := r.sub b u e; rw [n] at this; cases this) fun q => by
      have k := r.own b q
      exact ⟨k.1, by
        have ne : b ≠ a := fun z => k.2 (by rw [z]; exact n)
        rw [upd_ne ne]; exact k.2⟩⟩
/-- a new object that stands still -/
theorem Stp.newPure {F H : Hp} {fp : Fp} {a : Addr} {o : HO} (r : RS F H fp) (n : H a = none) : Stp F H fp (upd F a o) (upd H a o) fp where
  inc := fun b u e => by
    have h := r.sub b u e
    rw [upd_ne (ne_of_none h n)]; exact e
  keep := fun b _ e => by
    have ne : b ≠ a := fun z => e (z ▸ n)
    exact ⟨upd_ne ne, upd_ne ne⟩
  new := fun b q => .inl q
  rs := ⟨fun b u e => by
    by_cases hb : b = a
    · subst hb; rw [upd_same] at *; exact e
    · rw [upd_ne hb] at *; exact r.sub b u e, fun b q => by
      have k := r.own b q
      have ne : b ≠ a := fun z => k.2 (z ▸ n)
      rw [upd_ne ne, upd_ne ne]; exact k⟩
/-- an object held alone is changed -/
theorem Stp.put {F H : Hp} {fp : Fp} {a : Addr} {o : HO} (r : RS F H fp) (q : fp a) : Stp F H fp F (upd H a o) fp where
  inc := Inc.rfl'
  keep := fun b n _ => ⟨upd_ne fun z => n (z ▸ q), rfl⟩
  new := fun b q => .inl q
  rs := ⟨fun b u e => by
    have ne : b ≠ a := fun z => by subst z; rw [(r.own b q).1] at e; cases e
    rw [upd_ne ne]; exact r.sub b u e, fun b q' => ⟨(r.own b q').1, by
      by_cases hb : b = a
      · subst hb; rw [upd_same]; exact Option.some_ne_none _
      · rw [upd_ne hb]; exact (r.own b q').2⟩⟩
open Classical in
/-- what was held alone stands still from here on -/
noncomputable def fz (F H : Hp) (g : Fp) : Hp := fun a => if g a then H a else F a
theorem fz_in {F H : Hp} {g : Fp} {a : Addr} (q : g a) : fz F H g a = H a := if_pos q
theorem fz_out {F H : Hp} {g : Fp} {a : Addr} (q : ¬ g a) : fz F H g a = F a := if_neg q
theorem fz_inc {F H : Hp} {g : Fp} (s : Inc F H) : Inc F (fz F H g) := fun a o e => by
  by_cases q : g a
  · rw [fz_in q]; exact s a o e
  · rw [fz_out q]; exact e
theorem Stp.freeze {F H : Hp} {g fp : Fp} (r : RS F H (Un2 g fp)) (d : Dj g fp) : Stp F H (Un2 g fp) (fz F H g) H fp where
  inc := fz_inc r.sub
  keep := fun a n e => ⟨rfl, fz_out fun q => n (.inl q)⟩
  new := fun a q => .inl (.inr q)
  rs := ⟨fun a o e => by
    by_cases q : g a
    · rw [fz_in q] at e; exact e
    · rw [fz_out q] at e; exact r.sub a o e, fun a q => by
      rw [fz_out fun z => d a z q]; exact r.own a (.inr q)⟩
mutual
/-- the tree as it stands still -/
def frz : OD → Option PyData
  | .p d => some d
  | .l xs => (frzs xs).map .list
  | .t xs => (frzs xs).map .tuple
  | .h => none
  | .sc _ => none
  | .er _ _ => none
  | .ob _ _ _ => none
  | .fo _ _ _ => none
  | .dc _ _ => none
def frzs : List OD → Option (List PyData)
  | [] => some []
  | x :: xs => (frz x).bind fun d => (frzs xs).map (d :: ·)
end
mutual
theorem Ow.fz {F H : Hp} (s : Inc F H) : ∀ {v x} {fp g : Fp} {d}, Ow K F H v x fp → (∀ a, fp a → g a) → frz x = some d → Dd (DL.fz F H g) v d
  | _, _, _, _, _, .h, _, e => by cases e
  | _, _, _, _, _, .p q, _, e => by cases e; exact q.inc (fz_inc s)
  | _, .l xs, _, g, _, .l a b c d, k, e => by
    unfold frz at e
    cases q : frzs xs with
    | none => rw [q] at e; cases e
    | some ds =>
      rw [q] at e; cases e
      exact .lst ((fz_in (k _ a)).trans b) (c.fz s (fun b z => k b (d b z).1) q)
  | _, .t xs, _, g, _, .t a b, k, e => by
    unfold frz at e
    cases q : frzs xs with
    | none => rw [q] at e; cases e
    | some ds =>
      rw [q] at e; cases e
      exact .tup (fz_inc s _ _ a) (b.fz s k q)
  | _, _, _, _, _, .sc _, _, e => by cases e
  | _, _, _, _, _, .er _, _, e => by cases e
  | _, _, _, _, _, .ob _ _ _ _ _ _ _, _, e => by cases e
  | _, _, _, _, _, .fo _ _ _ _, _, e => by cases e
  | _, _, _, _, _, .dc _ _ _ _, _, e => by cases e
theorem Ows.fz {F H : Hp} (s : Inc F H) : ∀ {vs : List V} {xs} {fp g : Fp} {ds}, Ows K F H (vs.map some) xs fp → (∀ a, fp a → g a) → frzs xs = some ds → DdL (DL.fz F H g) vs ds
  | [], _, _, _, _, .nil, _, e => by cases e; exact .nil
  | v :: vs, .h :: xs, _, _, _, .hole t, _, e => by
    unfold frzs at e; unfold frz at e; cases e
  | v :: vs, x :: xs, _, g, _, .cons a b c c2 f, k, e => by
    unfold frzs at e
    cases q : frz x with
    | none => rw [q] at e; cases e
    | some d =>
      rw [q] at e
      cases q2 : frzs xs with
      | none => rw [q2] at e; cases e
      | some ds =>
        rw [q2] at e; cases e
        exact .cons (a.fz s (fun b z => k b (c b z)) q) (b.fz s (fun a z => k a (c2 a z)) q2)
end
theorem frzs_p (ds : List PyData) : frzs (ds.map .p) = some ds := by
  induction ds with
  | nil => rfl
  | cons d ds ih => simp [frzs, frz, ih]
theorem Ows.pure {F H : Hp} : ∀ {vs : List V} {ds : List PyData} {fp : Fp}, Ows K F H (vs.map some) (ds.map .p) fp → DdL F vs ds
  | [], [], _, .nil => .nil
  | v :: vs, d :: ds, _, .cons (.p a) b _ _ _ => .cons a b.pure
theorem Ows.of_pure {F H : Hp} {fp : Fp} : ∀ {vs : List V} {ds : List PyData}, DdL F vs ds → Ows K F H (vs.map some) (ds.map .p) fp
  | _, _, .nil => .nil
  | _, _, .cons a b => .cons (f1 := fun _ => False) (f2 := fp) (.p a) (Ows.of_pure b) (fun _ z => z.elim) (fun _ z => z) fun _ z => z.elim
theorem Ows.len {F H : Hp} : ∀ {us xs fp}, Ows K F H us xs fp → us.length = xs.length
  | _, _, _, .nil => rfl
  | _, _, _, .hole t => congrArg (· + 1) t.len
  | _, _, _, .cons _ t _ _ _ => congrArg (· + 1) t.len
/-- one place looked at: what is there, and the rest with a hole -/
theorem Ows.get {F H : Hp} : ∀ {us xs} {fp : Fp} {i : Nat} {x}, Ows K F H us xs fp → xs[i]? = some x → x ≠ .h →
    ∃ v f1 f2, us[i]? = some (some v) ∧ Ow K F H v x f1 ∧ Ows K F H us (xs.set i .h) f2 ∧ (∀ b, f1 b → fp b) ∧ (∀ b, f2 b → fp b) ∧ Dj f1 f2
  | _, _, _, _, _, .nil, h, _ => by simp at h
  | _, _, _, 0, _, .hole t, h, n => by simp at h; exact absurd h.symm n
  | _, _, _, i + 1, _, .hole t, h, n => by
    obtain ⟨v, f1, f2, a, b, c, d, e, f⟩ := t.get (i := i) (by simpa using h) n
    exact ⟨v, f1, f2, by simpa using a, b, .hole c, d, e, f⟩
  | _, _, _, 0, _, .cons a b c d e, h, _ => by
    simp at h; subst h
    exact ⟨_, _, _, rfl, a, .hole b, c, d, e⟩
  | _, _, _, i + 1, x, .cons (f1 := g1) (f2 := g2) a b c d e, h, n => by
    obtain ⟨v, f1, f2, a', b', c', d', e', f'⟩ := b.get (i := i) (by simpa using h) n
    refine ⟨v, f1, Un2 g1 f2, by simpa using a', b', .cons (f1 := g1) (f2 := f2) a c' (fun _ z => .inl z) (fun _ z => .inr z) (fun q z z2 => e q z (e' q z2)), fun q z => d q (d' q z), fun q z => z.elim (c q) fun z => d q (e' q z), fun q z z2 => ?_⟩
    exact z2.elim (fun z2 => e q z2 (d' q z)) (f' q z)
theorem Ows.drop1 {F H : Hp} : ∀ {us xs} {fp : Fp} (i : Nat), Ows K F H us xs fp → Ows K F H us (xs.set i .h) fp
  | _, _, _, _, .nil => by simpa using Ows.nil
  | _, _, _, 0, .hole t => .hole t
  | _, _, _, i + 1, .hole t => .hole (t.drop1 i)
  | _, _, _, 0, .cons a b c d e => .hole (b.weak d)
  | _, _, _, i + 1, .cons a b c d e => .cons a (b.drop1 i) c d e
/-- a place stored to, what was there dropped -/
theorem Ows.store {F H : Hp} {v : V} {x : OD} {g : Fp} (w : Ow K F H v x g) : ∀ {us xs} {fp : Fp} (i : Nat), Ows K F H us xs fp → Dj g fp → Ows K F H (us.set i (some v)) (xs.set i x) (Un2 g fp)
  | _, _, _, _, .nil, _ => by simpa using Ows.nil
  | _, _, fp, 0, .hole t, dj => .cons (f1 := g) (f2 := fp) w t (fun _ z => .inl z) (fun _ z => .inr z) dj
  | _, _, fp, i + 1, .hole t, dj => .hole (Ows.store w i t dj)
  | _, _, fp, 0, .cons (f2 := g2) a b c d e, dj => .cons (f1 := g) (f2 := g2) w b (fun _ z => .inl z) (fun _ z => .inr (d _ z)) fun q z z2 => dj q z (d q z2)
  | _, _, fp, i + 1, .cons (f1 := g1) (f2 := g2) a b c d e, dj =>
    .cons (f1 := g1) (f2 := Un2 g g2) a (Ows.store w i b fun q z z2 => dj q z (d q z2)) (fun _ z => .inr (c _ z)) (fun q z => z.elim .inl fun z => .inr (d q z))
      fun q z z2 => z2.elim (fun z2 => dj q z2 (c q z)) (e q z)
theorem Ows.put {F H : Hp} {v : V} {x : OD} {g : Fp} (w : Ow K F H v x g) {us xs} {fp : Fp} {i : Nat} (t : Ows K F H us xs fp) (e : us[i]? = some (some v)) (dj : Dj g fp) : Ows K F H us (xs.set i x) (Un2 g fp) := by
  have h := Ows.store w i t dj
  have e2 : us.set i (some v) = us := by
    apply List.ext_getElem?
    intro j
    by_cases hj : j = i
    · subst hj
      obtain ⟨hl, _⟩ := List.getElem?_eq_some_iff.mp e
      rw [List.getElem?_set_self hl, e]
    · rw [List.getElem?_set_ne (Ne.symm hj)]
  rw [e2] at h; exact h
theorem Ows.app {F H : Hp} {us xs} {f : Fp} (t : Ows K F H us xs f) : ∀ {vs ys} {fp : Fp}, Ows K F H vs ys fp → Dj f fp → Ows K F H (vs ++ us) (ys ++ xs) (Un2 fp f)
  | _, _, _, .nil, _ => t.weak fun _ z => .inr z
  | _, _, _, .hole q, dj => .hole (Ows.app t q dj)
  | _, _, _, .cons (f1 := g1) (f2 := g2) a b c d e, dj => .cons (f1 := g1) (f2 := Un2 g2 f) a (Ows.app t b fun q z z2 => dj q z (d q z2)) (fun _ z => .inl (c _ z)) (fun q z => z.elim (fun z => .inl (d q z)) .inr)
      fun q z z2 => z2.elim (e q z) fun z2 => dj q z2 (c q z)
theorem Ow.np {F H : Hp} {v d} {fp fq : Fp} (h : Ow K F H v (.p d) fp) : Ow K F H v (.p d) fq := by cases h with | p q => exact .p q
theorem Ows.one {F H : Hp} {v x} {fp : Fp} (h : Ow K F H v x fp) : Ows K F H [some v] [x] fp := .cons (f1 := fp) (f2 := fun _ => False) h .nil (fun _ z => z) (fun _ z => z.elim) fun _ _ z => z
end DL

namespace DL
variable {K : PySem.W.Frag}
open PySem L2
abbrev Env' := List OD
/-- how an evaluation ends: no word, a value, an error -/
inductive R (α : Type) where
  | st
  | ok (a : α) (env : Env')
  | ex (C : Str) (f : Option (Str × PyData)) (env : Env')
def R.bind {α β : Type} (r : R α) (k : α → Env' → R β) : R β := match r with
  | .st => .st
  | .ok a e => k a e
  | .ex C f e => .ex C f e
@[simp] theorem R.bind_ok {α β : Type} (a : α) (e : Env') (k : α → Env' → R β) : (R.ok a e).bind k = k a e := rfl
@[simp] theorem R.bind_st {α β : Type} (k : α → Env' → R β) : (R.st : R α).bind k = .st := rfl
@[simp] theorem R.bind_ex {α β : Type} (C f) (e : Env') (k : α → Env' → R β) : (R.ex C f e : R α).bind k = .ex C f e := rfl
def R.of {α : Type} (o : Option α) (e : Env') : R α := match o with
  | some a => .ok a e
  | none => .st
@[simp] theorem R.of_some {α : Type} (a : α) (e : Env') : R.of (some a) e = .ok a e := rfl
@[simp] theorem R.of_none {α : Type} (e : Env') : R.of (none : Option α) e = .st := rfl
abbrev Mg := Str → Option Value
/-- what is wished of an error -/
def ExK (mg : Mg) (W : WX) (C : Str) (f : Option (Str × PyData)) (F H : Hp) (σ : L2.St) : Prop :=
  ∀ Ca d, mg C = some (.ref Ca) → (match f with
    | none => d = none
    | some (n, pd) => ∃ a v, d = some a ∧ F a = some (.xd [(n, v)]) ∧ Dd F v pd) → W (.ref Ca) d σ H
section
variable (K : PySem.W.Frag) (mg : Mg) (W : WX) (F H : Hp) (fp : Fp) (σ : L2.St)
def PoX (C : Str) (f : Option (Str × PyData)) (env' : Env') : Prop := ∀ F' H' fp', Stp F H fp F' H' fp' → Ows K F' H' σ env' fp' → ExK mg W C f F' H' σ
def PoE (Q : VK) : R OD → Prop
  | .st => False
  | .ok d env' => ∀ v F' H' fv fp', Stp F H fp F' H' (Un2 fv fp') → Dj fv fp' → Ow K F' H' v d fv → Ows K F' H' σ env' fp' → Q v H'
  | .ex C f env' => PoX K mg W F H fp σ C f env'
def PoA (Q : List V → Hp → Prop) : R (List OD) → Prop
  | .st => False
  | .ok d env' => ∀ v F' H' fv fp', Stp F H fp F' H' (Un2 fv fp') → Dj fv fp' → Ows K F' H' (v.map some) d fv → Ows K F' H' σ env' fp' → Q v H'
  | .ex C f env' => PoX K mg W F H fp σ C f env'
def PoT (Q : Bool → Hp → Prop) : R Bool → Prop
  | .st => False
  | .ok b env' => ∀ F' H' fp', Stp F H fp F' H' fp' → Ows K F' H' σ env' fp' → Q b H'
  | .ex C f env' => PoX K mg W F H fp σ C f env'
end
/-- an operand: a value by itself, or what a name holds -/
inductive Opd where
  | val (x : OD)
  | slot (i : Nat)
/-- what a place holds, if anything is known -/
def lk (env : Env') (i : Nat) : Option OD := match env[i]? with
  | some .h => none
  | o => o
def Opd.at (env : Env') : Opd → Option OD
  | .val x => some x
  | .slot i => lk env i
theorem lk_some {env : Env'} {i : Nat} {x : OD} (e : lk env i = some x) : env[i]? = some x ∧ x ≠ .h := by
  unfold lk at e
  split at e
  · cases e
  · rename_i o h
    exact ⟨e, fun z => by subst z; exact h e⟩
def PoV (K : PySem.W.Frag) (mg : Mg) (W : WX) (F H : Hp) (fp : Fp) (σ : L2.St) (Q : VK) : R Opd → Prop
  | .st => False
  | .ok (.val d) env' => ∀ v F' H' fv fp', Stp F H fp F' H' (Un2 fv fp') → Dj fv fp' → Ow K F' H' v d fv → Ows K F' H' σ env' fp' → Q v H'
  | .ok (.slot i) env' => ∀ v F' H' fp', Stp F H fp F' H' fp' → Ows K F' H' σ env' fp' → σ[i]? = some (some v) → Q v H'
  | .ex C f env' => PoX K mg W F H fp σ C f env'
def dTE (K : PySem.W.Frag) (mg : Mg) (W : WX) (f : Env' → R OD) : TE := fun σ H Q => ∃ F env fp, RS F H fp ∧ Ows K F H σ env fp ∧ PoE K mg W F H fp σ Q (f env)
def dTA (K : PySem.W.Frag) (mg : Mg) (W : WX) (f : Env' → R (List OD)) : TA := fun σ H Q => ∃ F env fp, RS F H fp ∧ Ows K F H σ env fp ∧ PoA K mg W F H fp σ Q (f env)
def dTT (K : PySem.W.Frag) (mg : Mg) (W : WX) (f : Env' → R Bool) : TT := fun σ H Q => ∃ F env fp, RS F H fp ∧ Ows K F H σ env fp ∧ PoT K mg W F H fp σ Q (f env)
def dTV (K : PySem.W.Frag) (mg : Mg) (W : WX) (f : Env' → R Opd) : TE := fun σ H Q => ∃ F env fp, RS F H fp ∧ Ows K F H σ env fp ∧ PoV K mg W F H fp σ Q (f env)
abbrev DE (X : Cx) (W : WX) (e : Expr) (f : Env' → R OD) : Prop := PE X e (dTE X.K X.mg W f)
abbrev DV (X : Cx) (W : WX) (e : Expr) (f : Env' → R Opd) : Prop := PE X e (dTV X.K X.mg W f)
abbrev DT (X : Cx) (W : WX) (e : Expr) (f : Env' → R Bool) : Prop := PT X e (dTT X.K X.mg W f)
theorem pe_weak {X : Cx} {e : Expr} {t u : TE} (h : PE X e t) (w : ∀ σ H Q, u σ H Q → t σ H Q) : PE X e u := ⟨fun pins s σ H Q I q => h.run pins s σ H Q I (w σ H Q q)⟩
theorem pt_weak {X : Cx} {e : Expr} {t u : TT} (h : PT X e t) (w : ∀ σ H Q, u σ H Q → t σ H Q) : PT X e u := ⟨fun pins s σ H Q I q => h.run pins s σ H Q I (w σ H Q q)⟩
theorem pw_weak {X : Cx} {e : Expr} {t u : TT} (h : PW X e t) (w : ∀ σ H Q, u σ H Q → t σ H Q) : PW X e u := ⟨fun wh pins s σ H Q I q => h.run wh pins s σ H Q I (w σ H Q q)⟩
theorem ps_weak {X : Cx} {e : Stmt} {t u : TS} (h : PS X e t) (w : ∀ D σ H, u D σ H → t D σ H) : PS X e u := ⟨fun pins s σ H D I q => h.run pins s σ H D I (w D σ H q)⟩
theorem pss_weak {X : Cx} {e : List Stmt} {t u : TS} (h : PSs X e t) (w : ∀ D σ H, u D σ H → t D σ H) : PSs X e u := ⟨fun pins s σ H D I q => h.run pins s σ H D I (w D σ H q)⟩
section
variable {mg : Mg} {W : WX} {F H F1 H1 : Hp} {fp f1 fq : Fp} {σ : L2.St} {env env1 : Env'} {Q : VK}
theorem PoX.step {C f e'} (s : Stp F H fp F1 H1 fq) (l : ∀ a, f1 a → fq a) (h : PoX K mg W F H fp σ C f e') : PoX K mg W F1 H1 f1 σ C f e' := fun F' H' fp' t o =>
  h F' H' fp' (s.tr (t.from l)) o
/-- one evaluation, then what follows: from a state that came by a step of the first one -/
theorem seqE {f : Env' → R OD} {β : Type} {P : R β → Prop} {k : OD → Env' → R β} {Q1 : VK} (s : Stp F H fp F1 H1 fq) (l : ∀ a, f1 a → fq a) (o : Ows K F1 H1 σ env1 f1)
    (hs : P .st → False) (hx : ∀ C f e, P (.ex C f e) → PoX K mg W F H fp σ C f e) (h : P ((f env1).bind k))
    (c : ∀ d e' v F' H' fv fp', Stp F1 H1 f1 F' H' (Un2 fv fp') → Dj fv fp' → Ow K F' H' v d fv → Ows K F' H' σ e' fp' → P (k d e') → Q1 v H') : dTE K mg W f σ H1 Q1 := by
  refine ⟨F1, env1, f1, ⟨s.rs.sub, fun a q => s.rs.own a (l a q)⟩, o, ?_⟩
  cases e : f env1 with
  | st => rw [e] at h; exact (hs h).elim
  | ok d e' => rw [e] at h; exact fun v F' H' fv fp' t dj w o' => c d e' v F' H' fv fp' t dj w o' h
  | ex C x e' => rw [e] at h; exact (hx C x e' h).step s l
theorem seqT {f : Env' → R Bool} {β : Type} {P : R β → Prop} {k : Bool → Env' → R β} {Q1 : Bool → Hp → Prop} (s : Stp F H fp F1 H1 fq) (l : ∀ a, f1 a → fq a) (o : Ows K F1 H1 σ env1 f1)
    (hs : P .st → False) (hx : ∀ C f e, P (.ex C f e) → PoX K mg W F H fp σ C f e) (h : P ((f env1).bind k))
    (c : ∀ d e' F' H' fp', Stp F1 H1 f1 F' H' fp' → Ows K F' H' σ e' fp' → P (k d e') → Q1 d H') : dTT K mg W f σ H1 Q1 := by
  refine ⟨F1, env1, f1, ⟨s.rs.sub, fun a q => s.rs.own a (l a q)⟩, o, ?_⟩
  cases e : f env1 with
  | st => rw [e] at h; exact (hs h).elim
  | ok d e' => rw [e] at h; exact fun F' H' fp' t o' => c d e' F' H' fp' t o' h
  | ex C x e' => rw [e] at h; exact (hx C x e' h).step s l
theorem seqA {f : Env' → R (List OD)} {β : Type} {P : R β → Prop} {k : List OD → Env' → R β} {Q1 : List V → Hp → Prop} (s : Stp F H fp F1 H1 fq) (l : ∀ a, f1 a → fq a) (o : Ows K F1 H1 σ env1 f1)
    (hs : P .st → False) (hx : ∀ C f e, P (.ex C f e) → PoX K mg W F H fp σ C f e) (h : P ((f env1).bind k))
    (c : ∀ d e' v F' H' fv fp', Stp F1 H1 f1 F' H' (Un2 fv fp') → Dj fv fp' → Ows K F' H' (v.map some) d fv → Ows K F' H' σ e' fp' → P (k d e') → Q1 v H') : dTA K mg W f σ H1 Q1 := by
  refine ⟨F1, env1, f1, ⟨s.rs.sub, fun a q => s.rs.own a (l a q)⟩, o, ?_⟩
  cases e : f env1 with
  | st => rw [e] at h; exact (hs h).elim
  | ok d e' => rw [e] at h; exact fun v F' H' fv fp' t dj w o' => c d e' v F' H' fv fp' t dj w o' h
  | ex C x e' => rw [e] at h; exact (hx C x e' h).step s l
/-- an operand held while what follows goes on: by itself at g, or by a name -/
def Held (K : PySem.W.Frag) (F H : Hp) (σ : L2.St) (v : V) (g : Fp) : Opd → Prop
  | .val d => Ow K F H v d g
  | .slot i => σ[i]? = some (some v)
theorem seqV {f : Env' → R Opd} {β : Type} {P : R β → Prop} {k : Opd → Env' → R β} {Q1 : VK} (s : Stp F H fp F1 H1 fq) (l : ∀ a, f1 a → fq a) (o : Ows K F1 H1 σ env1 f1)
    (hs : P .st → False) (hx : ∀ C f e, P (.ex C f e) → PoX K mg W F H fp σ C f e) (h : P ((f env1).bind k))
    (c : ∀ d e' v F' H' fv fp', Stp F1 H1 f1 F' H' (Un2 fv fp') → Dj fv fp' → Held K F' H' σ v fv d → Ows K F' H' σ e' fp' → P (k d e') → Q1 v H') : dTV K mg W f σ H1 Q1 := by
  refine ⟨F1, env1, f1, ⟨s.rs.sub, fun a q => s.rs.own a (l a q)⟩, o, ?_⟩
  cases e : f env1 with
  | st => rw [e] at h; exact (hs h).elim
  | ok d e' =>
    rw [e] at h
    cases d with
    | val d => exact fun v F' H' fv fp' t dj w o' => c (.val d) e' v F' H' fv fp' t dj w o' h
    | slot i => exact fun v F' H' fp' t o' w => c (.slot i) e' v F' H' (fun _ => False) fp' (t.less (fun a q => q.elim False.elim id)) (fun _ z => z.elim) w o' h
  | ex C x e' => rw [e] at h; exact (hx C x e' h).step s l
theorem Held.step {F' H' : Hp} {f f' g : Fp} {v x} (s : Stp F H f F' H' f') (d : Dj g f) (o : ∀ a, g a → H a ≠ none) (w : Held K F H σ v g x) : Held K F' H' σ v g x := by
  cases x with
  | val x => exact Ow.step s d o w
  | slot i => exact w
/-- what an operand is at last, as a tree -/
theorem Held.look {v g x} {fp : Fp} {c : Opd} (w : Held K F H σ v g c) (o : Ows K F H σ env fp) (e : c.at env = some x) : ∃ fx, Ow K F H v x fx ∧ ∀ a, fx a → Un2 g fp a := by
  cases c with
  | val y =>
    cases e
    exact ⟨g, w, fun a => .inl⟩
  | slot i =>
    have w : σ[i]? = some (some v) := w
    have e1 := lk_some (show lk env i = some x from e)
    obtain ⟨v', f1, f2, a, b, _, d, _, _⟩ := o.get e1.1 e1.2
    rw [w] at a; cases a
    exact ⟨f1, b, fun a q => .inr (d a q)⟩
end
/-- what an operation of two values makes of two trees -/
def OpS (K : PySem.W.Frag) (r : R2) (g : OD → OD → Option OD) : Prop := ∀ F H v u x y fx fy fp d (Q : VK), RS F H fp → (∀ a, fx a → fp a) → (∀ a, fy a → fp a) → Ow K F H v x fx → Ow K F H u y fy → g x y = some d →
  (∀ v' F' H' f', Stp F H (fun _ => False) F' H' f' → Ow K F' H' v' d f' → Q v' H') → r v u H Q
def UnS (K : PySem.W.Frag) (r : V → Hp → VK → Prop) (g : OD → Option OD) : Prop := ∀ F H v x fx fp d (Q : VK), RS F H fp → (∀ a, fx a → fp a) → Ow K F H v x fx → g x = some d →
  (∀ v' F' H' f', Stp F H (fun _ => False) F' H' f' → Ow K F' H' v' d f' → Q v' H') → r v H Q
def CaS (K : PySem.W.Frag) (r : List V → Hp → VK → Prop) (g : List OD → Option OD) : Prop := ∀ F H vs xs fp d (Q : VK), RS F H fp → Paired (fun v x => ∃ fx : Fp, (∀ a, fx a → fp a) ∧ Ow K F H v x fx) vs xs → g xs = some d →
  (∀ v' F' H' f', Stp F H (fun _ => False) F' H' f' → Ow K F' H' v' d f' → Q v' H') → r vs H Q
end DL

namespace DL
variable {K : PySem.W.Frag}
open PySem L2
abbrev NoFp : Fp := fun _ => False
theorem dj0 {g : Fp} : Dj NoFp g := fun _ z => z.elim
theorem dj0' {g : Fp} : Dj g NoFp := fun _ _ z => z
theorem Stp.id0 {F H : Hp} {fp : Fp} (r : RS F H fp) : Stp F H fp F H (Un2 NoFp fp) := (Stp.rfl' r).less fun _ q => q.elim False.elim id
theorem Ow.sub0 {F H : Hp} {v d} {g : Fp} (h : Ow K F H v (.p d) g) : Ow K F H v (.p d) NoFp := h.np
section
variable {X : Cx} {W : WX}
/-! ### names -/
def eVar (i : Nat) : Env' → R OD := fun env => match lk env i with
  | none => .st
  | some (.p d) => .ok (.p d) env
  | some (.sc ns) => .ok (.sc ns) env
  | some (.er C f) => .ok (.er C f) env
  | some (.fo C ns ds) => .ok (.fo C ns ds) env
  | some x => match frz x with
    | some d => .ok (.p d) (env.set i (.p d))
    | none => .st
def eMv (i : Nat) : Env' → R OD := fun env => match lk env i with
  | none => .st
  | some (.p d) => .ok (.p d) env
  | some x => .ok x (env.set i .h)
def eAt (i : Nat) : Env' → R Opd := fun env => match lk env i with
  | none => .st
  | some _ => .ok (.slot i) env
theorem de_var (i : Nat) {x : Str} {pos : Pos} (hN : X.N[i]? = some x := by rfl) (hv : Vis X.env.scope x := by first | exact Or.inl rfl | exact Or.inr (Or.inl rfl) | exact Or.inr (Or.inr rfl)) (hd : (x == ("__debug__" : Str)) = false := by decide)
    (hcd : (x == ("__classdict__" : Str)) = false := by decide) : DE X W (.Name x pos) (eVar i) := by
  refine pe_weak (pe_var hN hv hd hcd) fun σ H Q ⟨F, env, fp, r, o, h⟩ => ?_
  have go : ∀ x, lk env i = some x → ∀ d, frz x = some d → PoE X.K X.mg W F H fp σ Q (.ok (.p d) (env.set i (.p d))) → tVar i σ H Q := fun x e d hf h => by
    obtain ⟨e, n⟩ := lk_some e
    obtain ⟨v, f1, f2, a, b, c, s1, s2, dj⟩ := o.get e n
    refine ⟨v, a, ?_⟩
    have rr : RS F H (Un2 f1 f2) := ⟨r.sub, fun a q => r.own a (q.elim (s1 a) (s2 a))⟩
    have st := Stp.freeze rr dj
    have w := b.fz r.sub (g := f1) (fun _ q => q) hf
    have c' := c.mono (F' := fz F H f1) (H' := H) st.inc fun _ _ => rfl
    have p := Ows.put (g := NoFp) (Ow.p w) c' a dj0
    rw [List.set_set] at p
    exact h v _ H NoFp f2 ((st.from fun a q => q.elim (s1 a) (s2 a)).less fun _ q => q.elim False.elim id) dj0 (.p w) (p.weak fun _ q => q.elim False.elim id)
  have cp : ∀ x, lk env i = some x → (∀ v g, Ow X.K F H v x g → Ow X.K F H v x NoFp) → PoE X.K X.mg W F H fp σ Q (.ok x env) → tVar i σ H Q := fun x e hc h => by
    obtain ⟨e, n⟩ := lk_some e
    obtain ⟨v, f1, f2, a, b, _⟩ := o.get e n
    exact ⟨v, a, h v F H NoFp fp (Stp.id0 r) dj0 (hc _ _ b) o⟩
  unfold eVar at h
  cases e : lk env i with
  | none => rw [e] at h; exact h.elim
  | some x =>
    rw [e] at h
    cases x with
    | p d => exact cp _ e (fun _ _ w => w.np) h
    | sc ns => exact cp _ e (fun _ _ w => by cases w with | sc a => exact .sc a) h
    | er C f => exact cp _ e (fun _ _ w => by cases w with | er a => exact .er a) h
    | ob C ns xs => exact h.elim
    | fo C ns ds => exact cp _ e (fun _ _ w => by cases w with | fo a b c d => exact .fo a b c d) h
    | dc ks xs => exact h.elim
    | h => exact ((lk_some e).2 rfl).elim
    | l xs =>
      dsimp only at h
      cases hf : frz (.l xs) with
      | none => rw [hf] at h; exact h.elim
      | some d => rw [hf] at h; exact go _ e d hf h
    | t xs =>
      dsimp only at h
      cases hf : frz (.t xs) with
      | none => rw [hf] at h; exact h.elim
      | some d => rw [hf] at h; exact go _ e d hf h
theorem de_mv (i : Nat) {x : Str} {pos : Pos} (hN : X.N[i]? = some x := by rfl) (hv : Vis X.env.scope x := by first | exact Or.inl rfl | exact Or.inr (Or.inl rfl) | exact Or.inr (Or.inr rfl)) (hd : (x == ("__debug__" : Str)) = false := by decide)
    (hcd : (x == ("__classdict__" : Str)) = false := by decide) : DE X W (.Name x pos) (eMv i) := by
  refine pe_weak (pe_var hN hv hd hcd) fun σ H Q ⟨F, env, fp, r, o, h⟩ => ?_
  unfold eMv at h
  cases e : lk env i with
  | none => rw [e] at h; exact h.elim
  | some x =>
    rw [e] at h
    obtain ⟨e', n⟩ := lk_some e
    obtain ⟨v, f1, f2, a, b, c, s1, s2, dj⟩ := o.get e' n
    refine ⟨v, a, ?_⟩
    have mvd : PoE X.K X.mg W F H fp σ Q (.ok x (env.set i .h)) → Q v H := fun h => h v F H f1 f2 ((Stp.rfl' r).less fun a q => q.elim (s1 a) (s2 a)) dj b c
    cases x with
    | p d => exact h v F H NoFp fp (Stp.id0 r) dj0 b.np o
    | h => exact (n rfl).elim
    | sc ns => exact mvd h
    | er C f => exact mvd h
    | ob C ns xs => exact mvd h
    | fo C ns ds => exact mvd h
    | dc ks xs => exact mvd h
    | l xs => exact mvd h
    | t xs => exact mvd h
theorem dv_at (i : Nat) {x : Str} {pos : Pos} (hN : X.N[i]? = some x := by rfl) (hv : Vis X.env.scope x := by first | exact Or.inl rfl | exact Or.inr (Or.inl rfl) | exact Or.inr (Or.inr rfl)) (hd : (x == ("__debug__" : Str)) = false := by decide)
    (hcd : (x == ("__classdict__" : Str)) = false := by decide) : DV X W (.Name x pos) (eAt i) := by
  refine pe_weak (pe_var hN hv hd hcd) fun σ H Q ⟨F, env, fp, r, o, h⟩ => ?_
  unfold eAt at h
  cases e : lk env i with
  | none => rw [e] at h; exact h.elim
  | some x =>
    rw [e] at h
    obtain ⟨e', n⟩ := lk_some e
    obtain ⟨v, f1, f2, a, b, c, s1, s2, dj⟩ := o.get e' n
    exact ⟨v, a, h v F H fp (Stp.rfl' r) o a⟩
def eVal (f : Env' → R OD) : Env' → R Opd := fun env => (f env).bind fun d e => .ok (.val d) e
theorem dv_of {e : Expr} {f : Env' → R OD} (h : DE X W e f) : DV X W e (eVal f) := pe_weak h fun σ H Q ⟨F, env, fp, r, o, h⟩ => by
  refine ⟨F, env, fp, r, o, ?_⟩
  unfold eVal at h
  cases q : f env with
  | st => rw [q] at h; exact h
  | ok d e => rw [q] at h; exact h
  | ex C x e => rw [q] at h; exact h
/-! ### constants -/
def eC (d : PyData) : Env' → R OD := fun env => .ok (.p d) env
theorem cc {v : V} {d : PyData} (hd : ∀ F, Dd F v d) {mg : Mg} {σ H Q} : dTE K mg W (eC d) σ H Q → tC v σ H Q := fun ⟨F, env, fp, r, o, h⟩ =>
  h v F H NoFp fp (Stp.id0 r) dj0 (.p (hd F)) o
theorem de_int {i : Int} {j pos} : DE X W (.Constant (.int i) j pos) (eC (.int i)) := pe_weak pe_int fun _ _ _ => cc fun _ => .int i
theorem de_bl {i : Bool} {j pos} : DE X W (.Constant (.bool i) j pos) (eC (.bool i)) := pe_weak pe_bl fun _ _ _ => cc fun _ => .bl i
theorem de_str {i : Str} {j pos} : DE X W (.Constant (.str i) j pos) (eC (.str i)) := pe_weak pe_str fun _ _ _ => cc fun _ => .str i
theorem de_non {j pos} : DE X W (.Constant .none j pos) (eC .none) := pe_weak pe_non fun _ _ _ => cc fun _ => .non
theorem de_globStr {x : Str} {z : Str} {t pos} (hg : Gl X x) (hm : X.mg x = some (.str z t)) (hd : (x == ("__debug__" : Str)) = false := by decide) : DE X W (.Name x pos) (eC (.str z)) := pe_weak (pe_glob (v := .str z) hg hm ⟨t, rfl⟩ hd) fun _ _ _ => cc fun _ => .str z
theorem de_globInt {x : Str} {z : Int} {t pos} (hg : Gl X x) (hm : X.mg x = some (.int z t)) (hd : (x == ("__debug__" : Str)) = false := by decide) : DE X W (.Name x pos) (eC (.int z)) := pe_weak (pe_glob (v := .int z) hg hm ⟨t, rfl⟩ hd) fun _ _ _ => cc fun _ => .int z
/-! ### operations -/
def ap2 (g : OD → OD → Option OD) (a b : Opd) (e : Env') : R OD := match a.at e, b.at e with
  | some x, some y => R.of (g x y) e
  | _, _ => .st
def eBin (g : OD → OD → Option OD) (fa fb : Env' → R Opd) : Env' → R OD := fun env => (fa env).bind fun a e1 => (fb e1).bind fun b e2 => ap2 g a b e2
section
variable {mg : Mg} {F H F1 H1 : Hp} {fp f1 fq : Fp} {σ : L2.St} {env env1 : Env'} {Q : VK}
theorem PoE.st_ (h : PoE K mg W F H fp σ Q .st) : False := h
theorem PoE.ex_ (C f e) (h : PoE K mg W F H fp σ Q (.ex C f e)) : PoX K mg W F H fp σ C f e := h
/-- the end of an operation: what it makes, beside what is held -/
theorem PoE.fin {d : OD} {e : Env'} {f2 : Fp} (h : PoE K mg W F H fp σ Q (.ok d e)) (s : Stp F H fp F1 H1 fq) (l : ∀ a, f2 a → fq a) (o : Ows K F1 H1 σ e f2) :
    ∀ v F' H' f', Stp F1 H1 NoFp F' H' f' → Ow K F' H' v d f' → Q v H' := fun v F' H' f' t w => by
  have own : ∀ a, f2 a → F1 a = none ∧ H1 a ≠ none := fun a q => s.rs.own a (l a q)
  have t2 := t.frame (g := f2) dj0' own
  have dj := t.dj (g := f2) dj0' fun a q => (own a q).2
  have t3 : Stp F1 H1 fq F' H' (Un2 f' f2) := t2.from fun a q => q.elim False.elim (l a)
  exact h v F' H' f' f2 (s.tr t3) (fun a q z => dj a z q) w (o.step t dj0' fun a q => (own a q).2)
theorem RS.of {f2 : Fp} (s : Stp F H fp F1 H1 fq) (l : ∀ a, f2 a → fq a) : RS F1 H1 f2 := ⟨s.rs.sub, fun a q => s.rs.own a (l a q)⟩
theorem bin_core {r : R2} {g} {fa fb : Env' → R Opd} (hs : OpS K r g) : dTE K mg W (eBin g fa fb) σ H Q → tOp r (dTV K mg W fa) (dTV K mg W fb) σ H Q := fun ⟨F, env, fp, rs, o, h⟩ => by
  refine seqV (Stp.rfl' rs) (fun _ q => q) o (fun h => h) PoE.ex_ h fun a e1 v F1 H1 fv f1 s1 dj1 w1 o1 h1 => ?_
  refine seqV s1 (fun _ q => .inr q) o1 (fun h => h) PoE.ex_ h1 fun b e2 u F2 H2 fu f2 s2 dj2 w2 o2 h2 => ?_
  have own : ∀ a, fv a → F1 a = none ∧ H1 a ≠ none := fun a q => s1.rs.own a (.inl q)
  have w1' := Held.step s2 dj1 (fun a q => (own a q).2) w1
  have s3 : Stp F H fp F2 H2 (Un2 (Un2 fu f2) fv) := s1.tr ((s2.frame dj1 own).from fun a q => q.elim .inr .inl)
  unfold ap2 at h2
  cases ea : a.at e2 with
  | none => rw [ea] at h2; exact h2.elim
  | some x =>
    cases eb : b.at e2 with
    | none => rw [ea, eb] at h2; exact h2.elim
    | some y =>
      rw [ea, eb] at h2
      dsimp only at h2
      cases eg : g x y with
      | none => rw [eg] at h2; exact h2.elim
      | some d =>
        rw [eg] at h2
        obtain ⟨fx, ox, lx⟩ := w1'.look o2 ea
        obtain ⟨fy, oy, ly⟩ := w2.look o2 eb
        exact hs F2 H2 v u x y fx fy (Un2 (Un2 fu f2) fv) d Q s3.rs (fun a q => (lx a q).elim .inr fun z => .inl (.inr z)) (fun a q => .inl (ly a q)) ox oy eg
          (h2.fin s3 (fun a q => .inl (.inr q)) o2)
def ap1 (g : OD → Option OD) (a : Opd) (e : Env') : R OD := match a.at e with
  | some x => R.of (g x) e
  | _ => .st
def eUn (g : OD → Option OD) (fa : Env' → R Opd) : Env' → R OD := fun env => (fa env).bind fun a e1 => ap1 g a e1
theorem un_core {r : V → Hp → VK → Prop} {g} {fa : Env' → R Opd} (hs : UnS K r g) : dTE K mg W (eUn g fa) σ H Q → tUn r (dTV K mg W fa) σ H Q := fun ⟨F, env, fp, rs, o, h⟩ => by
  refine seqV (Stp.rfl' rs) (fun _ q => q) o (fun h => h) PoE.ex_ h fun a e1 v F1 H1 fv f1 s1 dj1 w1 o1 h1 => ?_
  unfold ap1 at h1
  cases ea : a.at e1 with
  | none => rw [ea] at h1; exact h1.elim
  | some x =>
    rw [ea] at h1
    dsimp only at h1
    cases eg : g x with
    | none => rw [eg] at h1; exact h1.elim
    | some d =>
      rw [eg] at h1
      obtain ⟨fx, ox, lx⟩ := w1.look o1 ea
      exact hs F1 H1 v x fx (Un2 fv f1) d Q s1.rs lx ox eg (h1.fin s1 (fun _ q => .inr q) o1)
end
variable {a b : Expr} {fa fb : Env' → R Opd} {pos : Pos}
theorem de_bin {op : Operator} {r : R2} {g} (ho : OpR X (binaryOp op) r) (hs : OpS X.K r g) (ha : DV X W a fa) (hb : DV X W b fb) : DE X W (.BinOp a op b pos) (eBin g fa fb) :=
  pe_weak (pe_op ho ha hb) fun _ _ _ => bin_core hs
theorem de_cmp {op : CmpOp} {r : R2} {g} (ho : OpR X (compareOp op) r) (hs : OpS X.K r g) (hm : behindInMarks op b = false) (ha : DV X W a fa) (hb : DV X W b fb) : DE X W (.Compare a [op] [b] pos) (eBin g fa fb) :=
  pe_weak (pe_cmpR ho ha hb hm) fun _ _ _ => bin_core hs
theorem de_ix {r : R2} {g} (ho : IxR X r) (hs : OpS X.K r g) (hp : PlainIx b) (ha : DV X W a fa) (hb : DV X W b fb) : DE X W (.Subscript a b pos) (eBin g fa fb) :=
  pe_weak (pe_ix ho ha hb hp) fun _ _ _ => bin_core hs
theorem de_un {op : UnaryOp} {r} {g} (ho : UnR X (unaryOp op) r) (hs : UnS X.K r g) (ha : DV X W a fa) : DE X W (.UnaryOp op a pos) (eUn g fa) :=
  pe_weak (pe_un ho ha) fun _ _ _ => un_core hs
/-! ### tests -/
def eB (f : Env' → R OD) : Env' → R Bool := fun env => (f env).bind fun d e => match d with
  | .p (.bool b) => .ok b e
  | _ => .st
theorem PoT.ex_ {mg : Mg} {F H : Hp} {fp : Fp} {σ} {Q} (C f e) (h : PoT K mg W F H fp σ Q (.ex C f e)) : PoX K mg W F H fp σ C f e := h
theorem bool_core {mg : Mg} {σ : L2.St} {H : Hp} {Q : Bool → Hp → Prop} {f : Env' → R OD} : dTT K mg W (eB f) σ H Q → dTE K mg W f σ H fun x H' => ∃ c, x = .bl c ∧ Q c H' := fun ⟨F, env, fp, rs, o, h⟩ => by
  refine seqE (Stp.rfl' rs) (fun _ q => q) o (fun h => h) PoT.ex_ h fun d e v F' H' fv fp' s dj w o' h => ?_
  cases d with
  | p d =>
    cases d with
    | bool b =>
      cases w with
      | p w =>
        cases w
        exact ⟨b, rfl, h F' H' fp' (s.less fun _ => .inr) o'⟩
    | _ => exact h.elim
  | _ => exact h.elim
theorem dt_of {e : Expr} {f : Env' → R OD} (h : DE X W e f) (he : ∀ whole, isTrue e X.env whole = (do let v ← whole; standAt e.pos; holding [v] (truthy v)) := by intro _; rfl) : DT X W e (eB f) :=
  pt_weak (pt_val h he) fun _ _ _ => bool_core
def eAnd (f g : Env' → R Bool) : Env' → R Bool := fun env => (f env).bind fun b e => if b then g e else .ok false e
def eOr (f g : Env' → R Bool) : Env' → R Bool := fun env => (f env).bind fun b e => if b then .ok true e else g e
def eNot (f : Env' → R Bool) : Env' → R Bool := fun env => (f env).bind fun b e => .ok (!b) e
def eBv (f : Env' → R Bool) : Env' → R OD := fun env => (f env).bind fun b e => .ok (.p (.bool b)) e
abbrev DW (X : Cx) (W : WX) (e : Expr) (f : Env' → R Bool) : Prop := PW X e (dTT X.K X.mg W f)
section
variable {mg : Mg} {σ : L2.St} {H : Hp} {Q : Bool → Hp → Prop} {f g : Env' → R Bool}
theorem and_core : dTT K mg W (eAnd f g) σ H Q → tAnd (dTT K mg W f) (dTT K mg W g) σ H Q := fun ⟨F, env, fp, rs, o, h⟩ => by
  refine seqT (Stp.rfl' rs) (fun _ q => q) o (fun h => h) PoT.ex_ h fun b e1 F1 H1 f1 s1 o1 h1 => ?_
  cases b with
  | false => rw [if_neg Bool.false_ne_true]; exact h1 F1 H1 f1 s1 o1
  | true =>
    rw [if_pos rfl]
    rw [← show ((g e1).bind fun b e => R.ok b e) = g e1 by cases g e1 <;> rfl] at h1
    exact seqT s1 (fun _ q => q) o1 (fun h => h) PoT.ex_ h1 fun b e2 F2 H2 f2 s2 o2 h2 => h2 F2 H2 f2 (s1.tr s2) o2
theorem or_core : dTT K mg W (eOr f g) σ H Q → tOr (dTT K mg W f) (dTT K mg W g) σ H Q := fun ⟨F, env, fp, rs, o, h⟩ => by
  refine seqT (Stp.rfl' rs) (fun _ q => q) o (fun h => h) PoT.ex_ h fun b e1 F1 H1 f1 s1 o1 h1 => ?_
  cases b with
  | true => rw [if_pos rfl]; exact h1 F1 H1 f1 s1 o1
  | false =>
    rw [if_neg Bool.false_ne_true]
    rw [← show ((g e1).bind fun b e => R.ok b e) = g e1 by cases g e1 <;> rfl] at h1
    exact seqT s1 (fun _ q => q) o1 (fun h => h) PoT.ex_ h1 fun b e2 F2 H2 f2 s2 o2 h2 => h2 F2 H2 f2 (s1.tr s2) o2
theorem not_core : dTT K mg W (eNot f) σ H Q → tNot (dTT K mg W f) σ H Q := fun ⟨F, env, fp, rs, o, h⟩ =>
  seqT (Stp.rfl' rs) (fun _ q => q) o (fun h => h) PoT.ex_ h fun b e1 F1 H1 f1 s1 o1 h1 => h1 F1 H1 f1 s1 o1
end
section
variable {f g : Env' → R Bool} {rest : List Expr}
theorem dw_and1 (ha : DT X W a f) : DW X W (.BoolOp .And [a] pos) f := pw_and1 ha
theorem dw_or1 (ha : DT X W a f) : DW X W (.BoolOp .Or [a] pos) f := pw_or1 ha
theorem dw_and (ha : DT X W a f) (hb : DW X W (.BoolOp .And (b :: rest) pos) g) : DW X W (.BoolOp .And (a :: b :: rest) pos) (eAnd f g) := pw_weak (pw_and ha hb) fun _ _ _ => and_core
theorem dw_or (ha : DT X W a f) (hb : DW X W (.BoolOp .Or (b :: rest) pos) g) : DW X W (.BoolOp .Or (a :: b :: rest) pos) (eOr f g) := pw_weak (pw_or ha hb) fun _ _ _ => or_core
theorem dt_w {e : Expr} (h : DW X W e f) : DT X W e f := h.pt
theorem dt_not (ha : DT X W a f) : DT X W (.UnaryOp .Not a pos) (eNot f) := pt_weak (pt_not ha) fun _ _ _ => not_core
end
/-! ### and, or, not as values -/
def eAndV (f g : Env' → R OD) : Env' → R OD := fun env => (eB f env).bind fun b e => if b then g e else .ok (.p (.bool false)) e
def eOrV (f g : Env' → R OD) : Env' → R OD := fun env => (eB f env).bind fun b e => if b then .ok (.p (.bool true)) e else g e
def eNotV (f : Env' → R OD) : Env' → R OD := fun env => (eB f env).bind fun b e => .ok (.p (.bool (!b))) e
theorem seqB {mg : Mg} {F H F1 H1 : Hp} {fp f1 fq : Fp} {σ : L2.St} {env1 : Env'} {f : Env' → R OD} {β : Type} {P : R β → Prop} {k : Bool → Env' → R β} {Q1 : VK} (s : Stp F H fp F1 H1 fq) (l : ∀ a, f1 a → fq a) (o : Ows K F1 H1 σ env1 f1)
    (hs : P .st → False) (hx : ∀ C f e, P (.ex C f e) → PoX K mg W F H fp σ C f e) (h : P ((eB f env1).bind k))
    (c : ∀ d e' F' H' fp', Stp F1 H1 f1 F' H' fp' → Ows K F' H' σ e' fp' → P (k d e') → Q1 (.bl d) H') : dTE K mg W f σ H1 Q1 := by
  have e : ((eB f env1).bind k) = (f env1).bind fun d e => match d with
    | .p (.bool b) => k b e
    | _ => .st := by
    unfold eB
    cases f env1 with
    | st => rfl
    | ex => rfl
    | ok d e =>
      cases d with
      | p d => cases d <;> rfl
      | _ => rfl
  rw [e] at h
  refine seqE s l o hs hx h fun d e v F' H' fv fp' s dj w o' h => ?_
  cases d with
  | p d =>
    cases d with
    | bool b =>
      cases w with
      | p w => cases w; exact c b e F' H' fp' (s.less fun _ => .inr) o' h
    | _ => exact (hs h).elim
  | _ => exact (hs h).elim
theorem PoE.st' {mg : Mg} {F H : Hp} {fp : Fp} {σ} {Q} (h : PoE K mg W F H fp σ Q .st) : False := h
theorem andV_core {mg : Mg} {σ : L2.St} {H : Hp} {Q : VK} {f g : Env' → R OD} : dTE K mg W (eAndV f g) σ H Q → tAndV (dTE K mg W f) (dTE K mg W g) σ H Q := fun ⟨F, env, fp, rs, o, h⟩ => by
  refine seqB (Stp.rfl' rs) (fun _ q => q) o (fun h => h) PoE.ex_ h fun b e1 F1 H1 f1 s1 o1 h1 => ⟨b, rfl, ?_⟩
  cases b with
  | false => rw [if_neg Bool.false_ne_true]; exact h1 _ F1 H1 NoFp f1 (s1.tr (Stp.id0 s1.rs)) dj0 (.p (.bl _)) o1
  | true =>
    rw [if_pos rfl]
    rw [← show ((g e1).bind fun b e => R.ok b e) = g e1 by cases g e1 <;> rfl] at h1
    exact seqE s1 (fun _ q => q) o1 (fun h => h) PoE.ex_ h1 fun b e2 v F2 H2 fv f2 s2 dj w o2 h2 => h2 v F2 H2 fv f2 (s1.tr s2) dj w o2
theorem orV_core {mg : Mg} {σ : L2.St} {H : Hp} {Q : VK} {f g : Env' → R OD} : dTE K mg W (eOrV f g) σ H Q → tOrV (dTE K mg W f) (dTE K mg W g) σ H Q := fun ⟨F, env, fp, rs, o, h⟩ => by
  refine seqB (Stp.rfl' rs) (fun _ q => q) o (fun h => h) PoE.ex_ h fun b e1 F1 H1 f1 s1 o1 h1 => ⟨b, rfl, ?_⟩
  cases b with
  | true => rw [if_pos rfl]; exact h1 _ F1 H1 NoFp f1 (s1.tr (Stp.id0 s1.rs)) dj0 (.p (.bl _)) o1
  | false =>
    rw [if_neg Bool.false_ne_true]
    rw [← show ((g e1).bind fun b e => R.ok b e) = g e1 by cases g e1 <;> rfl] at h1
    exact seqE s1 (fun _ q => q) o1 (fun h => h) PoE.ex_ h1 fun b e2 v F2 H2 fv f2 s2 dj w o2 h2 => h2 v F2 H2 fv f2 (s1.tr s2) dj w o2
theorem notV_core {mg : Mg} {σ : L2.St} {H : Hp} {Q : VK} {f : Env' → R OD} : dTE K mg W (eNotV f) σ H Q → tNotV (dTE K mg W f) σ H Q := fun ⟨F, env, fp, rs, o, h⟩ =>
  seqB (Stp.rfl' rs) (fun _ q => q) o (fun h => h) PoE.ex_ h fun b e1 F1 H1 f1 s1 o1 h1 => ⟨b, rfl, h1 _ F1 H1 NoFp f1 (s1.tr (Stp.id0 s1.rs)) dj0 (.p (.bl _)) o1⟩
section
variable {f g : Env' → R OD} {rest : List Expr}
theorem de_one {op} (ha : DE X W a f) : DE X W (.BoolOp op [a] pos) f := pe_one ha
theorem de_and (ha : DE X W a f) (hb : DE X W (.BoolOp .And (b :: rest) pos) g) : DE X W (.BoolOp .And (a :: b :: rest) pos) (eAndV f g) := pe_weak (pe_and ha hb) fun _ _ _ => andV_core
theorem de_or (ha : DE X W a f) (hb : DE X W (.BoolOp .Or (b :: rest) pos) g) : DE X W (.BoolOp .Or (a :: b :: rest) pos) (eOrV f g) := pe_weak (pe_or ha hb) fun _ _ _ => orV_core
theorem de_not (ha : DE X W a f) : DE X W (.UnaryOp .Not a pos) (eNotV f) := pe_weak (pe_not ha) fun _ _ _ => notV_core
end
/-! ### argument lists, displays -/
abbrev DA (X : Cx) (W : WX) (es : List Expr) (f : Env' → R (List OD)) : Prop := PA X es (dTA X.K X.mg W f)
def aNil : Env' → R (List OD) := fun env => .ok [] env
def aCons (f : Env' → R OD) (g : Env' → R (List OD)) : Env' → R (List OD) := fun env => (f env).bind fun x e => (g e).bind fun xs e2 => .ok (x :: xs) e2
theorem PoA.ex_ {mg : Mg} {F H : Hp} {fp : Fp} {σ} {Q} (C f e) (h : PoA K mg W F H fp σ Q (.ex C f e)) : PoX K mg W F H fp σ C f e := h
theorem pa_weak {X : Cx} {e : List Expr} {t u : TA} (h : PA X e t) (w : ∀ σ H Q, u σ H Q → t σ H Q) : PA X e u := ⟨fun pos pins s σ H Q I q => h.run pos pins s σ H Q I (w σ H Q q)⟩
theorem da_nil : DA X W [] aNil := pa_weak pa_nil fun _ H _ ⟨F, env, fp, rs, o, h⟩ => h [] F H NoFp fp (Stp.id0 rs) dj0 .nil o
theorem acons_core {mg : Mg} {σ : L2.St} {H : Hp} {Q : List V → Hp → Prop} {f : Env' → R OD} {g : Env' → R (List OD)} : dTA K mg W (aCons f g) σ H Q → tCons (dTE K mg W f) (dTA K mg W g) σ H Q := fun ⟨F, env, fp, rs, o, h⟩ => by
  refine seqE (Stp.rfl' rs) (fun _ q => q) o (fun h => h) PoA.ex_ h fun a e1 v F1 H1 fv f1 s1 dj1 w1 o1 h1 => ?_
  refine seqA s1 (fun _ q => .inr q) o1 (fun h => h) PoA.ex_ h1 fun b e2 u F2 H2 fu f2 s2 dj2 w2 o2 h2 => ?_
  have own : ∀ a, fv a → F1 a = none ∧ H1 a ≠ none := fun a q => s1.rs.own a (.inl q)
  have w1' := w1.step s2 dj1 (fun a q => (own a q).2)
  have d3 := s2.dj dj1 fun a q => (own a q).2
  have s3 : Stp F H fp F2 H2 (Un2 (Un2 fu f2) fv) := s1.tr ((s2.frame dj1 own).from fun a q => q.elim .inr .inl)
  exact h2 (v :: u) F2 H2 (Un2 fv fu) f2 (s3.less fun a q => q.elim (fun q => q.elim .inr fun q => .inl (.inl q)) fun q => .inl (.inr q)) (fun a q z => q.elim (fun q => d3 a q (.inr z)) fun q => dj2 a q z)
    (.cons (f1 := fv) (f2 := fu) w1' w2 (fun _ => .inl) (fun _ => .inr) fun a q z => d3 a q (.inl z)) o2
theorem da_cons {e : Expr} {es : List Expr} {f g} (ha : DE X W e f) (hr : DA X W es g) (hs : starEach (e :: es) X.env = (false, eval e X.env) :: starEach es X.env := by rfl) : DA X W (e :: es) (aCons f g) :=
  pa_weak (pa_cons ha hr hs) fun _ _ _ => acons_core
def allp : List OD → Option (List PyData)
  | [] => some []
  | .p d :: xs => (allp xs).map (d :: ·)
  | _ => none
theorem allp_eq : ∀ {xs ds}, allp xs = some ds → xs = ds.map .p
  | [], ds, h => by cases h; rfl
  | .p d :: xs, ds, h => by
    unfold allp at h
    cases q : allp xs with
    | none => rw [q] at h; cases h
    | some es => rw [q] at h; cases h; rw [allp_eq q]; rfl
  | .h :: _, _, h => nomatch h
  | .l _ :: _, _, h => nomatch h
  | .t _ :: _, _, h => nomatch h
  | .sc _ :: _, _, h => nomatch h
  | .er _ _ :: _, _, h => nomatch h
  | .fo _ _ _ :: _, _, h => nomatch h
  | .dc _ _ :: _, _, h => nomatch h
  | .ob _ _ _ :: _, _, h => nomatch h
@[simp] theorem allp_map (ds : List PyData) : allp (ds.map .p) = some ds := by
  induction ds with
  | nil => rfl
  | cons d ds ih => simp [allp, ih]
def mkT (xs : List OD) : OD := match allp xs with
  | some ds => .p (.tuple ds)
  | none => .t xs
def eTup (f : Env' → R (List OD)) : Env' → R OD := fun env => (f env).bind fun xs e => if xs.length ≤ 1000 then .ok (mkT xs) e else .st
def eLst (f : Env' → R (List OD)) : Env' → R OD := fun env => (f env).bind fun xs e => if xs.length ≤ 1000 then .ok (.l xs) e else .st
theorem szl {n : Nat} (h : n ≤ 100000) : n ≤ sizeLine := Nat.le_trans h (by decide)
theorem szlt {n : Nat} (h : n < 100000) : n < sizeLine := Nat.lt_of_lt_of_le h (by decide)
theorem ows_len {F H : Hp} {vs : List V} {xs fp} (o : Ows K F H (vs.map some) xs fp) : vs.length = xs.length := by
  have := o.len; rwa [List.length_map] at this
theorem tup_core {mg : Mg} {σ : L2.St} {H : Hp} {Q : VK} {f : Env' → R (List OD)} : dTE K mg W (eTup f) σ H Q → tTup (dTA K mg W f) σ H Q := fun ⟨F, env, fp, rs, o, h⟩ => by
  refine seqA (Stp.rfl' rs) (fun _ q => q) o (fun h => h) PoE.ex_ h fun xs e1 vs F1 H1 fv f1 s1 dj1 w1 o1 h1 => ?_
  split at h1
  · rename_i hl
    refine ⟨szl (by rw [ows_len w1]; omega), fun p hp => ?_⟩
    have st := Stp.newPure (o := .tup vs) s1.rs hp
    have w2 := w1.mono st.inc (H' := upd H1 p (.tup vs)) fun a q => upd_ne fun z => (s1.rs.own a (.inl q)).2 (z ▸ hp)
    have o2 := o1.mono st.inc (H' := upd H1 p (.tup vs)) fun a q => upd_ne fun z => (s1.rs.own a (.inr q)).2 (z ▸ hp)
    unfold mkT at h1
    split at h1
    · rename_i ds hds
      have e := allp_eq hds
      subst e
      exact h1 _ _ _ NoFp f1 ((s1.tr st).less fun a q => q.elim False.elim .inr) dj0 (.p (.tup upd_same w2.pure)) o2
    · exact h1 _ _ _ fv f1 (s1.tr st) dj1 (.t upd_same w2) o2
  · exact h1.elim
theorem lst_core {mg : Mg} {σ : L2.St} {H : Hp} {Q : VK} {f : Env' → R (List OD)} : dTE K mg W (eLst f) σ H Q → tLst (dTA K mg W f) σ H Q := fun ⟨F, env, fp, rs, o, h⟩ => by
  refine seqA (Stp.rfl' rs) (fun _ q => q) o (fun h => h) PoE.ex_ h fun xs e1 vs F1 H1 fv f1 s1 dj1 w1 o1 h1 => ?_
  split at h1
  · rename_i hl
    refine ⟨szl (by rw [ows_len w1]; omega), fun p hp => ?_⟩
    have st := Stp.newOwn (o := .lst vs) s1.rs hp
    have w2 := w1.mono st.inc (H' := upd H1 p (.lst vs)) fun a q => upd_ne fun z => (s1.rs.own a (.inl q)).2 (z ▸ hp)
    have o2 := o1.mono st.inc (H' := upd H1 p (.lst vs)) fun a q => upd_ne fun z => (s1.rs.own a (.inr q)).2 (z ▸ hp)
    refine h1 _ _ _ (Un2 (fun b => b = p) fv) f1 ((s1.tr st).less fun a q => q.elim (fun q => q.elim .inl fun q => .inr (.inl q)) fun q => .inr (.inr q)) (fun a q z => q.elim (fun q => (s1.rs.own a (.inr z)).2 (q ▸ hp)) fun q => dj1 a q z)
      (.l (.inl rfl) upd_same w2 fun b q => ⟨.inr q, fun z => (s1.rs.own b (.inl q)).2 (z ▸ hp)⟩) o2
  · exact h1.elim
theorem de_tup {es : List Expr} {f x1} (h : DA X W es f) : DE X W (.Tuple es x1 pos) (eTup f) := pe_weak (pe_tup h) fun _ _ _ => tup_core
theorem de_lst {es : List Expr} {f} (h : DA X W es f) : DE X W (.List es pos) (eLst f) := pe_weak (pe_lst h) fun _ _ _ => lst_core
end
end DL

namespace DL
variable {K : PySem.W.Frag}
open PySem L2
/-! ### operations by values -/
def oI (i : Int) : OD := .p (.int i)
def oB (b : Bool) : OD := .p (.bool b)
def oS (x : Str) : OD := .p (.str x)
theorem Ow.int {F H v i fp} (h : Ow K F H v (oI i) fp) : v = .int i := by cases h with | p h => cases h; rfl
theorem Ow.bl {F H v i fp} (h : Ow K F H v (oB i) fp) : v = .bl i := by cases h with | p h => cases h; rfl
theorem Ow.str {F H v i fp} (h : Ow K F H v (oS i) fp) : v = .str i := by cases h with | p h => cases h; rfl
def int2 (g : Int → Int → Option PyData) : OD → OD → Option OD
  | .p (.int i), .p (.int j) => (g i j).map .p
  | _, _ => none
theorem int2_inv {g x y d} (h : int2 g x y = some d) : ∃ i j e, x = oI i ∧ y = oI j ∧ g i j = some e ∧ d = .p e := by
  unfold int2 at h
  split at h
  · rename_i i j
    cases q : g i j with
    | none => rw [q] at h; cases h
    | some e => rw [q] at h; cases h; exact ⟨i, j, e, rfl, rfl, q, rfl⟩
  · cases h
theorem opS_I {C : Int → Int → Prop} {g : Int → Int → V} {g2 : Int → Int → Option PyData} (h : ∀ i j e, g2 i j = some e → C i j ∧ ∀ F, Dd F (g i j) e) : OpS K (rI C g) (int2 g2) := by
  intro F H v u x y fx fy fp d Q rs lx ly ox oy e k
  obtain ⟨i, j, e', rfl, rfl, q, rfl⟩ := int2_inv e
  obtain ⟨c, w⟩ := h i j e' q
  exact ⟨i, j, ox.int, oy.int, c, k _ F H NoFp (Stp.rfl' ⟨rs.sub, fun _ z => z.elim⟩) (.p (w F))⟩
theorem opS_I0 {g : Int → Int → V} {g2 : Int → Int → Option PyData} (h : ∀ i j e, g2 i j = some e → ∀ F, Dd F (g i j) e) : OpS K (rI0 g) (int2 g2) := by
  intro F H v u x y fx fy fp d Q rs lx ly ox oy e k
  obtain ⟨i, j, e', rfl, rfl, q, rfl⟩ := int2_inv e
  exact ⟨i, j, ox.int, oy.int, k _ F H NoFp (Stp.rfl' ⟨rs.sub, fun _ z => z.elim⟩) (.p (h i j e' q F))⟩
def bitsB : Nat := 400000
/-- a product is told: both factors of at most so many bits, or one of them small -/
def MulOk (i j : Int) : Prop := (i.natAbs < 2 ^ bitsB ∧ j.natAbs < 2 ^ bitsB) ∨ i.natAbs < 2 ^ 63 ∨ j.natAbs < 2 ^ 63
noncomputable instance (i j : Int) : Decidable (MulOk i j) := Classical.propDecidable _
/-- a divisor is told: above nought, of few bits -/
def DivOk (j : Int) : Prop := 0 < j ∧ j.natAbs < 2 ^ 9000
noncomputable instance (j : Int) : Decidable (DivOk j) := Classical.propDecidable _
/-- a bound of a range is told -/
def RngOk (n : Int) : Prop := -(2 ^ 62) ≤ n ∧ n < 2 ^ 62
noncomputable instance (j : Int) : Decidable (RngOk j) := Classical.propDecidable _
def gSub : OD → OD → Option OD := int2 fun i j => some (.int (i - j))
noncomputable def gFdiv : OD → OD → Option OD := int2 fun i j => if DivOk j then some (.int (i / j)) else none
def gMod : OD → OD → Option OD := int2 fun i j => if 0 < j then some (.int (i % j)) else none
def gPow : OD → OD → Option OD := int2 fun i j => if 0 ≤ j ∧ j ≤ 1000000 ∧ i.natAbs < 2 ^ 64 then some (.int (i ^ j.toNat)) else none
def gShl : OD → OD → Option OD := int2 fun i j => if 0 ≤ j ∧ j ≤ 1000000 ∧ i.natAbs < 2 ^ 64 then some (.int (i * 2 ^ j.toNat)) else none
def gShr : OD → OD → Option OD := int2 fun i j => if 0 ≤ j then some (.int (i / 2 ^ j.toNat)) else none
def gLt : OD → OD → Option OD := int2 fun i j => some (.bool (decide (i < j)))
def gLe : OD → OD → Option OD := int2 fun i j => some (.bool (decide (i ≤ j)))
def gGt : OD → OD → Option OD := int2 fun i j => some (.bool (decide (j < i)))
def gGe : OD → OD → Option OD := int2 fun i j => some (.bool (decide (j ≤ i)))
theorem log2_lt' {n k : Nat} (h : n < 2 ^ k) (hk : 0 < k) : n.log2 < k := by
  by_cases z : n = 0
  · subst z; simpa using hk
  · exact (Nat.log2_lt z).mpr h
theorem s_sub : OpS K (rI0 fun i j => .int (i - j)) gSub := opS_I0 fun i j e h F => by cases h; exact .int _
theorem s_fdiv : OpS K (rI CDivW fun i j => .int (i / j)) gFdiv := opS_I fun i j e h => by
  split at h
  · rename_i q; cases h; exact ⟨⟨q.1, log2_lt' q.2 (by decide)⟩, fun F => .int _⟩
  · cases h
theorem s_mod : OpS K (rI (fun _ j => 0 < j) fun i j => .int (i % j)) gMod := opS_I fun i j e h => by
  split at h
  · rename_i q; cases h; exact ⟨q, fun F => .int _⟩
  · cases h
theorem s_pow : OpS K (rI CPow fun i j => .int (i ^ j.toNat)) gPow := opS_I fun i j e h => by
  split at h
  · rename_i q; cases h; exact ⟨q, fun F => .int _⟩
  · cases h
theorem s_shl : OpS K (rI CPow fun i j => .int (i * 2 ^ j.toNat)) gShl := opS_I fun i j e h => by
  split at h
  · rename_i q; cases h; exact ⟨q, fun F => .int _⟩
  · cases h
theorem s_shr : OpS K (rI (fun _ j => 0 ≤ j) fun i j => .int (i / 2 ^ j.toNat)) gShr := opS_I fun i j e h => by
  split at h
  · rename_i q; cases h; exact ⟨q, fun F => .int _⟩
  · cases h
theorem s_lt : OpS K (rI0 fun i j => .bl (decide (i < j))) gLt := opS_I0 fun i j e h F => by cases h; exact .bl _
theorem s_le : OpS K (rI0 fun i j => .bl (decide (i ≤ j))) gLe := opS_I0 fun i j e h F => by cases h; exact .bl _
theorem s_gt : OpS K (rI0 fun i j => .bl (decide (j < i))) gGt := opS_I0 fun i j e h F => by cases h; exact .bl _
theorem s_ge : OpS K (rI0 fun i j => .bl (decide (j ≤ i))) gGe := opS_I0 fun i j e h F => by cases h; exact .bl _
/-- a list's items, where each stands still -/
def its : OD → Option (List PyData)
  | .p (.list ds) => some ds
  | .l xs => allp xs
  | _ => none
theorem its_at {F H : Hp} {v x fx ds} (s : Inc F H) (o : Ow K F H v x fx) (e : its x = some ds) : ∃ a vs, v = .ref a ∧ H a = some (.lst vs) ∧ DdL F vs ds := by
  cases o with
  | p h =>
    cases h with
    | lst a b => cases e; exact ⟨_, _, rfl, s _ _ a, b⟩
    | _ => cases e
  | l a b c d =>
    have e := allp_eq (show allp _ = _ from e)
    subst e
    exact ⟨_, _, rfl, b, c.pure⟩
  | h => cases e
  | t a b => cases e
  | sc a => cases e
  | er => cases e
  | ob => cases e
  | fo => cases e
  | dc => cases e
theorem its_l (ds : List PyData) : its (.l (ds.map .p)) = some ds := allp_map ds
/-- a new list of what stands still -/
theorem newL {F H : Hp} {fp : Fp} {vs : List V} {ds : List PyData} {Q : VK} (rs : RS F H fp) (w : DdL F vs ds) (k : ∀ v' F' H' f', Stp F H NoFp F' H' f' → Ow K F' H' v' (.l (ds.map .p)) f' → Q v' H') : ∀ p, H p = none → Q (.ref p) (upd H p (.lst vs)) := fun p hp => by
  have st := Stp.newOwn (o := .lst vs) (fp := NoFp) ⟨rs.sub, fun _ z => z.elim⟩ hp
  exact k _ _ _ _ st (.l (fq := NoFp) (.inl rfl) upd_same (Ows.of_pure (w.inc st.inc)) fun _ z => z.elim)
def gCat (x y : OD) : Option OD := match its x, its y with
  | some a, some b => if a.length + b.length ≤ 100000 then some (.l ((a ++ b).map .p)) else none
  | _, _ => none
theorem s_cat : OpS K rCat gCat := by
  intro F H v u x y fx fy fp d Q rs lx ly ox oy e k
  unfold gCat at e
  split at e
  · rename_i a b ha hb
    split at e
    · rename_i hl
      cases e
      obtain ⟨p, vs, rfl, h1, w1⟩ := its_at rs.sub ox ha
      obtain ⟨q, us, rfl, h2, w2⟩ := its_at rs.sub oy hb
      exact ⟨p, q, vs, us, rfl, rfl, h1, h2, szl (by rw [w1.len, w2.len]; exact hl), newL rs (w1.app w2) k⟩
    · cases e
  · cases e
def gAddS : OD → OD → Option OD
  | .p (.str a), .p (.str b) => if a.length + b.length ≤ 100000 then some (oS (a ++ b)) else none
  | _, _ => none
theorem s_addS : OpS K (fun x y H Q => ∃ i j, x = .str i ∧ y = .str j ∧ i.length + j.length ≤ sizeLine ∧ Q (.str (i ++ j)) H) gAddS := by
  intro F H v u x y fx fy fp d Q rs lx ly ox oy e k
  unfold gAddS at e
  split at e
  · split at e
    · cases e
      exact ⟨_, _, Ow.str ox, Ow.str oy, szl ‹_›, k _ F H NoFp (Stp.rfl' ⟨rs.sub, fun _ z => z.elim⟩) (.p (.str _))⟩
    · cases e
  · cases e
theorem OpS.or {r r' : R2} {g g'} (h : OpS K r g) (h' : OpS K r' g') : OpS K (fun x y H Q => r x y H Q ∨ r' x y H Q) (fun x y => (g x y).orElse fun _ => g' x y) := by
  intro F H v u x y fx fy fp d Q rs lx ly ox oy e k
  dsimp only at e
  cases q : g x y with
  | some z => rw [q] at e; cases e; exact .inl (h F H v u x y fx fy fp _ Q rs lx ly ox oy q k)
  | none => rw [q] at e; exact .inr (h' F H v u x y fx fy fp _ Q rs lx ly ox oy e k)
theorem OpS.imp {r : R2} {g g' : OD → OD → Option OD} (h : OpS K r g) (i : ∀ x y d, g' x y = some d → g x y = some d) : OpS K r g' := fun F H v u x y fx fy fp d Q rs lx ly ox oy e k =>
  h F H v u x y fx fy fp d Q rs lx ly ox oy (i _ _ _ e) k
def gAdd : OD → OD → Option OD
  | .p (.int i), .p (.int j) => some (oI (i + j))
  | .p (.str a), .p (.str b) => if a.length + b.length ≤ 100000 then some (oS (a ++ b)) else none
  | x, y => gCat x y
theorem s_add0 : OpS K (rI0 fun i j => .int (i + j)) (int2 fun i j => some (.int (i + j))) := opS_I0 fun i j e h F => by cases h; exact .int _
def rAdd : R2 := fun x y H Q => rI0 (fun i j => .int (i + j)) x y H Q ∨ (∃ i j, x = .str i ∧ y = .str j ∧ i.length + j.length ≤ sizeLine ∧ Q (.str (i ++ j)) H) ∨ rCat x y H Q
theorem s_add : OpS K rAdd gAdd := (s_add0.or (s_addS.or s_cat)).imp fun x y d h => by
  unfold gAdd at h
  split at h
  · cases h; rfl
  · split at h
    · rename_i q
      cases h
      show (if _ then _ else _ : Option OD).orElse _ = _
      rw [if_pos q]; rfl
    · cases h
  · rename_i h1 h2
    have a : int2 (fun i j => some (.int (i + j))) x y = none := by
      unfold int2; split
      · exact (h1 _ _ rfl rfl).elim
      · rfl
    have b : gAddS x y = none := by
      unfold gAddS; split
      · exact (h2 _ _ rfl rfl).elim
      · rfl
    rw [a, b]; exact h
noncomputable def gMul : OD → OD → Option OD
  | .p (.int i), .p (.int j) => if MulOk i j then some (oI (i * j)) else none
  | x, .p (.int k) => match its x with
    | some ds => if ds.length = 1 ∧ 0 ≤ k ∧ k ≤ 1000 then some (.l ((List.replicate k.toNat ds).flatten.map .p)) else none
    | none => none
  | _, _ => none
def rMul : R2 := fun x y H Q => (rI CMulW (fun i j => .int (i * j)) x y H Q ∨ rI CMul (fun i j => .int (i * j)) x y H Q) ∨ rRep x y H Q
theorem DdL.rep {F : Hp} {vs ds} (w : DdL F vs ds) : ∀ k : Nat, DdL F (List.replicate k vs).flatten (List.replicate k ds).flatten
  | 0 => .nil
  | k + 1 => by
    rw [List.replicate_succ, List.replicate_succ, List.flatten_cons, List.flatten_cons]
    exact w.app (w.rep k)
theorem s_mul : OpS K rMul gMul := by
  intro F H v u x y fx fy fp d Q rs lx ly ox oy e k
  unfold gMul at e
  split at e
  · split at e
    · rename_i q
      cases e
      have kk := k _ F H NoFp (Stp.rfl' ⟨rs.sub, fun _ z => z.elim⟩) (.p (.int _))
      rcases q with q | q | q
      · refine .inl (.inl ⟨_, _, Ow.int ox, Ow.int oy, ?_, kk⟩)
        have a := log2_lt' q.1 (by unfold bitsB; omega)
        have b := log2_lt' q.2 (by unfold bitsB; omega)
        show _ + _ < 1000000
        unfold bitsB at a b; omega
      · exact .inl (.inr ⟨_, _, Ow.int ox, Ow.int oy, .inl (by omega), kk⟩)
      · exact .inl (.inr ⟨_, _, Ow.int ox, Ow.int oy, .inr (by omega), kk⟩)
    · cases e
  · split at e
    · rename_i ds hd
      split at e
      · rename_i q
        cases e
        obtain ⟨p, vs, rfl, h1, w1⟩ := its_at rs.sub ox hd
        obtain ⟨q1, q2, q3⟩ := q
        have hl : vs.length = 1 := w1.len.trans q1
        refine .inr ⟨p, _, vs, rfl, Ow.int oy, h1, by omega, by omega, szl (by rw [hl]; omega), newL rs (w1.rep _) k⟩
      · cases e
    · cases e
  · cases e
/-! equality -/
mutual
/-- the tree that == sees -/
def vw : OD → Option PyData
  | .p d => some d
  | .l xs => (vws xs).map .list
  | .t xs => (vws xs).map .tuple
  | .h => none
  | .sc _ => none
  | .er _ _ => none
  | .ob _ _ _ => none
  | .fo _ _ _ => none
  | .dc _ _ => none
def vws : List OD → Option (List PyData)
  | [] => some []
  | x :: xs => (vw x).bind fun d => (vws xs).map (d :: ·)
end
mutual
theorem Ow.vw {K : PySem.W.Frag} {F H : Hp} (s : Inc F H) : ∀ {v x} {fp : Fp} {d}, Ow K F H v x fp → DL.vw x = some d → Dp K H v d
  | _, _, _, _, .h, e => by cases e
  | _, _, _, _, .p q, e => by cases e; exact (q.inc s).dp
  | _, .l xs, _, _, .l a b c d, e => by
    unfold DL.vw at e
    cases q : vws xs with
    | none => rw [q] at e; cases e
    | some ds => rw [q] at e; cases e; exact .lst (SqL.of b) (c.vw s q)
  | _, .t xs, _, _, .t a b, e => by
    unfold DL.vw at e
    cases q : vws xs with
    | none => rw [q] at e; cases e
    | some ds => rw [q] at e; cases e; exact .tup (SqT.of (s _ _ a)) (b.vw s q)
  | _, _, _, _, .sc _, e => by cases e
  | _, _, _, _, .er _, e => by cases e
  | _, _, _, _, .ob _ _ _ _ _ _ _, e => by cases e
  | _, _, _, _, .fo _ _ _ _, e => by cases e
  | _, _, _, _, .dc _ _ _ _, e => by cases e
theorem Ows.vw {K : PySem.W.Frag} {F H : Hp} (s : Inc F H) : ∀ {vs : List V} {xs} {fp : Fp} {ds}, Ows K F H (vs.map some) xs fp → vws xs = some ds → DpAll K H vs ds
  | [], _, _, _, .nil, e => by cases e; exact .nil
  | v :: vs, .h :: xs, _, _, .hole t, e => by unfold vws at e; unfold DL.vw at e; cases e
  | v :: vs, x :: xs, _, _, .cons a b c c2 f, e => by
    unfold vws at e
    cases q : DL.vw x with
    | none => rw [q] at e; cases e
    | some d =>
      rw [q] at e
      cases q2 : vws xs with
      | none => rw [q2] at e; cases e
      | some ds => rw [q2] at e; cases e; exact .cons (a.vw s q) (b.vw s q2)
end
@[simp] theorem vw_p (d) : vw (.p d) = some d := rfl
@[simp] theorem vws_map (ds : List PyData) : vws (ds.map .p) = some ds := by
  induction ds with
  | nil => rfl
  | cons d ds ih => simp [vws, vw, ih]
def gEq (x y : OD) : Option OD := match vw x, vw y with
  | some a, some b => if SeqAt.shaped a = true ∧ SeqAt.shaped b = true then some (oB (PyData.eqv a b)) else none
  | _, _ => none
def gNe (x y : OD) : Option OD := match vw x, vw y with
  | some a, some b => if SeqAt.shaped a = true ∧ SeqAt.shaped b = true then some (oB (!PyData.eqv a b)) else none
  | _, _ => none
theorem s_eq {K} : OpS K (rEqD K) gEq := by
  intro F H v u x y fx fy fp d Q rs lx ly ox oy e k
  unfold gEq at e
  split at e
  · rename_i a b ha hb
    split at e
    · rename_i q
      cases e
      exact ⟨a, b, ox.vw rs.sub ha, oy.vw rs.sub hb, q.1, q.2, k _ F H NoFp (Stp.rfl' ⟨rs.sub, fun _ z => z.elim⟩) (.p (.bl _))⟩
    · cases e
  · cases e
theorem s_ne {K} : OpS K (rNeD K) gNe := by
  intro F H v u x y fx fy fp d Q rs lx ly ox oy e k
  unfold gNe at e
  split at e
  · rename_i a b ha hb
    split at e
    · rename_i q
      cases e
      exact ⟨a, b, ox.vw rs.sub ha, oy.vw rs.sub hb, q.1, q.2, k _ F H NoFp (Stp.rfl' ⟨rs.sub, fun _ z => z.elim⟩) (.p (.bl _))⟩
    · cases e
  · cases e
def gIn (neg : Bool) (x y : OD) : Option OD := match vw x, vw y with
  | some a, some (.list bs) => if SeqAt.shaped a = true ∧ SeqAt.shaped (.list bs) = true then some (oB (xor neg (bs.any fun z => PyData.eqv z a))) else none
  | _, _ => none
theorem s_in {K} : OpS K (rInD K) (gIn false) := by
  intro F H v u x y fx fy fp d Q rs lx ly ox oy e k
  unfold gIn at e
  split at e
  · rename_i a b ha hb
    split at e
    · rename_i q
      cases e
      refine ⟨a, b, ox.vw rs.sub ha, oy.vw rs.sub hb, q.1, q.2, k _ F H NoFp (Stp.rfl' ⟨rs.sub, fun _ z => z.elim⟩) ?_⟩
      rw [Bool.false_xor]; exact .p (.bl _)
    · cases e
  · cases e
theorem s_notIn {K} : OpS K (rNotInD K) (gIn true) := by
  intro F H v u x y fx fy fp d Q rs lx ly ox oy e k
  unfold gIn at e
  split at e
  · rename_i a b ha hb
    split at e
    · rename_i q
      cases e
      refine ⟨a, b, ox.vw rs.sub ha, oy.vw rs.sub hb, q.1, q.2, k _ F H NoFp (Stp.rfl' ⟨rs.sub, fun _ z => z.elim⟩) ?_⟩
      rw [Bool.true_xor]; exact .p (.bl _)
    · cases e
  · cases e
def gIsN (neg : Bool) (x y : OD) : Option OD := match x, y with
  | .p a, .p .none => some (oB (xor neg (match a with | .none => true | _ => false)))
  | .l _, .p .none => some (oB neg)
  | .t _, .p .none => some (oB neg)
  | .er _ _, .p .none => some (oB neg)
  | .ob _ _ _, .p .none => some (oB neg)
  | _, _ => none
theorem isN_val {F H : Hp} {v u x y fx fy neg d} (ox : Ow K F H v x fx) (oy : Ow K F H u y fy) (e : gIsN neg x y = some d) : u = .non ∧ d = oB (xor neg (decide (v = .non))) := by
  unfold gIsN at e
  split at e
  · cases e
    cases oy with | p h => cases h; exact ⟨rfl, by cases ox with | p h => cases h <;> simp [oB]⟩
  · cases e
    cases oy with | p h => cases h; exact ⟨rfl, by cases ox; simp [oB]⟩
  · cases e
    cases oy with | p h => cases h; exact ⟨rfl, by cases ox; simp [oB]⟩
  · cases e
    cases oy with | p h => cases h; exact ⟨rfl, by cases ox; simp [oB]⟩
  · cases e
    cases oy with | p h => cases h; exact ⟨rfl, by cases ox; simp [oB]⟩
  · cases e
theorem s_isN : OpS K (fun x y H Q => y = .non ∧ Q (.bl (decide (x = .non))) H) (gIsN false) := by
  intro F H v u x y fx fy fp d Q rs lx ly ox oy e k
  obtain ⟨rfl, rfl⟩ := isN_val ox oy e
  refine ⟨rfl, k _ F H NoFp (Stp.rfl' ⟨rs.sub, fun _ z => z.elim⟩) ?_⟩
  rw [Bool.false_xor]; exact .p (.bl _)
theorem s_notN : OpS K (fun x y H Q => y = .non ∧ Q (.bl (!decide (x = .non))) H) (gIsN true) := by
  intro F H v u x y fx fy fp d Q rs lx ly ox oy e k
  obtain ⟨rfl, rfl⟩ := isN_val ox oy e
  refine ⟨rfl, k _ F H NoFp (Stp.rfl' ⟨rs.sub, fun _ z => z.elim⟩) ?_⟩
  rw [Bool.true_xor]; exact .p (.bl _)
/-! items -/
def gIx (x y : OD) : Option OD := match x, y with
  | .p (.list ds), .p (.int i) => (atI ds i).map .p
  | .p (.tuple ds), .p (.int i) => (atI ds i).map .p
  | .p (.str z), .p (.int i) => if z.length ≤ 100000 then (atI z.cps.toList i).map fun c => oS ⟨#[c]⟩ else none
  | .l xs, .p (.int i) => match atI xs i with
    | some (.p d) => some (.p d)
    | _ => none
  | .t xs, .p (.int i) => match atI xs i with
    | some (.p d) => some (.p d)
    | _ => none
  | .sc ns, .p (.int i) => (atI ns i).map oI
  | _, _ => none
theorem atI_inv {α β : Type} {xs : List α} {ys : List β} {i : Int} {y : β} (hl : xs.length = ys.length) (h : atI ys i = some y) : ∃ j : Nat, ys[j]? = some y ∧ atI xs i = xs[j]? := by
  unfold atI at h ⊢
  rw [hl]
  cases q : ixN ys.length i with
  | none => rw [q] at h; cases h
  | some j => rw [q] at h; exact ⟨j, h, rfl⟩
theorem s_ix {K} : OpS K (rIx K) gIx := by
  intro F H v u x y fx fy fp d Q rs lx ly ox oy e k
  have id' : ∀ {w : V} {dd : PyData}, Dd F w dd → (Ow K F H w (.p dd) NoFp → True) → d = .p dd → Q w H := fun h _ e => k _ F H NoFp (Stp.rfl' ⟨rs.sub, fun _ z => z.elim⟩) (e ▸ .p h)
  unfold gIx at e
  split at e
  · rename_i ds i
    cases q : atI ds i with
    | none => rw [q] at e; cases e
    | some dd =>
      rw [q] at e; cases e
      cases ox with
      | p h =>
        cases h with
        | lst a b =>
          obtain ⟨j, h1, h2⟩ := atI_inv b.len q
          obtain ⟨w, h3, h4⟩ := b.get h1
          exact .inl ⟨_, _, i, w, rfl, Ow.int oy, SqL.of (rs.sub _ _ a), h2.trans h3, id' h4 (fun _ => trivial) rfl⟩
  · rename_i ds i
    cases q : atI ds i with
    | none => rw [q] at e; cases e
    | some dd =>
      rw [q] at e; cases e
      cases ox with
      | p h =>
        cases h with
        | tup a b =>
          obtain ⟨j, h1, h2⟩ := atI_inv b.len q
          obtain ⟨w, h3, h4⟩ := b.get h1
          exact .inr (.inl ⟨_, _, i, w, rfl, Ow.int oy, SqT.of (rs.sub _ _ a), h2.trans h3, id' h4 (fun _ => trivial) rfl⟩)
  · rename_i z i
    split at e
    · rename_i hl
      cases q : atI z.cps.toList i with
      | none => rw [q] at e; cases e
      | some c =>
        rw [q] at e; cases e
        exact .inr (.inr ⟨z, i, c, Ow.str ox, Ow.int oy, szl hl, q, id' (.str _) (fun _ => trivial) rfl⟩)
    · cases e
  · rename_i xs i
    split at e
    · rename_i dd q
      cases e
      cases ox with
      | l a b c dj =>
        obtain ⟨j, h1, h2⟩ := atI_inv (ows_len c) q
        obtain ⟨w, _, _, h3, h4, _⟩ := c.get h1 (fun z => nomatch z)
        rw [List.getElem?_map] at h3
        cases q2 : ‹List V›[j]? with
        | none => rw [q2] at h3; cases h3
        | some w' =>
          rw [q2] at h3; cases h3
          cases h4 with
          | p h4 => exact .inl ⟨_, _, i, w, rfl, Ow.int oy, SqL.of b, h2.trans q2, id' h4 (fun _ => trivial) rfl⟩
    · cases e
  · rename_i xs i
    split at e
    · rename_i dd q
      cases e
      cases ox with
      | t a c =>
        obtain ⟨j, h1, h2⟩ := atI_inv (ows_len c) q
        obtain ⟨w, _, _, h3, h4, _⟩ := c.get h1 (fun z => nomatch z)
        rw [List.getElem?_map] at h3
        cases q2 : ‹List V›[j]? with
        | none => rw [q2] at h3; cases h3
        | some w' =>
          rw [q2] at h3; cases h3
          cases h4 with
          | p h4 => exact .inr (.inl ⟨_, _, i, w, rfl, Ow.int oy, SqT.of (rs.sub _ _ a), h2.trans q2, id' h4 (fun _ => trivial) rfl⟩)
    · cases e
  · rename_i ns i
    cases q : atI ns i with
    | none => rw [q] at e; cases e
    | some n =>
      rw [q] at e; cases e
      cases ox with
      | sc a =>
        obtain ⟨j, h1, h2⟩ := atI_inv (xs := ns.map V.int) (by simp) q
        exact .inl ⟨_, _, i, .int n, rfl, Ow.int oy, sqInc rs.sub a, by rw [h2, List.getElem?_map, h1]; rfl, id' (.int n) (fun _ => trivial) rfl⟩
  · cases e
/-! one-place -/
def gNeg : OD → Option OD
  | .p (.int i) => some (oI (-i))
  | _ => none
theorem s_neg : UnS K (rU fun i => .int (-i)) gNeg := by
  intro F H v x fx fp d Q rs lx ox e k
  unfold gNeg at e
  split at e
  · cases e
    exact ⟨_, Ow.int ox, k _ F H NoFp (Stp.rfl' ⟨rs.sub, fun _ z => z.elim⟩) (.p (.int _))⟩
  · cases e
end DL

namespace DL
variable {K : PySem.W.Frag}
open PySem L2
section
variable {X : Cx} {W : WX}
/-! ### operands as arguments of built-in calls -/
theorem Held.weak {F H : Hp} {σ v} {g g' : Fp} {x} (w : Held K F H σ v g x) (l : ∀ a, g a → g' a) : Held K F H σ v g' x := by
  cases x with
  | val x => exact Ow.weak w l
  | slot i => exact w
abbrev Helds (K : PySem.W.Frag) (F H : Hp) (σ : L2.St) (vs : List V) (g : Fp) (os : List Opd) : Prop := Paired (fun v o => Held K F H σ v g o) vs os
def PoVs (K : PySem.W.Frag) (mg : Mg) (W : WX) (F H : Hp) (fp : Fp) (σ : L2.St) (Q : List V → Hp → Prop) : R (List Opd) → Prop
  | .st => False
  | .ok os env' => ∀ vs F' H' fv fp', Stp F H fp F' H' (Un2 fv fp') → Dj fv fp' → Helds K F' H' σ vs fv os → Ows K F' H' σ env' fp' → Q vs H'
  | .ex C f env' => PoX K mg W F H fp σ C f env'
def dTVs (K : PySem.W.Frag) (mg : Mg) (W : WX) (f : Env' → R (List Opd)) : TA := fun σ H Q => ∃ F env fp, RS F H fp ∧ Ows K F H σ env fp ∧ PoVs K mg W F H fp σ Q (f env)
abbrev DVs (X : Cx) (W : WX) (es : List Expr) (f : Env' → R (List Opd)) : Prop := PA X es (dTVs X.K X.mg W f)
theorem PoVs.ex_ {mg : Mg} {F H : Hp} {fp : Fp} {σ} {Q} (C f e) (h : PoVs K mg W F H fp σ Q (.ex C f e)) : PoX K mg W F H fp σ C f e := h
theorem seqVs {mg : Mg} {F H F1 H1 : Hp} {fp f1 fq : Fp} {σ : L2.St} {env1 : Env'} {f : Env' → R (List Opd)} {β : Type} {P : R β → Prop} {k : List Opd → Env' → R β} {Q1 : List V → Hp → Prop} (s : Stp F H fp F1 H1 fq) (l : ∀ a, f1 a → fq a) (o : Ows K F1 H1 σ env1 f1)
    (hs : P .st → False) (hx : ∀ C f e, P (.ex C f e) → PoX K mg W F H fp σ C f e) (h : P ((f env1).bind k))
    (c : ∀ d e' v F' H' fv fp', Stp F1 H1 f1 F' H' (Un2 fv fp') → Dj fv fp' → Helds K F' H' σ v fv d → Ows K F' H' σ e' fp' → P (k d e') → Q1 v H') : dTVs K mg W f σ H1 Q1 := by
  refine ⟨F1, env1, f1, ⟨s.rs.sub, fun a q => s.rs.own a (l a q)⟩, o, ?_⟩
  cases e : f env1 with
  | st => rw [e] at h; exact (hs h).elim
  | ok d e' => rw [e] at h; exact fun v F' H' fv fp' t dj w o' => c d e' v F' H' fv fp' t dj w o' h
  | ex C x e' => rw [e] at h; exact (hx C x e' h).step s l
def vNil : Env' → R (List Opd) := fun env => .ok [] env
def vCons (f : Env' → R Opd) (g : Env' → R (List Opd)) : Env' → R (List Opd) := fun env => (f env).bind fun x e => (g e).bind fun xs e2 => .ok (x :: xs) e2
theorem dv_nil : DVs X W [] vNil := pa_weak pa_nil fun _ H _ ⟨F, env, fp, rs, o, h⟩ => h [] F H NoFp fp (Stp.id0 rs) dj0 .nil o
theorem Paired.mono {α β : Type} {F G : α → β → Prop} {xs ys} (h : Paired F xs ys) (i : ∀ a b, F a b → G a b) : Paired G xs ys := by
  induction h with
  | nil => exact .nil
  | cons a b ih => exact .cons (i _ _ a) ih
theorem vcons_core {mg : Mg} {σ : L2.St} {H : Hp} {Q : List V → Hp → Prop} {f : Env' → R Opd} {g : Env' → R (List Opd)} : dTVs K mg W (vCons f g) σ H Q → tCons (dTV K mg W f) (dTVs K mg W g) σ H Q := fun ⟨F, env, fp, rs, o, h⟩ => by
  refine seqV (Stp.rfl' rs) (fun _ q => q) o (fun h => h) PoVs.ex_ h fun a e1 v F1 H1 fv f1 s1 dj1 w1 o1 h1 => ?_
  refine seqVs s1 (fun _ q => .inr q) o1 (fun h => h) PoVs.ex_ h1 fun b e2 u F2 H2 fu f2 s2 dj2 w2 o2 h2 => ?_
  have own : ∀ a, fv a → F1 a = none ∧ H1 a ≠ none := fun a q => s1.rs.own a (.inl q)
  have w1' := w1.step s2 dj1 (fun a q => (own a q).2)
  have d3 := s2.dj dj1 fun a q => (own a q).2
  have s3 : Stp F H fp F2 H2 (Un2 (Un2 fu f2) fv) := s1.tr ((s2.frame dj1 own).from fun a q => q.elim .inr .inl)
  exact h2 (v :: u) F2 H2 (Un2 fv fu) f2 (s3.less fun a q => q.elim (fun q => q.elim .inr fun q => .inl (.inl q)) fun q => .inl (.inr q)) (fun a q z => q.elim (fun q => d3 a q (.inr z)) fun q => dj2 a q z)
    (.cons (w1'.weak fun _ => .inl) (Paired.mono w2 fun _ _ w => w.weak fun _ => .inr)) o2
theorem dv_cons {e : Expr} {es : List Expr} {f g} (ha : DV X W e f) (hr : DVs X W es g) (hs : starEach (e :: es) X.env = (false, eval e X.env) :: starEach es X.env := by rfl) : DVs X W (e :: es) (vCons f g) :=
  pa_weak (pa_cons ha hr hs) fun _ _ _ => vcons_core
def ats (e : Env') : List Opd → Option (List OD)
  | [] => some []
  | o :: os => match o.at e, ats e os with
    | some x, some xs => some (x :: xs)
    | _, _ => none
def apN (g : List OD → Option OD) (os : List Opd) (e : Env') : R OD := match ats e os with
  | some xs => R.of (g xs) e
  | none => .st
def eCall (g : List OD → Option OD) (f : Env' → R (List Opd)) : Env' → R OD := fun env => (f env).bind fun os e => apN g os e
theorem Helds.looks {F H : Hp} {σ : L2.St} {env : Env'} {g fp : Fp} (o : Ows K F H σ env fp) : ∀ {vs os xs}, Helds K F H σ vs g os → ats env os = some xs → Paired (fun v x => ∃ fx : Fp, (∀ a, fx a → Un2 g fp a) ∧ Ow K F H v x fx) vs xs
  | _, _, _, .nil, e => by cases e; exact .nil
  | _, _, xs, .cons w r, e => by
    unfold ats at e
    split at e
    · rename_i x xs' e1 e2
      cases e
      obtain ⟨fx, a, b⟩ := Held.look w o e1
      exact .cons ⟨fx, b, a⟩ (Helds.looks o r e2)
    · cases e
theorem call_core {mg : Mg} {σ : L2.St} {H : Hp} {Q : VK} {r : List V → Hp → VK → Prop} {g} {f : Env' → R (List Opd)} (hs : CaS K r g) : dTE K mg W (eCall g f) σ H Q → tCB r (dTVs K mg W f) σ H Q := fun ⟨F, env, fp, rs, o, h⟩ => by
  refine seqVs (Stp.rfl' rs) (fun _ q => q) o (fun h => h) PoE.ex_ h fun os e1 vs F1 H1 fv f1 s1 dj1 w1 o1 h1 => ?_
  unfold apN at h1
  cases ea : ats e1 os with
  | none => rw [ea] at h1; exact h1.elim
  | some xs =>
    rw [ea] at h1
    dsimp only at h1
    cases eg : g xs with
    | none => rw [eg] at h1; exact h1.elim
    | some d =>
      rw [eg] at h1
      exact hs F1 H1 vs xs (Un2 fv f1) d Q s1.rs (Helds.looks o1 w1 ea) eg (h1.fin s1 (fun _ q => .inr q) o1)
section
variable {x : Str} {id T : String} {r : List V → Hp → VK → Prop} {g : List OD → Option OD} {e : Expr} {es : List Expr} {f : Env' → R (List Opd)} {p pos : Pos}
theorem de_callB (hc : CallR X (.builtin id) r) (hs : CaS X.K r g) (hv : bootBuiltins x = some (.builtin id)) (hg : Gl X x) (hm : X.mg x = none) (ha : DVs X W (e :: es) f) (hn : x ≠ "__name__" := by decide) (hdb : (x == ("__debug__" : Str)) = false := by decide)
    (he : starEach (e :: es) X.env = (false, eval e X.env) :: starEach es X.env := by rfl) (hpl : (backTo pos (starEach es X.env)).any (·.1) = false := by rfl) : DE X W (.Call (.Name x p) (e :: es) [] pos) (eCall g f) :=
  pe_weak (pe_callB hc hg hm hv ha hn hdb he hpl) fun _ _ _ => call_core hs
theorem de_callT (hc : CallR X (.type T) r) (hs : CaS X.K r g) (hv : bootBuiltins x = some (.type T)) (hg : Gl X x) (hm : X.mg x = none) (ha : DVs X W (e :: es) f) (hn : x ≠ "__name__" := by decide) (hdb : (x == ("__debug__" : Str)) = false := by decide)
    (he : starEach (e :: es) X.env = (false, eval e X.env) :: starEach es X.env := by rfl) (hpl : (backTo pos (starEach es X.env)).any (·.1) = false := by rfl) : DE X W (.Call (.Name x p) (e :: es) [] pos) (eCall g f) :=
  pe_weak (pe_callTy hc hg hm hv ha hn hdb he hpl) fun _ _ _ => call_core hs
end
end
/-! ### what the built-in functions make -/
theorem CaS.one {r : List V → Hp → VK → Prop} {g : OD → Option OD} (h : ∀ F H v x fx fp d (Q : VK), RS F H fp → Ow K F H v x fx → g x = some d → (∀ v' F' H' f', Stp F H NoFp F' H' f' → Ow K F' H' v' d f' → Q v' H') → r [v] H Q) :
    CaS K r (fun xs => match xs with | [x] => g x | _ => none) := by
  intro F H vs xs fp d Q rs w e k
  cases w with
  | nil => cases e
  | cons a b =>
    cases b with
    | nil => obtain ⟨fx, _, o⟩ := a; exact h F H _ _ fx fp d Q rs o e k
    | cons => cases e
theorem CaS.two {r : List V → Hp → VK → Prop} {g : OD → OD → Option OD} (h : ∀ F H v u x y fx fy fp d (Q : VK), RS F H fp → Ow K F H v x fx → Ow K F H u y fy → g x y = some d → (∀ v' F' H' f', Stp F H NoFp F' H' f' → Ow K F' H' v' d f' → Q v' H') → r [v, u] H Q) :
    CaS K r (fun xs => match xs with | [x, y] => g x y | _ => none) := by
  intro F H vs xs fp d Q rs w e k
  cases w with
  | nil => cases e
  | cons a b =>
    cases b with
    | nil => cases e
    | cons b c =>
      cases c with
      | nil => obtain ⟨fx, _, o⟩ := a; obtain ⟨fy, _, o'⟩ := b; exact h F H _ _ _ _ fx fy fp d Q rs o o' e k
      | cons => cases e
theorem k0 {F H : Hp} {fp : Fp} {d : OD} {Q : VK} {v : V} (rs : RS F H fp) (k : ∀ v' F' H' f', Stp F H NoFp F' H' f' → Ow K F' H' v' d f' → Q v' H') (w : Ow K F H v d NoFp) : Q v H :=
  k v F H NoFp (Stp.rfl' ⟨rs.sub, fun _ z => z.elim⟩) w
def c1 (g : OD → Option OD) (xs : List OD) : Option OD := match xs with | [x] => g x | _ => none
def c2 (g : OD → OD → Option OD) (xs : List OD) : Option OD := match xs with | [x, y] => g x y | _ => none
@[simp] theorem c1_one (g x) : c1 g [x] = g x := rfl
@[simp] theorem c2_two (g x y) : c2 g [x, y] = g x y := rfl
def gLen : OD → Option OD
  | .p (.list ds) => some (oI ds.length)
  | .p (.tuple ds) => some (oI ds.length)
  | .p (.str z) => if z.length ≤ 100000 then some (oI z.length) else none
  | .l xs => some (oI xs.length)
  | .t xs => some (oI xs.length)
  | .sc ns => some (oI ns.length)
  | _ => none
theorem c_len {K} : CaS K (fun xs H Q => ∃ x n, xs = [x] ∧ LenV K x H n ∧ Q (.int n) H) (c1 gLen) := CaS.one fun F H v x fx fp d Q rs o e k => by
  cases o with
  | h => cases e
  | p h =>
    cases h with
    | lst a b => cases e; exact ⟨_, _, rfl, .inl ⟨_, SqL.of (rs.sub _ _ a), rfl⟩, by rw [b.len]; exact k0 rs k (.p (.int _))⟩
    | tup a b => cases e; exact ⟨_, _, rfl, .inr ⟨_, SqT.of (rs.sub _ _ a), rfl⟩, by rw [b.len]; exact k0 rs k (.p (.int _))⟩
    | str z =>
      unfold gLen at e
      dsimp only at e
      split at e
      · rename_i q; cases e; exact ⟨_, _, rfl, ⟨szl q, rfl⟩, k0 rs k (.p (.int _))⟩
      · cases e
    | _ => cases e
  | l a b c dj => cases e; exact ⟨_, _, rfl, .inl ⟨_, SqL.of b, rfl⟩, by rw [ows_len c]; exact k0 rs k (.p (.int _))⟩
  | t a c => cases e; exact ⟨_, _, rfl, .inr ⟨_, SqT.of (rs.sub _ _ a), rfl⟩, by rw [ows_len c]; exact k0 rs k (.p (.int _))⟩
  | sc a => cases e; exact ⟨_, _, rfl, .inl ⟨_, sqInc rs.sub a, by simp⟩, k0 rs k (.p (.int _))⟩
  | er => cases e
  | ob => cases e
  | fo => cases e
  | dc => cases e
def gInt1 (g : Int → Int) : OD → Option OD
  | .p (.int i) => some (oI (g i))
  | _ => none
theorem gInt1_inv {g x d} (e : gInt1 g x = some d) : ∃ i, x = oI i ∧ d = oI (g i) := by
  unfold gInt1 at e
  split at e
  · cases e; exact ⟨_, rfl, rfl⟩
  · cases e
def gAbs : OD → Option OD := gInt1 fun i => if i < 0 then -i else i
theorem c_abs : CaS K (fun xs H Q => ∃ i, xs = [.int i] ∧ Q (.int (if i < 0 then -i else i)) H) (c1 gAbs) := CaS.one fun F H v x fx fp d Q rs o e k => by
  obtain ⟨i, rfl, rfl⟩ := gInt1_inv e
  cases Ow.int o; exact ⟨i, rfl, k0 rs k (.p (.int _))⟩
def gMax2 : OD → OD → Option OD := int2 fun i j => some (.int (if j > i then j else i))
def gMin2 : OD → OD → Option OD := int2 fun i j => some (.int (if j < i then j else i))
theorem c_max2 : CaS K (fun xs H Q => ∃ i j, xs = [.int i, .int j] ∧ Q (.int (if j > i then j else i)) H) (c2 gMax2) := CaS.two fun F H v u x y fx fy fp d Q rs o o' e k => by
  obtain ⟨i, j, e', rfl, rfl, q, rfl⟩ := int2_inv e
  cases q; cases Ow.int o; cases Ow.int o'
  exact ⟨i, j, rfl, k0 rs k (.p (.int _))⟩
theorem c_min2 : CaS K (fun xs H Q => ∃ i j, xs = [.int i, .int j] ∧ Q (.int (if j < i then j else i)) H) (c2 gMin2) := CaS.two fun F H v u x y fx fy fp d Q rs o o' e k => by
  obtain ⟨i, j, e', rfl, rfl, q, rfl⟩ := int2_inv e
  cases q; cases Ow.int o; cases Ow.int o'
  exact ⟨i, j, rfl, k0 rs k (.p (.int _))⟩
/-- the ints of a list -/
def toInts : List PyData → Option (List Int)
  | [] => some []
  | .int i :: ds => (toInts ds).map (i :: ·)
  | _ => none
theorem toInts_eq : ∀ {ds ns}, toInts ds = some ns → ds = ns.map .int
  | [], ns, h => by cases h; rfl
  | .int i :: ds, ns, h => by
    unfold toInts at h
    cases q : toInts ds with
    | none => rw [q] at h; cases h
    | some es => rw [q] at h; cases h; rw [toInts_eq q]; rfl
  | .none :: _, _, h => nomatch h
  | .bool _ :: _, _, h => nomatch h
  | .str _ :: _, _, h => nomatch h
  | .list _ :: _, _, h => nomatch h
  | .tuple _ :: _, _, h => nomatch h
  | .dict _ :: _, _, h => nomatch h
@[simp] theorem toInts_map (ns : List Int) : toInts (ns.map .int) = some ns := by
  induction ns with
  | nil => rfl
  | cons n ns ih => simp [toInts, ih]
def intsOf : OD → Option (List Int)
  | .sc ns => some ns
  | x => (its x).bind toInts
theorem intsOf_at {F H : Hp} {v x fx ns} {K : PySem.W.Frag} (s : Inc F H) (o : Ow K F H v x fx) (e : intsOf x = some ns) : ∃ a, v = .ref a ∧ SqL K H a (ns.map V.int) := by
  unfold intsOf at e
  split at e
  · cases e
    cases o with | sc a => exact ⟨_, rfl, sqInc s a⟩
  · cases q : its x with
    | none => rw [q] at e; cases e
    | some ds =>
      rw [q] at e
      obtain ⟨a, vs, rfl, h, w⟩ := its_at s o q
      have := toInts_eq (show toInts ds = some ns from e)
      subst this
      rw [w.ints] at h
      exact ⟨a, rfl, SqL.of h⟩
def gSum (x : OD) : Option OD := (intsOf x).map fun ns => oI ns.sum
theorem c_sum {K} : CaS K (rSum K) (c1 gSum) := CaS.one fun F H v x fx fp d Q rs o e k => by
  unfold gSum at e
  cases q : intsOf x with
  | none => rw [q] at e; cases e
  | some ns =>
    rw [q] at e; cases e
    obtain ⟨a, rfl, h⟩ := intsOf_at rs.sub o q
    exact ⟨a, ns, rfl, h, k0 rs k (.p (.int _))⟩
def maxL : Int → List Int → Int
  | m, [] => m
  | m, x :: xs => maxL (if x > m then x else m) xs
def minL : Int → List Int → Int
  | m, [] => m
  | m, x :: xs => minL (if x < m then x else m) xs
theorem maxL_spec : ∀ (xs : List Int) (m : Int), (maxL m xs = m ∨ maxL m xs ∈ xs) ∧ m ≤ maxL m xs ∧ ∀ y ∈ xs, y ≤ maxL m xs
  | [], m => ⟨.inl rfl, Int.le_refl _, fun _ h => nomatch h⟩
  | x :: xs, m => by
    obtain ⟨a, b, c⟩ := maxL_spec xs (if x > m then x else m)
    unfold maxL
    refine ⟨?_, ?_, fun y h => ?_⟩
    · rcases a with a | a
      · rw [a]; split
        · exact .inr (List.mem_cons_self)
        · exact .inl rfl
      · exact .inr (List.mem_cons_of_mem _ a)
    · refine Int.le_trans ?_ b; split <;> omega
    · rcases List.mem_cons.mp h with rfl | h
      · refine Int.le_trans ?_ b; split <;> omega
      · exact c y h
theorem minL_spec : ∀ (xs : List Int) (m : Int), (minL m xs = m ∨ minL m xs ∈ xs) ∧ minL m xs ≤ m ∧ ∀ y ∈ xs, minL m xs ≤ y
  | [], m => ⟨.inl rfl, Int.le_refl _, fun _ h => nomatch h⟩
  | x :: xs, m => by
    obtain ⟨a, b, c⟩ := minL_spec xs (if x < m then x else m)
    unfold minL
    refine ⟨?_, ?_, fun y h => ?_⟩
    · rcases a with a | a
      · rw [a]; split
        · exact .inr (List.mem_cons_self)
        · exact .inl rfl
      · exact .inr (List.mem_cons_of_mem _ a)
    · refine Int.le_trans b ?_; split <;> omega
    · rcases List.mem_cons.mp h with rfl | h
      · refine Int.le_trans b ?_; split <;> omega
      · exact c y h
def maxOf : List Int → Option Int
  | [] => none
  | x :: xs => some (maxL x xs)
def minOf : List Int → Option Int
  | [] => none
  | x :: xs => some (minL x xs)
theorem maxOf_spec {ns m} (h : maxOf ns = some m) : m ∈ ns ∧ ∀ y ∈ ns, y ≤ m := by
  cases ns with
  | nil => cases h
  | cons x xs =>
    cases h
    obtain ⟨a, b, c⟩ := maxL_spec xs x
    exact ⟨a.elim (fun a => by rw [a]; exact List.mem_cons_self) (List.mem_cons_of_mem _), fun y h => (List.mem_cons.mp h).elim (fun e => e ▸ b) (c y)⟩
theorem minOf_spec {ns m} (h : minOf ns = some m) : m ∈ ns ∧ ∀ y ∈ ns, m ≤ y := by
  cases ns with
  | nil => cases h
  | cons x xs =>
    cases h
    obtain ⟨a, b, c⟩ := minL_spec xs x
    exact ⟨a.elim (fun a => by rw [a]; exact List.mem_cons_self) (List.mem_cons_of_mem _), fun y h => (List.mem_cons.mp h).elim (fun e => e ▸ b) (c y)⟩
def gMax1 (x : OD) : Option OD := ((intsOf x).bind maxOf).map oI
def gMin1 (x : OD) : Option OD := ((intsOf x).bind minOf).map oI
theorem c_max1 {K} : CaS K (rMax K) (c1 gMax1) := CaS.one fun F H v x fx fp d Q rs o e k => by
  unfold gMax1 at e
  cases q : intsOf x with
  | none => rw [q] at e; cases e
  | some ns =>
    rw [q] at e
    cases q2 : maxOf ns with
    | none => rw [show (some ns).bind maxOf = maxOf ns from rfl, q2] at e; cases e
    | some m =>
      rw [show (some ns).bind maxOf = maxOf ns from rfl, q2] at e; cases e
      obtain ⟨a, rfl, h⟩ := intsOf_at rs.sub o q
      obtain ⟨h1, h2⟩ := maxOf_spec q2
      refine ⟨a, ns, rfl, h, List.length_pos_of_mem h1, fun m' a b => ?_⟩
      have e : m' = m := Int.le_antisymm (h2 _ a) (b _ h1)
      rw [e]; exact k0 rs k (.p (.int _))
theorem c_min1 {K} : CaS K (rMin K) (c1 gMin1) := CaS.one fun F H v x fx fp d Q rs o e k => by
  unfold gMin1 at e
  cases q : intsOf x with
  | none => rw [q] at e; cases e
  | some ns =>
    rw [q] at e
    cases q2 : minOf ns with
    | none => rw [show (some ns).bind minOf = minOf ns from rfl, q2] at e; cases e
    | some m =>
      rw [show (some ns).bind minOf = minOf ns from rfl, q2] at e; cases e
      obtain ⟨a, rfl, h⟩ := intsOf_at rs.sub o q
      obtain ⟨h1, h2⟩ := minOf_spec q2
      refine ⟨a, ns, rfl, h, List.length_pos_of_mem h1, fun m' a b => ?_⟩
      have e : m' = m := Int.le_antisymm (b _ h1) (h2 _ a)
      rw [e]; exact k0 rs k (.p (.int _))
theorem CaS.or {r r' : List V → Hp → VK → Prop} {g g' : List OD → Option OD} (h : CaS K r g) (h' : CaS K r' g') : CaS K (fun x H Q => r x H Q ∨ r' x H Q) (fun x => (g x).orElse fun _ => g' x) := by
  intro F H v x fp d Q rs w e k
  dsimp only at e
  cases q : g x with
  | some z => rw [q] at e; cases e; exact .inl (h F H v x fp _ Q rs w q k)
  | none => rw [q] at e; exact .inr (h' F H v x fp _ Q rs w e k)
/-! sorted -/
def ins1 (x : Int) : List Int → List Int
  | [] => [x]
  | y :: ys => if x ≤ y then x :: y :: ys else y :: ins1 x ys
def srt : List Int → List Int
  | [] => []
  | x :: xs => ins1 x (srt xs)
theorem ins1_perm (x : Int) : ∀ l, (ins1 x l).Perm (x :: l)
  | [] => .refl _
  | y :: ys => by
    unfold ins1; split
    · exact .refl _
    · exact ((ins1_perm x ys).cons y).trans (.swap x y ys)
theorem ins1_pw (x : Int) : ∀ l, l.Pairwise (· ≤ ·) → (ins1 x l).Pairwise (· ≤ ·)
  | [], _ => by simp [ins1]
  | y :: ys, h => by
    obtain ⟨h1, h2⟩ := List.pairwise_cons.mp h
    unfold ins1; split
    · rename_i q
      exact List.pairwise_cons.mpr ⟨fun z hz => (List.mem_cons.mp hz).elim (fun e => e ▸ q) fun hz => Int.le_trans q (h1 z hz), h⟩
    · rename_i q
      refine List.pairwise_cons.mpr ⟨fun z hz => ?_, ins1_pw x ys h2⟩
      rcases List.mem_cons.mp ((ins1_perm x ys).mem_iff.mp hz) with rfl | hz
      · omega
      · exact h1 z hz
theorem srt_perm : ∀ l, (srt l).Perm l
  | [] => .refl _
  | x :: xs => (ins1_perm x _).trans ((srt_perm xs).cons x)
theorem srt_pw : ∀ l, (srt l).Pairwise (· ≤ ·)
  | [] => .nil
  | x :: xs => ins1_pw x _ (srt_pw xs)
theorem srt_uniq {l ns : List Int} (p : l.Perm ns) (s : l.Pairwise (· ≤ ·)) : l = srt ns :=
  (p.trans (srt_perm ns).symm).eq_of_pairwise (fun a b _ _ h1 h2 => Int.le_antisymm h1 h2) s (srt_pw ns)
def gSorted (x : OD) : Option OD := (intsOf x).map fun ns => .l ((srt ns).map fun i => .p (.int i))
theorem mapint (ns : List Int) : (ns.map fun i => OD.p (.int i)) = (ns.map PyData.int).map .p := by simp
theorem c_sorted {K} : CaS K (rSortedI K) (c1 gSorted) := CaS.one fun F H v x fx fp d Q rs o e k => by
  unfold gSorted at e
  cases q : intsOf x with
  | none => rw [q] at e; cases e
  | some ns =>
    rw [q] at e; cases e
    obtain ⟨a, rfl, h⟩ := intsOf_at rs.sub o q
    refine ⟨a, ns, rfl, h, fun ns' p h1 h2 h3 => ?_⟩
    rw [srt_uniq h1 h2]
    dsimp only at k
    rw [mapint] at k
    exact newL rs DdL.of_ints k p h3
/-! list(x), tuple(x), int(x), str(n) -/
def itsT : OD → Option (List PyData)
  | .p (.tuple ds) => some ds
  | x => its x
theorem itsT_at {K : PySem.W.Frag} {F H : Hp} {v x fx ds} (s : Inc F H) (o : Ow K F H v x fx) (e : itsT x = some ds) : ∃ a vs, v = .ref a ∧ (SqL K H a vs ∨ SqT K H a vs) ∧ DdL F vs ds := by
  unfold itsT at e
  split at e
  · cases e
    cases o with
    | p h => cases h with | tup a b => exact ⟨_, _, rfl, .inr (SqT.of (s _ _ a)), b⟩
  · obtain ⟨a, vs, h1, h2, h3⟩ := its_at s o e
    exact ⟨a, vs, h1, .inl (SqL.of h2), h3⟩
def gList (x : OD) : Option OD := (itsT x).map fun ds => .l (ds.map .p)
theorem c_list {K} : CaS K (fun xs H Q => ∃ p ys, xs = [.ref p] ∧ (SqL K H p ys ∨ SqT K H p ys) ∧ ∀ l, H l = none → Q (.ref l) (upd H l (.lst ys))) (c1 gList) := CaS.one fun F H v x fx fp d Q rs o e k => by
  unfold gList at e
  cases q : itsT x with
  | none => rw [q] at e; cases e
  | some ds =>
    rw [q] at e; cases e
    obtain ⟨a, vs, rfl, h, w⟩ := itsT_at rs.sub o q
    exact ⟨a, vs, rfl, h, newL rs w k⟩
theorem newT {F H : Hp} {fp : Fp} {vs : List V} {ds : List PyData} {Q : VK} (rs : RS F H fp) (w : DdL F vs ds) (k : ∀ v' F' H' f', Stp F H NoFp F' H' f' → Ow K F' H' v' (.p (.tuple ds)) f' → Q v' H') : ∀ p, H p = none → Q (.ref p) (upd H p (.tup vs)) := fun p hp => by
  have st := Stp.newPure (o := .tup vs) (fp := NoFp) ⟨rs.sub, fun _ z => z.elim⟩ hp
  exact k _ _ _ _ st (.p (.tup upd_same (w.inc st.inc)))
def gTuple : OD → Option OD
  | .p (.tuple ds) => some (.p (.tuple ds))
  | x => (its x).map fun ds => .p (.tuple ds)
theorem c_tuple {K} : CaS K (fun xs H Q => ∃ p ys, xs = [.ref p] ∧ ((SqL K H p ys ∧ ∀ l, H l = none → Q (.ref l) (upd H l (.tup ys))) ∨ (SqT K H p ys ∧ Q (.ref p) H))) (c1 gTuple) := CaS.one fun F H v x fx fp d Q rs o e k => by
  unfold gTuple at e
  split at e
  · cases e
    cases o with
    | p h => cases h with | tup a b => exact ⟨_, _, rfl, .inr ⟨SqT.of (rs.sub _ _ a), k0 rs k (.p (.tup a b))⟩⟩
  · cases q : its x with
    | none => rw [q] at e; cases e
    | some ds =>
      rw [q] at e; cases e
      obtain ⟨a, vs, rfl, h, w⟩ := its_at rs.sub o q
      exact ⟨a, vs, rfl, .inl ⟨SqL.of h, newT rs w k⟩⟩
def gInt : OD → Option OD
  | .p (.int i) => some (oI i)
  | .p (.bool b) => some (oI (if b then 1 else 0))
  | _ => none
theorem c_int : CaS K (fun xs H Q => (∃ i, xs = [.int i] ∧ Q (.int i) H) ∨ ∃ k, xs = [.bl k] ∧ Q (.int (if k then 1 else 0)) H) (c1 gInt) := CaS.one fun F H v x fx fp d Q rs o e k => by
  unfold gInt at e
  split at e
  · cases e; cases Ow.int o; exact .inl ⟨_, rfl, k0 rs k (.p (.int _))⟩
  · cases e; cases Ow.bl o; exact .inr ⟨_, rfl, k0 rs k (.p (.int _))⟩
  · cases e
def gStr : OD → Option OD
  | .p (.int i) => if i.natAbs < 2 ^ 1900 then some (oS (toString i)) else none
  | _ => none
theorem c_str : CaS K (fun xs H Q => ∃ i, xs = [.int i] ∧ i.natAbs.log2 < 1920 ∧ Q (.str (toString i)) H) (c1 gStr) := CaS.one fun F H v x fx fp d Q rs o e k => by
  unfold gStr at e
  split at e
  · split at e
    · rename_i q
      cases e; cases Ow.int o
      exact ⟨_, rfl, Nat.lt_trans (log2_lt' q (by decide)) (by decide), k0 rs k (.p (.str _))⟩
    · cases e
  · cases e
/-! isinstance of built-in classes -/
def kind : OD → Option String
  | .p .none => some "NoneType"
  | .p (.bool _) => some "bool"
  | .p (.int _) => some "int"
  | .p (.str _) => some "str"
  | .p (.list _) => some "list"
  | .p (.tuple _) => some "tuple"
  | .l _ => some "list"
  | .t _ => some "tuple"
  | _ => none
theorem kind_at {K : PySem.W.Frag} {F H : Hp} {v x fx n} (s : Inc F H) (o : Ow K F H v x fx) (e : kind x = some n) : TyX K H v (.type n) := by
  cases o with
  | h => cases e
  | p h =>
    cases h with
    | non => cases e; exact .base .non
    | bl b => cases e; exact .base (.bl b)
    | int b => cases e; exact .base (.int b)
    | str b => cases e; exact .base (.str b)
    | lst a b => cases e; exact .base (.lst (s _ _ a))
    | tup a b => cases e; exact .base (.tup (s _ _ a))
  | l a b c d => cases e; exact .base (.lst b)
  | t a b => cases e; exact .base (.tup (s _ _ a))
  | sc a => cases e
  | er => cases e
  | ob => cases e
  | fo => cases e
  | dc => cases e
def gIsi (T : String) (x : OD) : Option OD := (kind x).bind fun n => (kitB n T).map oB
/-- isinstance(x, T): the class is told beside -/
theorem isi_core {K : PySem.W.Frag} {T : String} {F H : Hp} {v x fx d} {fp : Fp} {Q : VK} (rs : RS F H fp) (o : Ow K F H v x fx) (e : gIsi T x = some d) (k : ∀ v' F' H' f', Stp F H NoFp F' H' f' → Ow K F' H' v' d f' → Q v' H') : rIsi K [v, .ty T] H Q := by
  unfold gIsi at e
  cases q : kind x with
  | none => rw [q] at e; cases e
  | some n =>
    rw [q] at e
    cases q2 : kitB n T with
    | none => rw [show (some n).bind (fun n => (kitB n T).map oB) = (kitB n T).map oB from rfl, q2] at e; cases e
    | some b =>
      rw [show (some n).bind (fun n => (kitB n T).map oB) = (kitB n T).map oB from rfl, q2] at e; cases e
      exact ⟨v, .ty T, _, _, b, rfl, .ty T, kind_at rs.sub o q, kit_ty q2, k0 rs k (.p (.bl _))⟩
def eIsi (T : String) (f : Env' → R Opd) : Env' → R OD := fun env => (f env).bind fun a e => ap1 (gIsi T) a e
theorem de_isi {X : Cx} {W : WX} {T : String} {a : Expr} {f : Env' → R Opd} {x : Str} {p p2 pos : Pos} (hv2 : bootBuiltins x = some (.type T)) (hg2 : Gl X x) (hm2 : X.mg x = none) (hg : Gl X "isinstance") (hm : X.mg "isinstance" = none) (ha : DV X W a f)
    (hn : x ≠ "__name__" := by decide) (hd : (x == ("__debug__" : Str)) = false := by decide)
    (he : starEach [a, .Name x p2] X.env = (false, eval a X.env) :: starEach [.Name x p2] X.env := by rfl) (he2 : starEach [.Name x p2] X.env = (false, eval (.Name x p2) X.env) :: starEach [] X.env := by rfl) (hpl : (backTo pos (starEach [.Name x p2] X.env)).any (·.1) = false := by rfl) :
    DE X W (.Call (.Name "isinstance" p) [a, .Name x p2] [] pos) (eIsi T f) := by
  refine pe_weak (pe_callB call_isi hg hm (by decide +kernel) (pa_cons ha (pa_cons (pe_bltn (v := .ty T) hg2 hm2 hv2 rfl hn hd) pa_nil he2) he) (by decide) (by decide) he hpl) fun σ H Q ⟨F, env, fp, rs, o, h⟩ => ?_
  refine seqV (Stp.rfl' rs) (fun _ q => q) o (fun h => h) PoE.ex_ h fun a e1 v F1 H1 fv f1 s1 dj1 w1 o1 h1 => ?_
  unfold ap1 at h1
  cases ea : a.at e1 with
  | none => rw [ea] at h1; exact h1.elim
  | some x =>
    rw [ea] at h1
    dsimp only at h1
    cases eg : gIsi T x with
    | none => rw [eg] at h1; exact h1.elim
    | some d =>
      rw [eg] at h1
      obtain ⟨fx, ox, lx⟩ := w1.look o1 ea
      exact isi_core s1.rs ox eg (h1.fin s1 (fun _ q => .inr q) o1)
/-! all of truth values -/
def toBls : List PyData → Option (List Bool)
  | [] => some []
  | .bool i :: ds => (toBls ds).map (i :: ·)
  | _ => none
theorem toBls_eq : ∀ {ds ns}, toBls ds = some ns → ds = ns.map .bool
  | [], ns, h => by cases h; rfl
  | .bool i :: ds, ns, h => by
    unfold toBls at h
    cases q : toBls ds with
    | none => rw [q] at h; cases h
    | some es => rw [q] at h; cases h; rw [toBls_eq q]; rfl
  | .none :: _, _, h => nomatch h
  | .int _ :: _, _, h => nomatch h
  | .str _ :: _, _, h => nomatch h
  | .list _ :: _, _, h => nomatch h
  | .tuple _ :: _, _, h => nomatch h
  | .dict _ :: _, _, h => nomatch h
@[simp] theorem toBls_map (ns : List Bool) : toBls (ns.map .bool) = some ns := by
  induction ns with
  | nil => rfl
  | cons n ns ih => simp [toBls, ih]
def gAll (x : OD) : Option OD := ((its x).bind toBls).map fun bs => oB (bs.all id)
theorem c_all {K} : CaS K (rAll K) (c1 gAll) := CaS.one fun F H v x fx fp d Q rs o e k => by
  unfold gAll at e
  cases q : its x with
  | none => rw [q] at e; cases e
  | some ds =>
    rw [q, show (some ds).bind toBls = toBls ds from rfl] at e
    cases q2 : toBls ds with
    | none => rw [q2] at e; cases e
    | some bs =>
      rw [q2] at e; cases e
      obtain ⟨a, vs, rfl, h, w⟩ := its_at rs.sub o q
      have := toBls_eq q2
      subst this
      rw [w.bls] at h
      exact ⟨a, bs, rfl, SqL.of h, k0 rs k (.p (.bl _))⟩
end DL

namespace DL
variable {K : PySem.W.Frag}
open PySem L2
/-- how a statement ends -/
inductive Out where
  | st
  | nx (env : Env')
  | rt (d : OD) (env : Env')
  | ex (C : Str) (f : Option (Str × PyData)) (env : Env')
section
variable (K : PySem.W.Frag) (mg : Mg) (W : WX) (B : List Nat) (F H : Hp) (fp : Fp) (σ : L2.St)
abbrev Bk (σ' : L2.St) : Prop := σ'.length = σ.length ∧ ∀ i ∈ B, σ'[i]? = σ[i]?
def PoS (D : Ends) : Out → Prop
  | .st => False
  | .nx env' => ∀ σ' F' H' fp', Stp F H fp F' H' fp' → Ows K F' H' σ' env' fp' → Bk B σ σ' → D.nx σ' H'
  | .rt d env' => ∀ v σ' F' H' fv fp', Stp F H fp F' H' (Un2 fv fp') → Dj fv fp' → Ow K F' H' v d fv → Ows K F' H' σ' env' fp' → Bk B σ σ' → D.rt v H'
  | .ex C f env' => ∀ σ' F' H' fp', Stp F H fp F' H' fp' → Ows K F' H' σ' env' fp' → Bk B σ σ' → ExK mg W C f F' H' σ'
end
def dTS (K : PySem.W.Frag) (mg : Mg) (W : WX) (B : List Nat) (f : Env' → Out) : TS := fun D σ H => ∃ F env fp, RS F H fp ∧ Ows K F H σ env fp ∧ PoS K mg W B F H fp σ D (f env)
abbrev DS (X : Cx) (W : WX) (B : List Nat) (s : Stmt) (f : Env' → Out) : Prop := PS X s (dTS X.K X.mg W B f)
abbrev DSs (X : Cx) (W : WX) (B : List Nat) (s : List Stmt) (f : Env' → Out) : Prop := PSs X s (dTS X.K X.mg W B f)
def R.out {α : Type} (r : R α) (k : α → Env' → Out) : Out := match r with
  | .st => .st
  | .ok a e => k a e
  | .ex C f e => .ex C f e
@[simp] theorem R.out_ok {α : Type} (a : α) (e : Env') (k : α → Env' → Out) : (R.ok a e).out k = k a e := rfl
@[simp] theorem R.out_st {α : Type} (k : α → Env' → Out) : (R.st : R α).out k = .st := rfl
@[simp] theorem R.out_ex {α : Type} (C f) (e : Env') (k : α → Env' → Out) : (R.ex C f e : R α).out k = .ex C f e := rfl
def Out.seq (o : Out) (g : Env' → Out) : Out := match o with
  | .nx e => g e
  | o => o
@[simp] theorem Out.seq_nx (e) (g : Env' → Out) : (Out.nx e).seq g = g e := rfl
@[simp] theorem Out.seq_rt (d e) (g : Env' → Out) : (Out.rt d e).seq g = .rt d e := rfl
@[simp] theorem Out.seq_st (g : Env' → Out) : Out.st.seq g = .st := rfl
@[simp] theorem Out.seq_ex (C f e) (g : Env' → Out) : (Out.ex C f e).seq g = .ex C f e := rfl
section
variable {mg : Mg} {W : WX} {B : List Nat} {F H F1 H1 : Hp} {fp f1 fq : Fp} {σ σ1 : L2.St} {env env1 : Env'} {D : Ends}
theorem Bk.tr {σ2 : L2.St} (a : Bk B σ σ1) (b : Bk B σ1 σ2) : Bk B σ σ2 := ⟨b.1.trans a.1, fun i h => (b.2 i h).trans (a.2 i h)⟩
theorem Bk.id' : Bk B σ σ := ⟨rfl, fun _ _ => rfl⟩
theorem Bk.set {i : Nat} {x} (h : i ∉ B) : Bk B σ (σ.set i x) := ⟨List.length_set, fun j hj => List.getElem?_set_ne (fun e => h (by rw [e]; exact hj))⟩
theorem PoS.step {o : Out} (s : Stp F H fp F1 H1 fq) (l : ∀ a, f1 a → fq a) (b : Bk B σ σ1) (h : PoS K mg W B F H fp σ D o) : PoS K mg W B F1 H1 f1 σ1 D o := by
  cases o with
  | st => exact h
  | nx e => exact fun σ' F' H' fp' t o b' => h σ' F' H' fp' (s.tr (t.from l)) o (b.tr b')
  | rt d e => exact fun v σ' F' H' fv fp' t dj w o b' => h v σ' F' H' fv fp' (s.tr (t.from l)) dj w o (b.tr b')
  | ex C f e => exact fun σ' F' H' fp' t o b' => h σ' F' H' fp' (s.tr (t.from l)) o (b.tr b')
theorem PoS.ex_ (C f e) (h : PoS K mg W B F H fp σ D (.ex C f e)) : PoX K mg W F H fp σ C f e := fun F' H' fp' s o => h σ F' H' fp' s o Bk.id'
/-- an expression's evaluation ahead of a statement's end -/
theorem outE {f : Env' → R OD} {k : OD → Env' → Out} {Q1 : VK} (r : RS F H fp) (o : Ows K F H σ env fp) (h : PoS K mg W B F H fp σ D ((f env).out k))
    (c : ∀ d e' v F' H' fv fp', Stp F H fp F' H' (Un2 fv fp') → Dj fv fp' → Ow K F' H' v d fv → Ows K F' H' σ e' fp' → PoS K mg W B F H fp σ D (k d e') → Q1 v H') : dTE K mg W f σ H Q1 := by
  refine ⟨F, env, fp, r, o, ?_⟩
  cases e : f env with
  | st => rw [e] at h; exact h.elim
  | ok d e' => rw [e] at h; exact fun v F' H' fv fp' t dj w o' => c d e' v F' H' fv fp' t dj w o' h
  | ex C x e' => rw [e] at h; exact h.ex_
theorem outT {f : Env' → R Bool} {k : Bool → Env' → Out} {Q1 : Bool → Hp → Prop} (r : RS F H fp) (o : Ows K F H σ env fp) (h : PoS K mg W B F H fp σ D ((f env).out k))
    (c : ∀ d e' F' H' fp', Stp F H fp F' H' fp' → Ows K F' H' σ e' fp' → PoS K mg W B F H fp σ D (k d e') → Q1 d H') : dTT K mg W f σ H Q1 := by
  refine ⟨F, env, fp, r, o, ?_⟩
  cases e : f env with
  | st => rw [e] at h; exact h.elim
  | ok d e' => rw [e] at h; exact fun F' H' fp' t o' => c d e' F' H' fp' t o' h
  | ex C x e' => rw [e] at h; exact h.ex_
theorem outA {f : Env' → R (List OD)} {k : List OD → Env' → Out} {Q1 : List V → Hp → Prop} (r : RS F H fp) (o : Ows K F H σ env fp) (h : PoS K mg W B F H fp σ D ((f env).out k))
    (c : ∀ d e' v F' H' fv fp', Stp F H fp F' H' (Un2 fv fp') → Dj fv fp' → Ows K F' H' (v.map some) d fv → Ows K F' H' σ e' fp' → PoS K mg W B F H fp σ D (k d e') → Q1 v H') : dTA K mg W f σ H Q1 := by
  refine ⟨F, env, fp, r, o, ?_⟩
  cases e : f env with
  | st => rw [e] at h; exact h.elim
  | ok d e' => rw [e] at h; exact fun v F' H' fv fp' t dj w o' => c d e' v F' H' fv fp' t dj w o' h
  | ex C x e' => rw [e] at h; exact h.ex_
end
/-- a block's first part and what follows -/
theorem PoS.split {mg : Mg} {W : WX} {B : List Nat} {F H : Hp} {fp : Fp} {σ : L2.St} {D D' : Ends} {o : Out} {g : Env' → Out} (h : PoS K mg W B F H fp σ D (o.seq g)) (hr : D'.rt = D.rt) (hn : ∀ σ' H', dTS K mg W B g D σ' H' → D'.nx σ' H') : PoS K mg W B F H fp σ D' o := by
  cases o with
  | st => exact h
  | nx e => exact fun σ' F' H' fp' s o' b => hn _ _ ⟨F', e, fp', s.rs, o', h.step s (fun _ z => z) b⟩
  | rt d e => intro v σ' F' H' fv fp' s dj w o b; rw [hr]; exact h v σ' F' H' fv fp' s dj w o b
  | ex C f e => exact h
section
variable {X : Cx} {W : WX} {B : List Nat} {pos : Pos}
/-! ### blocks -/
def sNil : Env' → Out := fun env => .nx env
def sSeq (f g : Env' → Out) : Env' → Out := fun env => (f env).seq g
theorem dss_nil : DSs X W B [] sNil := pss_weak pss_nil fun D σ H ⟨F, env, fp, r, o, h⟩ => h σ F H fp (Stp.rfl' r) o Bk.id'
theorem dss_one {s : Stmt} {f} (h : DS X W B s f) : DSs X W B [s] f := pss_one h
theorem dss_cons {s : Stmt} {ss : List Stmt} {f g} (h1 : DS X W B s f) (h2 : DSs X W B ss g) : DSs X W B (s :: ss) (sSeq f g) := pss_weak (pss_cons h1 h2) fun D σ H ⟨F, env, fp, r, o, h⟩ =>
  ⟨F, env, fp, r, o, h.split rfl fun _ _ z => z⟩
/-! ### small statements -/
def sSet (i : Nat) (f : Env' → R OD) : Env' → Out := fun env => (f env).out fun d e => .nx (e.set i d)
theorem set_core {mg : Mg} {i : Nat} {f : Env' → R OD} {D : Ends} {σ : L2.St} {H : Hp} (hB : i ∉ B) : dTS K mg W B (sSet i f) D σ H → tAsg (dTE K mg W f) (gName i) D σ H := fun ⟨F, env, fp, r, o, h⟩ =>
  outE r o h fun d e' v F' H' fv fp' s dj w o' h => h (σ.set i (some v)) F' H' (Un2 fv fp') s (Ows.store w i o' dj) (Bk.set hB)
theorem ds_set (i : Nat) {x : Str} {e : Expr} {f} {pos' : Pos} (hN : X.N.Nodup) (he : DE X W e f) (hB : i ∉ B := by decide) (hi : X.N[i]? = some x := by rfl) (hx : Loc X.env.scope x := by first | exact Or.inl rfl | exact Or.inr rfl)
    (hs : swapsWith e (some (.Name x pos')) pos.line X.env = pure false := by rfl) (hf : X.fn x = true ∨ X.env.scope.names.lookup x = some .local := by first | exact .inl rfl | exact .inr rfl) :
    DS X W B (.Assign [.Name x pos'] e pos) (sSet i f) := ps_weak (ps_set hN hi hx he hs hf) fun _ _ _ => set_core hB
def sRet (f : Env' → R OD) : Env' → Out := fun env => (f env).out fun d e => .rt d e
theorem ds_ret {e : Expr} {f} (he : DE X W e f) : DS X W B (.Return (some e) pos) (sRet f) := ps_weak (ps_ret he) fun D σ H ⟨F, env, fp, r, o, h⟩ =>
  outE r o h fun d e' v F' H' fv fp' s dj w o' h => h v σ F' H' fv fp' s dj w o' Bk.id'
def sExp (f : Env' → R OD) : Env' → Out := fun env => (f env).out fun _ e => .nx e
theorem ds_exp {e : Expr} {f} (he : DE X W e f) (hs : swapsWith e none pos.line X.env = pure false := by rfl) : DS X W B (.Expr e pos) (sExp f) := ps_weak (ps_expr he hs) fun D σ H ⟨F, env, fp, r, o, h⟩ =>
  outE r o h fun d e' v F' H' fv fp' s dj w o' h => h σ F' H' fp' (s.less fun _ => .inr) o' Bk.id'
def sIf (t : Env' → R Bool) (f g : Env' → Out) : Env' → Out := fun env => (t env).out fun b e => if b then f e else g e
theorem ds_if {c : Expr} {a b : List Stmt} {t f g} (hc : DT X W c t) (ha : DSs X W B a f) (hb : DSs X W B b g) : DS X W B (.If c a b pos) (sIf t f g) := ps_weak (ps_if hc ha hb) fun D σ H ⟨F, env, fp, r, o, h⟩ =>
  outT r o h fun d e' F' H' fp' s o' h => by
    cases d with
    | true => rw [if_pos rfl]; exact ⟨F', e', fp', s.rs, o', h.step s (fun _ z => z) Bk.id'⟩
    | false => rw [if_neg Bool.false_ne_true]; exact ⟨F', e', fp', s.rs, o', h.step s (fun _ z => z) Bk.id'⟩
def sPass : Env' → Out := fun env => .nx env
theorem ds_pass : DS X W B (.Pass pos) sPass := ps_weak ps_pass fun D σ H ⟨F, env, fp, r, o, h⟩ => h σ F H fp (Stp.rfl' r) o Bk.id'
/-- code that the proof never comes to -/
def sNever : Env' → Out := fun _ => .st
theorem ds_never {s : Stmt} : DS X W B s sNever := ps_weak ps_never fun D σ H ⟨F, env, fp, r, o, h⟩ => h
/-- names forgotten behind a statement -/
def clr : List Nat → Env' → Env'
  | [], e => e
  | j :: js, e => clr js (e.set j .h)
theorem Ows.clr {F H : Hp} {fp : Fp} : ∀ {js : List Nat} {us xs}, Ows K F H us xs fp → Ows K F H us (clr js xs) fp
  | [], _, _, o => o
  | j :: js, _, _, o => Ows.clr (js := js) (o.drop1 j)
def sFgt (js : List Nat) (f : Env' → Out) : Env' → Out := fun env => match f env with
  | .nx e => .nx (clr js e)
  | o => o
theorem fgt_core {mg : Mg} {js : List Nat} {f : Env' → Out} {D : Ends} {σ : L2.St} {H : Hp} : dTS K mg W B (sFgt js f) D σ H → dTS K mg W B f D σ H := fun ⟨F, env, fp, r, o, h⟩ => by
  refine ⟨F, env, fp, r, o, ?_⟩
  unfold sFgt at h
  cases q : f env with
  | st => rw [q] at h; exact h
  | nx e => rw [q] at h; exact fun σ' F' H' fp' s o' b => h σ' F' H' fp' s o'.clr b
  | rt d e => rw [q] at h; exact h
  | ex C f e => rw [q] at h; exact h
theorem ds_fgt (js : List Nat) {s : Stmt} {f} (h : DS X W B s f) : DS X W B s (sFgt js f) := ps_weak h fun _ _ _ => fgt_core
theorem dss_fgt (js : List Nat) {s : List Stmt} {f} (h : DSs X W B s f) : DSs X W B s (sFgt js f) := pss_weak h fun _ _ _ => fgt_core
/-! ### while -/
def whGo (t : Env' → R Bool) (f : Env' → Out) : Nat → Env' → Out
  | 0, _ => .st
  | n + 1, env => (t env).out fun b e => if b then (f e).seq (whGo t f n) else .nx e
def sWhile (fu : Env' → Nat) (t : Env' → R Bool) (f : Env' → Out) : Env' → Out := fun env => whGo t f (fu env) env
theorem while_core {mg : Mg} {fu} {t} {f} {D : Ends} {σ : L2.St} {H : Hp} : dTS K mg W B (sWhile fu t f) D σ H → tWhile (dTT K mg W t) (dTS K mg W B f) D σ H := fun ⟨F, env, fp, r, o, h⟩ => by
  refine ⟨fun m => dTS K mg W B (whGo t f m) D, ⟨fu env, F, env, fp, r, o, h⟩, fun m σ1 H1 ⟨F1, e1, f1, r1, o1, h1⟩ => ?_⟩
  cases m with
  | zero => exact h1.elim
  | succ m =>
    unfold whGo at h1
    refine outT r1 o1 h1 fun d e' F' H' fp' s o' h => ?_
    have h := h.step s (fun _ z => z) (Bk.id' (B := B))
    cases d with
    | false => rw [if_neg Bool.false_ne_true]; rw [if_neg Bool.false_ne_true] at h; exact h σ1 F' H' fp' (Stp.rfl' s.rs) o' Bk.id'
    | true =>
      rw [if_pos rfl]; rw [if_pos rfl] at h
      exact ⟨dTS K mg W B (whGo t f m) D, fun σ2 H2 h2 => ⟨m, Nat.lt_succ_self _, h2⟩, F', e', fp', s.rs, o', h.split rfl fun _ _ z => z⟩
theorem ds_while (fu : Env' → Nat) {c : Expr} {body : List Stmt} {t f} (hp : PassesOwn (model X.prog X.w) X.A X.env X.xe) (hc : DT X W c t) (hb : DSs X W B body f) : DS X W B (.While c body [] pos) (sWhile fu t f) :=
  ps_weak (ps_while hp hc hb) fun _ _ _ => while_core
/-! ### targets -/
abbrev Tg := OD → Env' → Option Env'
def dTG (K : PySem.W.Frag) (B : List Nat) (g : Tg) : TG := fun v σ H Q => ∃ F env fv fp d env', RS F H (Un2 fv fp) ∧ Dj fv fp ∧ Ow K F H v d fv ∧ Ows K F H σ env fp ∧ g d env = some env' ∧
  ∀ σ' fp', (∀ a, fp' a → Un2 fv fp a) → Ows K F H σ' env' fp' → Bk B σ σ' → Q σ' H
abbrev DG (X : Cx) (B : List Nat) (e : Expr) (g : Tg) : Prop := PG X e (dTG X.K B g)
theorem pg_weak {X : Cx} {e : Expr} {t u : TG} (h : PG X e t) (w : ∀ v σ H Q, u v σ H Q → t v σ H Q) : PG X e u := ⟨fun pins s σ H v u Q I r q => h.run pins s σ H v u Q I r (w v σ H Q q)⟩
theorem pgs_weak {X : Cx} {e : List Expr} {t u : TGs} (h : PGs X e t) (w : ∀ v σ H Q, u v σ H Q → t v σ H Q) : PGs X e u := ⟨fun pins s σ H v u Q I r q => h.run pins s σ H v u Q I r (w v σ H Q q)⟩
theorem PG.or {X : Cx} {e : Expr} {t u : TG} (h : PG X e t) (h' : PG X e u) : PG X e (fun v σ H Q => t v σ H Q ∨ u v σ H Q) := ⟨fun pins s σ H v u Q I r q =>
  q.elim (h.run pins s σ H v u Q I r) (h'.run pins s σ H v u Q I r)⟩
def gNm (i : Nat) : Tg := fun d e => some (e.set i d)
theorem dg_name (i : Nat) {x : Str} (hN : X.N.Nodup) (hB : i ∉ B := by decide) (hi : X.N[i]? = some x := by rfl) (hx : Loc X.env.scope x := by first | exact Or.inl rfl | exact Or.inr rfl)
    (hf : X.fn x = true ∨ X.env.scope.names.lookup x = some .local := by first | exact .inl rfl | exact .inr rfl) : DG X B (.Name x pos) (gNm i) :=
  pg_weak (pg_name hN hi hx hf) fun v σ H Q ⟨F, env, fv, fp, d, env', rs, dj, w, o, e, k⟩ => by
    cases e; exact k _ (Un2 fv fp) (fun _ z => z) (Ows.store w i o dj) (Bk.set hB)
abbrev Tgs := List OD → Env' → Option Env'
def dTGs (K : PySem.W.Frag) (B : List Nat) (g : Tgs) : TGs := fun vs σ H Q => ∃ F env fv fp ds env', RS F H (Un2 fv fp) ∧ Dj fv fp ∧ Ows K F H (vs.map some) ds fv ∧ Ows K F H σ env fp ∧ g ds env = some env' ∧
  ∀ σ' fp', (∀ a, fp' a → Un2 fv fp a) → Ows K F H σ' env' fp' → Bk B σ σ' → Q σ' H
abbrev DGs (X : Cx) (B : List Nat) (e : List Expr) (g : Tgs) : Prop := PGs X e (dTGs X.K B g)
def gsNil : Tgs := fun ds e => match ds with
  | [] => some e
  | _ => none
def gsCons (g : Tg) (gs : Tgs) : Tgs := fun ds e => match ds with
  | d :: ds => (g d e).bind (gs ds)
  | _ => none
theorem dgs_nil : DGs X B [] gsNil := pgs_weak pgs_nil fun vs σ H Q ⟨F, env, fv, fp, d, env', rs, dj, w, o, e, k⟩ => by
  cases d with
  | nil =>
    cases e
    have hl := ows_len w
    exact ⟨List.eq_nil_of_length_eq_zero hl, k σ fp (fun _ => .inr) o Bk.id'⟩
  | cons => cases e
theorem dgs_cons {e : Expr} {es : List Expr} {g gs} (h1 : DG X B e g) (h2 : DGs X B es gs) (hs : (assignEach (e :: es) X.env).map (·.2) = assign e X.env :: (assignEach es X.env).map (·.2) := by rfl) : DGs X B (e :: es) (gsCons g gs) :=
  pgs_weak (pgs_cons h1 h2 hs) fun vs σ H Q ⟨F, env, fv, fp, ds, env', rs, dj, w, o, e, k⟩ => by
    cases ds with
    | nil => cases e
    | cons d ds =>
      cases q : g d env with
      | none => rw [gsCons, q] at e; cases e
      | some e1 =>
        rw [gsCons, q] at e
        have e : gs ds e1 = some env' := e
        cases vs with
        | nil => cases w
        | cons v vs =>
          refine ⟨v, vs, rfl, ?_⟩
          have go : ∀ {f1 f2 : Fp}, Ow X.K F H v d f1 → Ows X.K F H (vs.map some) ds f2 → (∀ a, f1 a → fv a) → (∀ a, f2 a → fv a) → Dj f1 f2 → dTG X.K B g v σ H fun σ' H' => dTGs X.K B gs vs σ' H' Q := fun {f1 f2} w1 w2 l1 l2 d12 => by
            refine ⟨F, env, f1, fp, d, e1, ⟨rs.sub, fun a z => rs.own a (z.imp_left (l1 a))⟩, fun a z => dj a (l1 a z), w1, o, q, fun σ' fp' l o' b => ?_⟩
            refine ⟨F, e1, f2, fp', ds, env', ⟨rs.sub, fun a z => rs.own a (z.elim (fun z => .inl (l2 a z)) fun z => (l a z).imp_left (l1 a))⟩, fun a z z2 => (l a z2).elim (fun z2 => d12 a z2 z) (dj a (l2 a z)), w2, o', e, fun σ2 f3 l3 o3 b3 => ?_⟩
            exact k σ2 f3 (fun a z => (l3 a z).elim (fun z => .inl (l2 a z)) fun z => (l a z).imp_left (l1 a)) o3 (b.tr b3)
          cases w with
          | hole w => exact go (f1 := NoFp) .h w (fun _ z => z.elim) (fun _ z => z) dj0
          | cons a b c d' e' => exact go a b c d' e'
def prts : OD → Option (List OD)
  | .p (.tuple ds) => some (ds.map .p)
  | .p (.list ds) => some (ds.map .p)
  | .t xs => some xs
  | .l xs => some xs
  | _ => none
def gTp (n : Nat) (gs : Tgs) : Tg := fun d e => match prts d with
  | some ds => if ds.length = n then gs ds e else none
  | none => none
theorem dg_tup {es : List Expr} {k : Nat} {gs} (n : Nat) (hc : X.calm = true) (h : DGs X B es gs) (hn : (assignEach es X.env).length = n := by rfl) (hst : (assignEach es X.env).findIdx? (·.1) = none := by rfl) : DG X B (.Tuple es k pos) (gTp n gs) :=
  pg_weak (PG.or (pg_tup hc h hn hst) (pg_lst hc h hn hst)) fun v σ H Q ⟨F, env, fv, fp, d, env', rs, dj, w, o, e, k⟩ => by
    unfold gTp at e
    cases q : prts d with
    | none => rw [q] at e; cases e
    | some ds =>
      rw [q] at e
      dsimp only at e
      split at e
      · rename_i hl
        have go : ∀ {vs : List V}, Ows X.K F H (vs.map some) ds fv → vs.length = n ∧ dTGs X.K B gs vs σ H Q := fun {vs} w => ⟨(ows_len w).trans hl, F, env, fv, fp, ds, env', rs, dj, w, o, e, k⟩
        cases w with
        | h => cases q
        | sc => cases q
        | er => cases q
        | ob => cases q
        | fo => cases q
        | dc => cases q
        | p w =>
          cases w with
          | lst a b => cases q; obtain ⟨g1, g2⟩ := go (Ows.of_pure b); exact .inr ⟨_, _, rfl, SqL.of (rs.sub _ _ a), g1, g2⟩
          | tup a b => cases q; obtain ⟨g1, g2⟩ := go (Ows.of_pure b); exact .inl ⟨_, _, rfl, SqT.of (rs.sub _ _ a), g1, g2⟩
          | _ => cases q
        | l a b c d => cases q; obtain ⟨g1, g2⟩ := go (c.weak fun b z => (d b z).1); exact .inr ⟨_, _, rfl, SqL.of b, g1, g2⟩
        | t a b => cases q; obtain ⟨g1, g2⟩ := go b; exact .inl ⟨_, _, rfl, SqT.of (rs.sub _ _ a), g1, g2⟩
      · cases e
def sAsg (g : Tg) (f : Env' → R OD) : Env' → Out := fun env => (f env).out fun d e => match g d e with
  | some e' => .nx e'
  | none => .st
theorem ds_asg {tg e : Expr} {f g} (he : DE X W e f) (hg : DG X B tg g) (hs : swapsWithSole [tg] e pos.line X.env = pure false := by rfl) (hw : swappedStores [tg] e X.env = pure none := by rfl)
    (h1 : (assignEach [tg] X.env).map (·.2) = [assign tg X.env] := by rfl) : DS X W B (.Assign [tg] e pos) (sAsg g f) := ps_weak (ps_asg he hg hs hw h1) fun D σ H ⟨F, env, fp, r, o, h⟩ =>
  outE r o h fun d e' v F' H' fv fp' s dj w o' h => by
    cases q : g d e' with
    | none => rw [q] at h; exact h.elim
    | some e2 =>
      rw [q] at h
      exact ⟨F', e', fv, fp', d, e2, s.rs, dj, w, o', q, fun σ' f2 l o2 b => h σ' F' H' f2 (s.less l) o2 b⟩
/-- a, b = x, y -/
def sPar (i j : Nat) (f : Env' → R (List OD)) : Env' → Out := fun env => (f env).out fun ds e => match ds with
  | [x, y] => .nx ((e.set i x).set j y)
  | _ => .st
theorem ds_par (i j : Nat) {x y : Str} {a b : Expr} {f} {px py pt : Pos} {kt k2 pt2} (hc : X.calm = true) (hN : X.N.Nodup) (ha : DA X W [a, b] f) (hBi : i ∉ B := by decide) (hBj : j ∉ B := by decide) (hi : X.N[i]? = some x := by rfl) (hj : X.N[j]? = some y := by rfl) (hij : i ≠ j := by decide)
    (hx : X.env.scope.names.lookup x = some .local := by rfl) (hy : X.env.scope.names.lookup y = some .local := by rfl)
    (hw : swappedStores [.Tuple [.Name x px, .Name y py] kt pt] (.Tuple [a, b] k2 pt2) X.env = pure (some [x, y]) := by rfl)
    (hs : swapsWithSole [.Tuple [.Name x px, .Name y py] kt pt] (.Tuple [a, b] k2 pt2) pos.line X.env = pure false := by rfl) :
    DS X W B (.Assign [.Tuple [.Name x px, .Name y py] kt pt] (.Tuple [a, b] k2 pt2) pos) (sPar i j f) := ps_weak (ps_par hc hN hi hj hij hx hy ha hw hs) fun D σ H ⟨F, env, fp, r, o, h⟩ =>
  outA r o h fun ds e' vs F' H' fv fp' s dj w o' h => by
    cases ds with
    | nil => exact h.elim
    | cons d1 ds =>
      cases ds with
      | nil => exact h.elim
      | cons d2 ds =>
        cases ds with
        | cons => exact h.elim
        | nil =>
          have hl := ows_len w
          match vs, hl, w with
          | [v1, v2], _, w =>
            refine ⟨v1, v2, rfl, ?_⟩
            have two : ∃ f1 f2 : Fp, Ow X.K F' H' v1 d1 f1 ∧ Ow X.K F' H' v2 d2 f2 ∧ (∀ a, f1 a → fv a) ∧ (∀ a, f2 a → fv a) ∧ Dj f1 f2 := by
              have one : ∀ {g : Fp}, Ows X.K F' H' [some v2] [d2] g → ∃ f2, Ow X.K F' H' v2 d2 f2 ∧ ∀ a, f2 a → g a := fun w => by
                cases w with
                | hole => exact ⟨NoFp, .h, fun _ z => z.elim⟩
                | cons a b c d e => exact ⟨_, a, c⟩
              cases w with
              | hole w => obtain ⟨f2, a, b⟩ := one w; exact ⟨NoFp, f2, .h, a, fun _ z => z.elim, b, dj0⟩
              | cons a b c d e => obtain ⟨f2, p, q⟩ := one b; exact ⟨_, f2, a, p, c, fun z y => d z (q z y), fun z y y2 => e z y (q z y2)⟩
            obtain ⟨f1, f2, w1, w2, l1, l2, d12⟩ := two
            have o1 := Ows.store w1 i o' (fun a z => dj a (l1 a z))
            have o2 := Ows.store w2 j o1 (fun a z z2 => z2.elim (fun z2 => d12 a z2 z) (dj a (l2 a z)))
            exact h _ F' H' (Un2 f2 (Un2 f1 fp')) (s.less fun a z => z.elim (fun z => .inl (l2 a z)) fun z => z.imp_left (l1 a)) o2 ((Bk.set hBi).tr (Bk.set hBj))
end
end DL

namespace DL
variable {K : PySem.W.Frag}
open PySem L2
/-! ### methods that change a list -/
theorem Ows.split {F H : Hp} : ∀ {us xs} {fp : Fp} (n : Nat), Ows K F H us xs fp → ∃ f1 f2 : Fp, Ows K F H (us.take n) (xs.take n) f1 ∧ Ows K F H (us.drop n) (xs.drop n) f2 ∧ Dj f1 f2 ∧ (∀ a, f1 a → fp a) ∧ ∀ a, f2 a → fp a
  | _, _, fp, 0, o => ⟨fun _ => False, fp, by simpa using Ows.nil, by simpa using o, fun _ z => z.elim, fun _ z => z.elim, fun _ z => z⟩
  | _, _, fp, n + 1, .nil => ⟨fp, fun _ => False, by simpa using Ows.nil, by simpa using Ows.nil, fun _ _ z => z, fun _ z => z, fun _ z => z.elim⟩
  | _, _, fp, n + 1, .hole o => by
    obtain ⟨f1, f2, a, b, c, d, e⟩ := Ows.split n o
    exact ⟨f1, f2, by simpa using Ows.hole a, by simpa using b, c, d, e⟩
  | _, _, fp, n + 1, .cons (f1 := g1) (f2 := g2) w o l1 l2 dj => by
    obtain ⟨f1, f2, a, b, c, d, e⟩ := Ows.split n o
    exact ⟨Un2 g1 f1, f2, by simpa using Ows.cons (f1 := g1) (f2 := f1) w a (fun _ => .inl) (fun _ => .inr) (fun q z z2 => dj q z (d q z2)), by simpa using b,
      fun q z z2 => z.elim (fun z => dj q z (e q z2)) fun z => c q z z2, fun q z => z.elim (l1 q) fun z => l2 q (d q z), fun q z => l2 q (e q z)⟩
def MuS (K : PySem.W.Frag) (r : V → List V → Hp → VK → Prop) (g : List OD → List OD → Option (OD × List OD)) : Prop := ∀ F H a ws xs vs ys f1 f2 res xs' (Q : VK), Inc F H → H a = some (.lst ws) → Ows K F H (ws.map some) xs f1 → Ows K F H (vs.map some) ys f2 → Dj f1 f2 →
  g xs ys = some (res, xs') → (∀ ws' v f3 f4, Ows K F H (List.map some ws') xs' f3 → Ow K F H v res f4 → Dj f3 f4 → (∀ b, f3 b → Un2 f1 f2 b) → (∀ b, f4 b → Un2 f1 f2 b) → Q v (upd H a (.lst ws'))) → r (.ref a) vs H Q
def eMut (i : Nat) (g : List OD → List OD → Option (OD × List OD)) (f : Env' → R (List OD)) : Env' → R OD := fun env => match lk env i with
  | some (.l _) => (f env).bind fun ys e => match lk e i with
    | some (.l xs) => match g xs ys with
      | some (res, xs') => .ok res (e.set i (.l xs'))
      | none => .st
    | _ => .st
  | _ => .st
theorem mut_core {K : PySem.W.Frag} {W : WX} {mg : Mg} {i : Nat} {r g f} (hs : MuS K r g) {σ : L2.St} {H : Hp} {Q : VK} : dTE K mg W (eMut i g f) σ H Q → tBM K "list" r (tVar i) (dTA K mg W f) σ H Q := fun ⟨F, env, fp, rs, o, h⟩ => by
  unfold eMut at h
  cases e0 : lk env i with
  | none => rw [e0] at h; exact h.elim
  | some x0 =>
    rw [e0] at h
    cases x0 with
    | l xs0 =>
      dsimp only at h
      obtain ⟨e1, n1⟩ := lk_some e0
      obtain ⟨v, g1, g2, hv, w0, _⟩ := o.get e1 n1
      cases w0 with
      | l fa ha wl hd =>
        rename_i a ws0 _
        refine ⟨.ref a, hv, .inl ⟨rfl, _, SqL.of ha⟩, ?_⟩
        refine seqA (Stp.rfl' rs) (fun _ q => q) o (fun h => h) PoE.ex_ h fun ys e' vs F1 H1 fv f1 s1 dj1 w1 o1 h1 => ?_
        cases e2 : lk e' i with
        | none => rw [e2] at h1; exact h1.elim
        | some x1 =>
          rw [e2] at h1
          cases x1 with
          | l xs =>
            dsimp only at h1
            cases eg : g xs ys with
            | none => rw [eg] at h1; exact h1.elim
            | some p =>
              obtain ⟨res, xs'⟩ := p
              rw [eg] at h1
              dsimp only at h1
              obtain ⟨e3, n3⟩ := lk_some e2
              obtain ⟨v', k1, k2, hv', w2, orest, l1, l2, dk⟩ := o1.get e3 n3
              rw [hv] at hv'; cases hv'
              cases w2 with
              | l fa' ha' wl' hd' =>
                rename_i ws fq
                have dqv : Dj fq fv := fun b z z2 => dj1 b z2 (l1 b (hd' b z).1)
                refine hs F1 H1 a ws xs vs ys fq fv res xs' Q s1.rs.sub ha' wl' w1 dqv eg fun ws' u f3 f4 o3 w4 d34 l3 l4 => ?_
                have ai : f1 a := l1 a fa'
                have na3 : ∀ b, Un2 fq fv b → b ≠ a := fun b z e => z.elim (fun z => (hd' b z).2 e) fun z => dj1 b z (e ▸ ai)
                have st := Stp.put (o := .lst ws') s1.rs (a := a) (.inr ai)
                have o3' := o3.mono st.inc (H' := upd H1 a (.lst ws')) fun b z => upd_ne (na3 b (l3 b z))
                have w4' := w4.mono st.inc (H' := upd H1 a (.lst ws')) fun b z => upd_ne (na3 b (l4 b z))
                have or' := orest.mono st.inc (H' := upd H1 a (.lst ws')) fun b z => upd_ne fun e => dk a fa' (e ▸ z)
                have wn : Ow K F1 (upd H1 a (.lst ws')) (.ref a) (.l xs') (Un2 (fun b => b = a) f3) := .l (.inl rfl) upd_same o3' fun b z => ⟨.inr z, na3 b (l3 b z)⟩
                have dn : Dj (Un2 (fun b => b = a) f3) k2 := fun b z z2 => z.elim (fun e => dk a fa' (e ▸ z2)) fun z => (l3 b z).elim (fun z => dk b (hd' b z).1 z2) fun z => dj1 b z (l2 b z2)
                have op := Ows.put wn or' hv dn
                rw [List.set_set] at op
                have up : ∀ b, Un2 fq fv b → Un2 fv f1 b := fun b z => z.elim (fun z => .inr (l1 b (hd' b z).1)) .inl
                refine h1 u F1 _ f4 _ ((s1.tr st).less fun b z => ?_) (fun b z z2 => ?_) w4' op
                · rcases z with z | (z | z) | z
                  · exact up b (l4 b z)
                  · exact .inr (z ▸ ai)
                  · exact up b (l3 b z)
                  · exact .inr (l2 b z)
                · rcases z2 with (z2 | z2) | z2
                  · exact na3 b (l4 b z) z2
                  · exact d34 b z2 z
                  · exact (l4 b z).elim (fun z => dk b (hd' b z).1 z2) fun z => dj1 b z (l2 b z2)
          | _ => exact h1.elim
    | _ => exact h.elim
abbrev Mu := List OD → List OD → Option (OD × List OD)
def gAppend : Mu
  | xs, [y] => if xs.length < 100000 then some (.p .none, xs ++ [y]) else none
  | _, _ => none
def gClear : Mu
  | _, [] => some (.p .none, [])
  | _, _ => none
def popOf : Option OD → List OD → Option (OD × List OD)
  | none, _ => none
  | some .h, _ => none
  | some x, xs => some (x, xs.dropLast)
def gPop : Mu
  | xs, [] => popOf (xs[xs.length - 1]?) xs
  | _, _ => none
def gInsert : Mu
  | xs, [.p (.int i), y] => if xs.length < 100000 ∧ 0 ≤ i ∧ i < 2 ^ 63 then some (.p .none, xs.take i.toNat ++ [y] ++ xs.drop i.toNat) else none
  | _, _ => none
def xpd : OD → Option (List OD)
  | .l zs => some zs
  | .p (.list ds) => some (ds.map .p)
  | _ => none
def extOf (xs : List OD) : Option (List OD) → Option (OD × List OD)
  | some zs => if xs.length + zs.length ≤ 100000 then some (.p .none, xs ++ zs) else none
  | none => none
def gExtend : Mu
  | xs, [y] => extOf xs (xpd y)
  | _, _ => none
theorem m_append : MuS K rAppend gAppend := by
  intro F H a ws xs vs ys f1 f2 res xs' Q s ha o1 o2 dj e k
  have hl := ows_len o2
  match ys, vs, hl, e with
  | [y], [v], _, e =>
    change (if xs.length < 100000 then some (OD.p .none, xs ++ [y]) else none) = some (res, xs') at e
    split at e
    · rename_i q
      cases e
      refine ⟨a, ws, v, rfl, rfl, ha, szlt (by rw [ows_len o1]; exact q), ?_⟩
      have o := Ows.app o2 o1 (fun b z z2 => dj b z2 z)
      rw [← List.map_append] at o
      exact k _ _ _ (fun _ => False) o (.p .non) (fun _ _ z => z) (fun _ z => z) fun _ z => z.elim
    · cases e
theorem m_clear : MuS K rClear gClear := by
  intro F H a ws xs vs ys f1 f2 res xs' Q s ha o1 o2 dj e k
  have hl := ows_len o2
  match ys, vs, hl, e with
  | [], [], _, e =>
    cases e
    exact ⟨a, ws, rfl, rfl, ha, k [] _ (fun _ => False) (fun _ => False) .nil (.p .non) (fun _ z => z.elim) (fun _ z => z.elim) fun _ z => z.elim⟩
theorem m_pop : MuS K rPop gPop := by
  intro F H a ws xs vs ys f1 f2 res xs' Q s ha o1 o2 dj e k
  have hl := ows_len o2
  match ys, vs, hl, e with
  | [], [], _, e =>
    change popOf (xs[xs.length - 1]?) xs = some (res, xs') at e
    cases q : xs[xs.length - 1]? with
    | none => rw [q] at e; cases e
    | some y =>
      rw [q] at e
      have hy : y ≠ .h := fun z => by subst z; cases e
      have e : some (y, xs.dropLast) = some (res, xs') := by
        cases y <;> first | exact e | exact (hy rfl).elim
      cases e
      obtain ⟨v, g1, g2, a1, a2, a3, a4, a5, a6⟩ := o1.get q hy
      have hw := ows_len o1
      rw [List.getElem?_map, ← hw] at a1
      cases q2 : ws[ws.length - 1]? with
      | none => rw [q2] at a1; cases a1
      | some v' =>
        rw [q2] at a1; cases a1
        refine ⟨a, ws, v, rfl, rfl, ha, q2, ?_⟩
        have o3 : Ows K F H (ws.dropLast.map some) xs.dropLast g2 := by
          obtain ⟨h1, h2, b1, b2, b3, b4, b5⟩ := a3.split (xs.length - 1)
          have e1 : (xs.set (xs.length - 1) .h).take (xs.length - 1) = xs.dropLast := by rw [List.dropLast_eq_take, List.take_set_of_le (Nat.le_refl _)]
          rw [e1, ← List.map_take, ← hw, ← List.dropLast_eq_take] at b1
          exact b1.weak b4
        exact k _ _ _ _ o3 a2 (fun b z z2 => a6 b z2 z) (fun b z => .inl (a5 b z)) fun b z => .inl (a4 b z)
theorem m_insert : MuS K (fun x vs H Q => ∃ (l : Addr) (xs : List V) (i : Int) (y : V), x = .ref l ∧ vs = [.int i, y] ∧ H l = some (.lst xs) ∧ xs.length < sizeLine ∧ 0 ≤ i ∧ i < 2 ^ 63 ∧ Q .non (upd H l (.lst (xs.take i.toNat ++ [y] ++ xs.drop i.toNat))))
    gInsert := by
  intro F H a ws xs vs ys f1 f2 res xs' Q s ha o1 o2 dj e k
  unfold gInsert at e
  split at e
  · rename_i i y
    have hl := ows_len o2
    match vs, hl, o2 with
    | [v0, v1], _, o2 =>
      split at e
      · rename_i q
        cases e
        have h0 : v0 = .int i ∧ ∃ f, Ows K F H [some v1] [y] f ∧ ∀ a, f a → f2 a := by
          cases o2 with
          | cons a b c d e => cases a with | p a => cases a; exact ⟨rfl, _, b, d⟩
        obtain ⟨rfl, fy, oy, ly⟩ := h0
        refine ⟨a, ws, i, v1, rfl, rfl, ha, szlt (by rw [ows_len o1]; exact q.1), q.2.1, q.2.2, ?_⟩
        obtain ⟨h1, h2, b1, b2, b3, b4, b5⟩ := o1.split i.toNat
        have c1 := Ows.app b2 oy (fun b z z2 => dj b (b5 b z) (ly b z2))
        have c2 := Ows.app c1 b1 (fun b z z2 => z.elim (fun z => dj b (b4 b z2) (ly b z)) fun z => b3 b z2 z)
        rw [← List.map_take, ← List.map_drop, ← List.map_singleton, ← List.map_append, ← List.map_append, ← List.append_assoc, ← List.append_assoc] at c2
        exact k _ _ _ (fun _ => False) c2 (.p .non) (fun _ _ z => z) (fun b z => z.elim (fun z => .inl (b4 b z)) fun z => z.elim (fun z => .inr (ly b z)) fun z => .inl (b5 b z)) fun _ z => z.elim
      · cases e
  · cases e
theorem m_extend : MuS K rExtend gExtend := by
  intro F H a ws xs vs ys f1 f2 res xs' Q s ha o1 o2 dj e k
  have hl := ows_len o2
  match ys, vs, hl, e, o2 with
  | [y], [v], _, e, o2 =>
    change extOf xs (xpd y) = some (res, xs') at e
    cases q0 : xpd y with
    | none => rw [q0] at e; cases e
    | some zs =>
      rw [q0] at e
      change (if xs.length + zs.length ≤ 100000 then some (OD.p .none, xs ++ zs) else none) = some (res, xs') at e
      split at e
      · rename_i q
        cases e
        have h0 : ∃ b us f, v = .ref b ∧ H b = some (.lst us) ∧ Ows K F H (us.map some) zs f ∧ ∀ a, f a → f2 a := by
          cases o2 with
          | hole => cases q0
          | cons a b c d e =>
            cases a with
            | h => cases q0
            | sc => cases q0
            | er => cases q0
            | ob => cases q0
            | fo => cases q0
            | dc => cases q0
            | t => cases q0
            | p a =>
              cases a with
              | lst p r => cases q0; exact ⟨_, _, fun _ => False, rfl, s _ _ p, Ows.of_pure r, fun _ z => z.elim⟩
              | _ => cases q0
            | l p r t u => cases q0; exact ⟨_, _, _, rfl, r, t, fun a z => c a (u a z).1⟩
        obtain ⟨b, us, f, rfl, hb, ob, lb⟩ := h0
        refine ⟨a, b, ws, us, rfl, rfl, ha, hb, szl (by rw [ows_len o1, ows_len ob]; exact q), ?_⟩
        have o := Ows.app ob o1 (fun b z z2 => dj b z2 (lb b z))
        rw [← List.map_append] at o
        exact k _ _ _ (fun _ => False) o (.p .non) (fun _ _ z => z) (fun b z => z.imp_right (lb b)) fun _ z => z.elim
      · cases e
section
variable {X : Cx} {W : WX} {B : List Nat} {pos : Pos}
theorem de_mut (i : Nat) {x name : Str} {id : String} {r g f} {e : Expr} {es : List Expr} {p apos cpos : Pos} (slot : Slot "list" name id) (hty : typeOf (.builtin id) = pure (.type "method_descriptor")) (hm : MtR X id r) (hs : MuS X.K r g) (ha : DA X W (e :: es) f)
    (hN : X.N[i]? = some x := by rfl) (hv : Vis X.env.scope x := by first | exact Or.inl rfl | exact Or.inr (Or.inl rfl) | exact Or.inr (Or.inr rfl)) (hd : (x == ("__debug__" : Str)) = false := by decide) (hcd : (x == ("__classdict__" : Str)) = false := by decide)
    (hbase : attributeBase (.Name x p) name X.env (eval (.Name x p) X.env) = eval (.Name x p) X.env := by rfl)
    (hfew : ((backTo cpos (starEach (e :: es) X.env)).all (fun x => !x.1) && (backToKw cpos (keywordEach [] X.env)).all (fun x => x.1.isSome)
      && decide ((e :: es).length + ([] : List Keyword).length + (if ([] : List Keyword).isEmpty then 0 else 1) < 30)) = true := by rfl)
    (hline : (apos.endLine == cpos.line) = true := by rfl) (hst : starEach (e :: es) X.env = (false, eval e X.env) :: starEach es X.env := by rfl) (hpl : (backTo cpos (starEach es X.env)).any (·.1) = false := by rfl) :
    DE X W (.Call (.Attribute (.Name x p) name apos) (e :: es) [] cpos) (eMut i g f) :=
  pe_weak (pe_bm PySem.F.plainAttrs_list slot hty hm (pe_var hN hv hd hcd) ha hbase hfew hline hst hpl) fun _ _ _ => mut_core hs
theorem de_mut0 (i : Nat) {x name : Str} {id : String} {r g} {p apos cpos : Pos} (slot : Slot "list" name id) (hty : typeOf (.builtin id) = pure (.type "method_descriptor")) (hm : MtR X id r) (hs : MuS X.K r g)
    (hN : X.N[i]? = some x := by rfl) (hv : Vis X.env.scope x := by first | exact Or.inl rfl | exact Or.inr (Or.inl rfl) | exact Or.inr (Or.inr rfl)) (hd : (x == ("__debug__" : Str)) = false := by decide) (hcd : (x == ("__classdict__" : Str)) = false := by decide)
    (hbase : attributeBase (.Name x p) name X.env (eval (.Name x p) X.env) = eval (.Name x p) X.env := by rfl) (hline : (apos.endLine == cpos.line) = true := by rfl) :
    DE X W (.Call (.Attribute (.Name x p) name apos) [] [] cpos) (eMut i g aNil) :=
  pe_weak (pe_bm0 PySem.F.plainAttrs_list slot hty hm (pe_var hN hv hd hcd) hbase hline) fun σ H Q h => by
    obtain ⟨v, a, b, c⟩ := mut_core (K := X.K) hs h
    obtain ⟨F, env, fp, rs, o, h2⟩ := c
    exact ⟨v, a, b, h2 [] F H NoFp fp (Stp.id0 rs) dj0 .nil o⟩
end
theorem units65 {k : Nat} {A : Around} (r : Room k A) : A.units + 65 < cLine := by have := r.un; omega
end DL

namespace DL
variable {K : PySem.W.Frag}
open PySem PySem.Spec PyProof.Rows L2
/-! ### defs: what a def is worth, as a function of trees; its promise -/
abbrev Fn := List OD → R OD
def PoF (K : PySem.W.Frag) (mg : Mg) (F H : Hp) (fp : Fp) (vs : List V) (Q : VK) (E : XK) : R OD → Prop
  | .st => False
  | .ok d ods' => ∀ v F' H' fv fp', Stp F H fp F' H' (Un2 fv fp') → Dj fv fp' → Ow K F' H' v d fv → Ows K F' H' (vs.map some) ods' fp' → Q v H'
  | .ex C f ods' => ∀ F' H' fp', Stp F H fp F' H' fp' → Ows K F' H' (vs.map some) ods' fp' → ExK mg (fun c d _ H => E c d H) C f F' H' []
def spD (K : PySem.W.Frag) (mg : Mg) (n : Nat) (φ : Fn) : Sp := fun vs H Q E => vs.length = n ∧ ∃ F ods fp, RS F H fp ∧ Ows K F H (vs.map some) ods fp ∧ PoF K mg F H fp vs Q E (φ ods)
def mask (B : List Nat) (e : Env') : Nat → List OD
  | 0 => []
  | n + 1 => mask B e n ++ [if n ∈ B then (e[n]?).getD OD.h else OD.h]
def fnOfBody (n m : Nat) (B : List Nat) (g : Env' → Out) : Fn := fun ods => match g (ods ++ List.replicate (m - n) .h) with
  | .st => .st
  | .nx e => .ok (.p .none) (mask B e n)
  | .rt d e => .ok d (mask B e n)
  | .ex C f e => .ex C f (mask B e n)
theorem mask_len (B e) : ∀ n, (mask B e n).length = n
  | 0 => rfl
  | n + 1 => by unfold mask; rw [List.length_append, mask_len B e n]; rfl
theorem Ows.only {F H : Hp} {us : List (Option V)} {xs : List OD} {fp : Fp} (o : Ows K F H us xs fp) {us' : List (Option V)} {xs' : List OD} : us'.length = xs'.length → (∀ i : Nat, xs'[i]? = some OD.h ∨ xs'[i]? = none ∨ (xs'[i]? = xs[i]? ∧ us'[i]? = us[i]?)) → Ows K F H us' xs' fp := by
  induction us generalizing xs fp us' xs' with
  | nil =>
    intro hl k
    cases o
    have all : ∀ (us' : List (Option V)) (xs' : List OD), us'.length = xs'.length → (∀ x ∈ xs', x = OD.h) → Ows K F H us' xs' fp := fun us' => by
      induction us' with
      | nil => intro xs' hl _; cases xs' with | nil => exact .nil | cons => cases hl
      | cons u us' ih => intro xs' hl h; cases xs' with
        | nil => cases hl
        | cons x xs' =>
          have := h x List.mem_cons_self
          subst this
          exact .hole (ih xs' (by simpa using hl) fun x q => h x (List.mem_cons_of_mem _ q))
    refine all us' xs' hl fun x q => ?_
    obtain ⟨i, hi⟩ := List.getElem?_of_mem q
    rcases k i with z | z | ⟨z, _⟩
    · rw [hi] at z; exact Option.some.inj z
    · rw [hi] at z; cases z
    · rw [hi] at z; simp at z
  | cons u us ih =>
    intro hl k
    cases xs' with
    | nil => cases us' with | nil => exact .nil | cons => cases hl
    | cons x' xs' =>
      cases us' with
      | nil => cases hl
      | cons u' us' =>
        have hl' : us'.length = xs'.length := by simpa using hl
        cases o with
        | hole o =>
          have t := ih (us' := us') (xs' := xs') o hl' fun i => by simpa using k (i + 1)
          rcases k 0 with z | z | ⟨z, _⟩
          · have z : x' = .h := by simpa using z
            subst z; exact .hole t
          · simp at z
          · have z : x' = .h := by simpa using z
            subst z; exact .hole t
        | cons a b c d e =>
          have t := ih (us' := us') (xs' := xs') b hl' fun i => by simpa using k (i + 1)
          rcases k 0 with z | z | ⟨z, z2⟩
          · have z : x' = .h := by simpa using z
            subst z; exact .hole (t.weak d)
          · simp at z
          · simp only [List.getElem?_cons_zero, Option.some.injEq] at z z2
            subst z z2; exact .cons a t c d e
theorem mask_get (B e) : ∀ {n i : Nat}, i < n → (mask B e n)[i]? = some (if i ∈ B then (e[i]?).getD OD.h else OD.h)
  | 0, _, h => by omega
  | n + 1, i, h => by
    unfold mask
    by_cases q : i < n
    · rw [List.getElem?_append_left (by rw [mask_len]; exact q), mask_get B e q]
    · have : i = n := by omega
      subst this
      rw [List.getElem?_append_right (by rw [mask_len]; exact Nat.le_refl _), mask_len, Nat.sub_self]; rfl
theorem Ows.masked {F H : Hp} {σ : L2.St} {e : Env'} {fp : Fp} {vs : List V} {B : List Nat} (o : Ows K F H σ e fp) (b : ∀ i ∈ B, i < vs.length → σ[i]? = some (some (vs.getD i .non))) : Ows K F H (vs.map some) (mask B e vs.length) fp := by
  refine o.only (by rw [List.length_map, mask_len]) fun i => ?_
  by_cases hi : i < vs.length
  · rw [mask_get B e hi]
    by_cases hB : i ∈ B
    · rw [if_pos hB]
      cases q : e[i]? with
      | none => exact .inl rfl
      | some x =>
        refine .inr (.inr ⟨rfl, ?_⟩)
        rw [b i hB hi, List.getElem?_map, List.getD_eq_getElem?_getD, List.getElem?_eq_getElem hi]; rfl
    · rw [if_neg hB]; exact .inl rfl
  · exact .inr (.inl (List.getElem?_eq_none (by rw [mask_len]; omega)))
theorem start_len {N : List Str} {vs : List V} (h : vs.length ≤ N.length) : (L2.start N vs).length = N.length := by
  unfold L2.start; rw [List.length_append, List.length_map, List.length_replicate]; omega
section
variable {P : Program} {w : World} {K : PySem.W.Frag} {mg : Mg} {base : Heap}
/-- THE RULE for a def -/
theorem fn_ok {x qual : Str} {st : Stmt} {f : Addr} {fd : FuncData} {N ps : List Str} {k : Nat} (B : List Nat) {g : Env' → Out} (F : Fun K x qual st f fd) (S : FnScope N ps (defScope st)) (hn : ps.length ≤ N.length)
    (hbody : ∀ (cdv : Value) (A : Around) (outer : List Env) (s : Shared) (H : Hp) (E : XK), Room k (A.deeper (envOfC qual (defScope st) s.heap.objs.size f cdv)) →
      DSs (cxOf (L2.CX P w) P w K mg base N qual (defScope st) f cdv A outer s H E) (fun c d _ H => E c d H) B (defBody st) g) :
    FnOk P w K mg base (L2.CX P w) (k + 1) f fd ps (spD K mg ps.length (fnOfBody ps.length N.length B g)) := by
  refine F.okX S (fun vs H Q E h => h.1) fun cdv A outer s H vs Q E hr h => ⟨_, hbody cdv A outer s H E hr, ?_⟩
  obtain ⟨hl, F0, ods, fp, rs, o, h⟩ := h
  have ol := ows_len o
  have oe : Ows K F0 H (L2.start N vs) (ods ++ List.replicate (N.length - ps.length) .h) fp := by
    refine o.only (by rw [start_len (by omega), List.length_append, List.length_replicate]; omega) fun i => ?_
    by_cases hi : i < ods.length
    · refine .inr (.inr ⟨List.getElem?_append_left hi, ?_⟩)
      unfold L2.start; rw [List.getElem?_append_left (by rw [List.length_map]; omega)]
    · rw [List.getElem?_append_right (by omega), List.getElem?_replicate]
      split
      · exact .inl rfl
      · exact .inr (.inl rfl)
  have bk : ∀ {σ' : L2.St}, Bk B (L2.start N vs) σ' → ∀ i ∈ B, i < vs.length → σ'[i]? = some (some (vs.getD i .non)) := fun b i hB hi => by
    rw [b.2 i hB]
    unfold L2.start
    rw [List.getElem?_append_left (by rw [List.length_map]; exact hi), List.getElem?_map, List.getD_eq_getElem?_getD, List.getElem?_eq_getElem hi]; rfl
  refine ⟨F0, _, fp, rs, oe, ?_⟩
  show PoS K mg _ B F0 H fp _ _ (g (ods ++ List.replicate (N.length - ps.length) .h))
  unfold fnOfBody at h
  cases e : g (ods ++ List.replicate (N.length - ps.length) .h) with
  | st => rw [e] at h; exact h.elim
  | nx e' =>
    rw [e] at h
    refine fun σ' F' H' fp' s o' b => h .non F' H' NoFp fp' (s.less fun a q => q.elim False.elim id) dj0 (.p .non) ?_
    rw [← hl]; exact o'.masked (bk b)
  | rt d e' =>
    rw [e] at h
    refine fun v σ' F' H' fv fp' s dj w o' b => h v F' H' fv fp' s dj w ?_
    rw [← hl]; exact o'.masked (bk b)
  | ex C f e' =>
    rw [e] at h
    refine fun σ' F' H' fp' s o' b => h F' H' fp' s ?_
    rw [← hl]; exact o'.masked (bk b)
end
/-! ### calls of defs -/
abbrev BO := OD × Option Nat
def Backs (σ : L2.St) : List V → List BO → Prop := fun vs ys => Paired (fun v (y : BO) => ∀ i, y.2 = some i → σ[i]? = some (some v)) vs ys
def PoB (K : PySem.W.Frag) (mg : Mg) (W : WX) (F H : Hp) (fp : Fp) (σ : L2.St) (Q : VK) : R BO → Prop
  | .st => False
  | .ok y env' => ∀ v F' H' fv fp', Stp F H fp F' H' (Un2 fv fp') → Dj fv fp' → Ow K F' H' v y.1 fv → (∀ i, y.2 = some i → σ[i]? = some (some v)) → Ows K F' H' σ env' fp' → Q v H'
  | .ex C f env' => PoX K mg W F H fp σ C f env'
def PoBs (K : PySem.W.Frag) (mg : Mg) (W : WX) (F H : Hp) (fp : Fp) (σ : L2.St) (Q : List V → Hp → Prop) : R (List BO) → Prop
  | .st => False
  | .ok ys env' => ∀ vs F' H' fv fp', Stp F H fp F' H' (Un2 fv fp') → Dj fv fp' → Ows K F' H' (vs.map some) (ys.map (·.1)) fv → Backs σ vs ys → Ows K F' H' σ env' fp' → Q vs H'
  | .ex C f env' => PoX K mg W F H fp σ C f env'
def dTB (K : PySem.W.Frag) (mg : Mg) (W : WX) (f : Env' → R BO) : TE := fun σ H Q => ∃ F env fp, RS F H fp ∧ Ows K F H σ env fp ∧ PoB K mg W F H fp σ Q (f env)
def dTBs (K : PySem.W.Frag) (mg : Mg) (W : WX) (f : Env' → R (List BO)) : TA := fun σ H Q => ∃ F env fp, RS F H fp ∧ Ows K F H σ env fp ∧ PoBs K mg W F H fp σ Q (f env)
abbrev DB (X : Cx) (W : WX) (e : Expr) (f : Env' → R BO) : Prop := PE X e (dTB X.K X.mg W f)
abbrev DBs (X : Cx) (W : WX) (e : List Expr) (f : Env' → R (List BO)) : Prop := PA X e (dTBs X.K X.mg W f)
section
variable {X : Cx} {W : WX}
def bVal (f : Env' → R OD) : Env' → R BO := fun env => (f env).bind fun d e => .ok (d, none) e
theorem PoB.ex_ {mg : Mg} {F H : Hp} {fp : Fp} {σ} {Q} (C f e) (h : PoB K mg W F H fp σ Q (.ex C f e)) : PoX K mg W F H fp σ C f e := h
theorem PoBs.ex_ {mg : Mg} {F H : Hp} {fp : Fp} {σ} {Q} (C f e) (h : PoBs K mg W F H fp σ Q (.ex C f e)) : PoX K mg W F H fp σ C f e := h
theorem db_val {e : Expr} {f} (h : DE X W e f) : DB X W e (bVal f) := pe_weak h fun σ H Q ⟨F, env, fp, r, o, h⟩ =>
  seqE (Stp.rfl' r) (fun _ q => q) o (fun h => h) PoB.ex_ h fun d e' v F' H' fv fp' s dj w o' h => h v F' H' fv fp' s dj w (fun _ z => nomatch z) o'
def bSlot (i : Nat) : Env' → R BO := fun env => match lk env i with
  | none => .st
  | some (.p d) => .ok (.p d, none) env
  | some (.sc ns) => .ok (.sc ns, none) env
  | some (.er C f) => .ok (.er C f, none) env
  | some (.fo C ns ds) => .ok (.fo C ns ds, none) env
  | some x => .ok (x, some i) (env.set i .h)
theorem db_slot (i : Nat) {x : Str} {pos : Pos} (hN : X.N[i]? = some x := by rfl) (hv : Vis X.env.scope x := by first | exact Or.inl rfl | exact Or.inr (Or.inl rfl) | exact Or.inr (Or.inr rfl)) (hd : (x == ("__debug__" : Str)) = false := by decide)
    (hcd : (x == ("__classdict__" : Str)) = false := by decide) : DB X W (.Name x pos) (bSlot i) := by
  refine pe_weak (pe_var hN hv hd hcd) fun σ H Q ⟨F, env, fp, r, o, h⟩ => ?_
  unfold bSlot at h
  cases e : lk env i with
  | none => rw [e] at h; exact h.elim
  | some x =>
    rw [e] at h
    obtain ⟨e', n⟩ := lk_some e
    obtain ⟨v, f1, f2, a, b, c, s1, s2, dj⟩ := o.get e' n
    refine ⟨v, a, ?_⟩
    have mvd : PoB X.K X.mg W F H fp σ Q (.ok (x, some i) (env.set i .h)) → Q v H := fun h => h v F H f1 f2 ((Stp.rfl' r).less fun a q => q.elim (s1 a) (s2 a)) dj b (fun j z => by cases z; exact a) c
    cases x with
    | p d => exact h v F H NoFp fp (Stp.id0 r) dj0 b.np (fun _ z => nomatch z) o
    | sc ns => exact h v F H NoFp fp (Stp.id0 r) dj0 (by cases b with | sc b => exact .sc b) (fun _ z => nomatch z) o
    | er C f => exact h v F H NoFp fp (Stp.id0 r) dj0 (by cases b with | er b => exact .er b) (fun _ z => nomatch z) o
    | ob C ns xs => exact mvd h
    | fo C ns ds => exact h v F H NoFp fp (Stp.id0 r) dj0 (by cases b with | fo a b c d => exact .fo a b c d) (fun _ z => nomatch z) o
    | dc ks xs => exact mvd h
    | h => exact (n rfl).elim
    | l xs => exact mvd h
    | t xs => exact mvd h
def bNil : Env' → R (List BO) := fun env => .ok [] env
def bCons (f : Env' → R BO) (g : Env' → R (List BO)) : Env' → R (List BO) := fun env => (f env).bind fun x e => (g e).bind fun xs e2 => .ok (x :: xs) e2
theorem dbs_nil : DBs X W [] bNil := pa_weak pa_nil fun _ H _ ⟨F, env, fp, rs, o, h⟩ => h [] F H NoFp fp (Stp.id0 rs) dj0 .nil .nil o
theorem bcons_core {mg : Mg} {σ : L2.St} {H : Hp} {Q : List V → Hp → Prop} {f : Env' → R BO} {g : Env' → R (List BO)} : dTBs K mg W (bCons f g) σ H Q → tCons (dTB K mg W f) (dTBs K mg W g) σ H Q := fun ⟨F, env, fp, rs, o, h⟩ => by
  refine ⟨F, env, fp, rs, o, ?_⟩
  unfold bCons at h
  cases e : f env with
  | st => rw [e] at h; exact h.elim
  | ex C x e' => rw [e] at h; exact h
  | ok x e1 =>
    rw [e] at h
    intro v F1 H1 fv f1 s1 dj1 w1 bk1 o1
    refine ⟨F1, e1, f1, ⟨s1.rs.sub, fun a q => s1.rs.own a (.inr q)⟩, o1, ?_⟩
    cases e2 : g e1 with
    | st => rw [R.bind_ok, e2] at h; exact h.elim
    | ex C x e' => rw [R.bind_ok, e2] at h; exact PoX.step (C := C) (f := x) s1 (fun _ q => .inr q) h
    | ok ys e' =>
      rw [R.bind_ok, e2] at h
      intro u F2 H2 fu f2 s2 dj2 w2 bk2 o2
      have own : ∀ a, fv a → F1 a = none ∧ H1 a ≠ none := fun a q => s1.rs.own a (.inl q)
      have w1' := w1.step s2 dj1 (fun a q => (own a q).2)
      have d3 := s2.dj dj1 fun a q => (own a q).2
      have s3 : Stp F H fp F2 H2 (Un2 (Un2 fu f2) fv) := s1.tr ((s2.frame dj1 own).from fun a q => q.elim .inr .inl)
      exact h (v :: u) F2 H2 (Un2 fv fu) f2 (s3.less fun a q => q.elim (fun q => q.elim .inr fun q => .inl (.inl q)) fun q => .inl (.inr q)) (fun a q z => q.elim (fun q => d3 a q (.inr z)) fun q => dj2 a q z)
        (.cons (f1 := fv) (f2 := fu) w1' w2 (fun _ => .inl) (fun _ => .inr) fun a q z => d3 a q (.inl z)) (.cons bk1 bk2) o2
theorem dbs_cons {e : Expr} {es : List Expr} {f g} (ha : DB X W e f) (hr : DBs X W es g) (hs : starEach (e :: es) X.env = (false, eval e X.env) :: starEach es X.env := by rfl) : DBs X W (e :: es) (bCons f g) :=
  pa_weak (pa_cons ha hr hs) fun _ _ _ => bcons_core
def putBack : List (Option Nat) → List OD → Env' → Env'
  | some i :: bs, x :: xs, e => putBack bs xs (e.set i x)
  | none :: bs, _ :: xs, e => putBack bs xs e
  | _, _, e => e
theorem Ows.back {F H : Hp} {σ : L2.St} : ∀ {vs : List V} {ys : List BO} {xs : List OD} {e : Env'} {fa fp : Fp}, Backs σ vs ys → Ows K F H (vs.map some) xs fa → Ows K F H σ e fp → Dj fa fp → Ows K F H σ (putBack (ys.map (·.2)) xs e) (Un2 fa fp)
  | [], _, _, _, _, _, .nil, _, o, _ => o.weak fun _ => .inr
  | v :: vs, (y, none) :: ys, .h :: xs, e, fa, fp, .cons a b, .hole w, o, dj => Ows.back (ys := ys) b w o dj
  | v :: vs, (y, none) :: ys, x :: xs, e, fa, fp, .cons a b, .cons w t l1 l2 d, o, dj => (Ows.back (ys := ys) b t o fun q z => dj q (l2 q z)).weak fun q z => z.imp_left (l2 q)
  | v :: vs, (y, some i) :: ys, .h :: xs, e, fa, fp, .cons a b, .hole w, o, dj => Ows.back (ys := ys) b w (o.drop1 i) dj
  | v :: vs, (y, some i) :: ys, x :: xs, e, fa, fp, .cons a b, .cons (f1 := g1) (f2 := g2) w t l1 l2 d, o, dj => by
    have o1 := Ows.put w o (a i rfl) (fun q z => dj q (l1 q z))
    exact (Ows.back (ys := ys) b t o1 fun q z z2 => z2.elim (fun z2 => d q z2 z) (dj q (l2 q z))).weak fun q z => z.elim (fun z => .inl (l2 q z)) fun z => z.imp_left (l1 q)
def eFn (φ : Fn) (f : Env' → R (List BO)) : Env' → R OD := fun env => (f env).bind fun ys e => match φ (ys.map (·.1)) with
  | .st => .st
  | .ok d xs => .ok d (putBack (ys.map (·.2)) xs e)
  | .ex C x xs => .ex C x (putBack (ys.map (·.2)) xs e)
theorem fn_core {n : Nat} {φ : Fn} {f : Env' → R (List BO)} {σ : L2.St} {H : Hp} {Q : VK} {mg : Mg} (hn : ∀ env ys e, f env = .ok ys e → ys.length = n) : dTE K mg W (eFn φ f) σ H Q → tCallS (spD K mg n φ) (WE W) (dTBs K mg W f) σ H Q := fun ⟨F, env, fp, rs, o, h⟩ => by
  refine ⟨F, env, fp, rs, o, ?_⟩
  unfold eFn at h
  cases e : f env with
  | st => rw [e] at h; exact h.elim
  | ex C x e' => rw [e] at h; exact h
  | ok ys e1 =>
    rw [e, R.bind_ok] at h
    intro vs F1 H1 fv f1 s1 dj1 w1 bk o1
    have hl := ows_len w1
    rw [List.length_map] at hl
    refine ⟨hl.trans (hn _ _ _ e), F1, _, fv, ⟨s1.rs.sub, fun a q => s1.rs.own a (.inl q)⟩, w1, ?_⟩
    have own : ∀ a, f1 a → F1 a = none ∧ H1 a ≠ none := fun a q => s1.rs.own a (.inr q)
    have dj1' : Dj f1 fv := fun a z z2 => dj1 a z2 z
    cases q : φ (ys.map (·.1)) with
    | st => rw [q] at h; exact h.elim
    | ok d xs =>
      rw [q] at h
      intro v F2 H2 fd fa s2 dj2 wd wa
      have o2 := o1.step s2 dj1' fun a q => (own a q).2
      have d3 := s2.dj dj1' fun a q => (own a q).2
      have s3 : Stp F H fp F2 H2 (Un2 (Un2 fd fa) f1) := s1.tr ((s2.frame dj1' own))
      have ob := Ows.back bk wa o2 fun a z z2 => d3 a z2 (.inr z)
      exact h v F2 H2 fd _ (s3.less fun a z => z.elim (fun z => .inl (.inl z)) fun z => z.elim (fun z => .inl (.inr z)) .inr) (fun a z z2 => z2.elim (dj2 a z) fun z2 => d3 a z2 (.inl z)) wd ob
    | ex C x xs =>
      rw [q] at h
      intro F2 H2 fa s2 wa
      have o2 := o1.step s2 dj1' fun a q => (own a q).2
      have d3 := s2.dj dj1' fun a q => (own a q).2
      have s3 : Stp F H fp F2 H2 (Un2 fa f1) := s1.tr ((s2.frame dj1' own))
      have ob := Ows.back bk wa o2 fun a z z2 => d3 a z2 z
      exact h F2 H2 _ s3 ob
end
end DL

namespace DL
variable {K : PySem.W.Frag}
open PySem PySem.Spec PyProof.Rows L2
/-- a def of the text, by its name: its worth -/
structure Def (P : Program) (w : World) (K : PySem.W.Frag) (mg : Mg) (base : Heap) (x : Str) (n : Nat) (φ : Fn) (k : Nat) : Prop where
  ex : ∃ f fd ps, mg x = some (.ref f) ∧ FnOk P w K mg base (L2.CX P w) k f fd ps (spD K mg n φ) ∧ Binds K fd ps [] ∧ PySem.W.keepIn K (.ref f) = true
section
variable {X : Cx} {W : WX} {pos : Pos}
abbrev DefX (X : Cx) (x : Str) (n : Nat) (φ : Fn) (k : Nat) : Prop := Def X.prog X.w X.K X.mg X.base x n φ k
theorem bl_nil : ∀ env ys e, bNil env = .ok ys e → ys.length = 0 := fun env ys e h => by cases h; rfl
theorem bl_cons {f : Env' → R BO} {g : Env' → R (List BO)} {n : Nat} (h : ∀ env ys e, g env = .ok ys e → ys.length = n) : ∀ env ys e, bCons f g env = .ok ys e → ys.length = n + 1 := fun env ys e q => by
  unfold bCons at q
  cases a : f env with
  | st => rw [a] at q; cases q
  | ex => rw [a] at q; cases q
  | ok x e1 =>
    rw [a, R.bind_ok] at q
    cases b : g e1 with
    | st => rw [b] at q; cases q
    | ex => rw [b] at q; cases q
    | ok xs e2 => rw [b, R.bind_ok] at q; cases q; rw [List.length_cons, h _ _ _ b]
structure DBn (X : Cx) (W : WX) (es : List Expr) (n : Nat) (f : Env' → R (List BO)) : Prop where
  pa : DBs X W es f
  ln : ∀ env ys e, f env = .ok ys e → ys.length = n
theorem db_nil : DBn X W [] 0 bNil := ⟨dbs_nil, bl_nil⟩
theorem db_cons {e : Expr} {es : List Expr} {f g} {n : Nat} (ha : DB X W e f) (hr : DBn X W es n g) (hs : starEach (e :: es) X.env = (false, eval e X.env) :: starEach es X.env := by rfl) : DBn X W (e :: es) (n + 1) (bCons f g) := ⟨dbs_cons ha hr.pa hs, bl_cons hr.ln⟩
theorem de_call {x : Str} {n j k : Nat} {φ : Fn} {e : Expr} {es : List Expr} {fb} {p : Pos} (G : DefX X x n φ j) (hr : Room k X.A) (tk : Takes X W) (ha : DBn X W (e :: es) n fb) (hj : j ≤ k := by decide) (hg : Gl X x := by rfl) (hdb : (x == ("__debug__" : Str)) = false := by decide)
    (he : starEach (e :: es) X.env = (false, eval e X.env) :: starEach es X.env := by rfl) (hpl : (backTo pos (starEach es X.env)).any (·.1) = false := by rfl) : DE X W (.Call (.Name x p) (e :: es) [] pos) (eFn φ fb) := by
  obtain ⟨f, fd, ps, hm, F, hb, hk⟩ := G.ex
  exact pe_weak (pe_callS F (hr.mono hj) hg hm hk hb (fun σ => passAt tk σ) ha.pa hdb he hpl) fun _ _ _ => fn_core ha.ln
/-! ### what a loop walks -/
def JOk (F : Hp) (J : It) (ds : List PyData) : Prop := ∀ F1 H1, Inc F F1 → Inc F1 H1 → ∀ i : Nat, (i < ds.length → J.go i H1) ∧ (ds.length ≤ i → J.stop i H1) ∧ ∀ d, ds[i]? = some d → ∀ x H', J.yld i H1 x H' → ∃ F', Stp F1 H1 NoFp F' H' NoFp ∧ Dd F' x d
def PoI (K : PySem.W.Frag) (mg : Mg) (W : WX) (F H : Hp) (fp : Fp) (σ : L2.St) (Q : It → Hp → Prop) : R (List PyData) → Prop
  | .st => False
  | .ok ds env' => ∀ J F' H' fp', Stp F H fp F' H' fp' → JOk F' J ds → Ows K F' H' σ env' fp' → Q J H'
  | .ex C f env' => PoX K mg W F H fp σ C f env'
def dTI (K : PySem.W.Frag) (mg : Mg) (W : WX) (f : Env' → R (List PyData)) : TI := fun σ H Q => ∃ F env fp, RS F H fp ∧ Ows K F H σ env fp ∧ PoI K mg W F H fp σ Q (f env)
abbrev DI (X : Cx) (W : WX) (tg e : Expr) (f : Env' → R (List PyData)) : Prop := PI X tg e (dTI X.K X.mg W f)
theorem pi_weak {tg e : Expr} {t u : TI} (h : PI X tg e t) (w : ∀ σ H Q, u σ H Q → t σ H Q) : PI X tg e u := ⟨fun pins s σ H Q I q => h.run pins s σ H Q I (w σ H Q q)⟩
theorem PI.or {tg e : Expr} {t u : TI} (h : PI X tg e t) (h' : PI X tg e u) : PI X tg e (fun σ H Q => t σ H Q ∨ u σ H Q) := ⟨fun pins s σ H Q I q => q.elim (h.run pins s σ H Q I) (h'.run pins s σ H Q I)⟩
def itsF : OD → Option (List PyData)
  | .p (.list ds) => some ds
  | .p (.tuple ds) => some ds
  | .l xs => frzs xs
  | .t xs => frzs xs
  | _ => none
def iSeq (f : Env' → R OD) : Env' → R (List PyData) := fun env => (f env).bind fun d e => R.of (itsF d) e
theorem PoI.ex_ {mg : Mg} {F H : Hp} {fp : Fp} {σ} {Q} (C f e) (h : PoI K mg W F H fp σ Q (.ex C f e)) : PoX K mg W F H fp σ C f e := h
theorem jok_list {K : PySem.W.Frag} {F : Hp} {a : Addr} {vs : List V} {ds : List PyData} (h : F a = some (.lst vs)) (w : DdL F vs ds) : JOk F (Itl K a) ds := fun F1 H1 i1 i2 i => by
  have hH : SqL K H1 a vs := SqL.of (i2 _ _ (i1 _ _ h))
  refine ⟨fun hi => ?_, fun hi => ⟨vs, hH, by rw [w.len]; exact hi⟩, fun d hd x H' hy => ?_⟩
  · obtain ⟨d, hd⟩ : ∃ d, ds[i]? = some d := ⟨_, List.getElem?_eq_getElem hi⟩
    obtain ⟨v, hv, _⟩ := w.get hd
    exact ⟨vs, v, hH, hv⟩
  · obtain ⟨rfl, hx⟩ := hy
    obtain ⟨v, hv, q⟩ := w.get hd
    have := hx vs hH
    rw [hv] at this; cases this
    exact ⟨F1, Stp.rfl' ⟨i2, fun _ z => z.elim⟩, q.inc i1⟩
theorem jok_tup {K : PySem.W.Frag} {F : Hp} {a : Addr} {vs : List V} {ds : List PyData} (h : F a = some (.tup vs)) (w : DdL F vs ds) : JOk F (Itt K a) ds := fun F1 H1 i1 i2 i => by
  have hH : SqT K H1 a vs := SqT.of (i2 _ _ (i1 _ _ h))
  refine ⟨fun hi => ?_, fun hi => ⟨vs, hH, by rw [w.len]; exact hi⟩, fun d hd x H' hy => ?_⟩
  · obtain ⟨d, hd⟩ : ∃ d, ds[i]? = some d := ⟨_, List.getElem?_eq_getElem hi⟩
    obtain ⟨v, hv, _⟩ := w.get hd
    exact ⟨vs, v, hH, hv⟩
  · obtain ⟨rfl, hx⟩ := hy
    obtain ⟨v, hv, q⟩ := w.get hd
    have := hx vs hH
    rw [hv] at this; cases this
    exact ⟨F1, Stp.rfl' ⟨i2, fun _ z => z.elim⟩, q.inc i1⟩
/-- a value frozen: its items -/
theorem itsF_at {F H : Hp} {v d fv ds} {fp : Fp} (rs : RS F H (Un2 fv fp)) (dj : Dj fv fp) (w : Ow K F H v d fv) (e : itsF d = some ds) : ∃ F' a vs, Stp F H (Un2 fv fp) F' H fp ∧ v = .ref a ∧ ((F' a = some (.lst vs)) ∨ F' a = some (.tup vs)) ∧ DdL F' vs ds := by
  cases w with
  | h => cases e
  | sc => cases e
  | er => cases e
  | ob => cases e
  | fo => cases e
  | dc => cases e
  | p w =>
    cases w with
    | lst a b => cases e; exact ⟨F, _, _, (Stp.rfl' rs).less fun _ => .inr, rfl, .inl a, b⟩
    | tup a b => cases e; exact ⟨F, _, _, (Stp.rfl' rs).less fun _ => .inr, rfl, .inr a, b⟩
    | _ => cases e
  | l a b c d =>
    have st := Stp.freeze rs dj
    exact ⟨fz F H fv, _, _, st, rfl, .inl ((fz_in a).trans b), c.fz rs.sub (fun q z => (d q z).1) e⟩
  | t a b =>
    have st := Stp.freeze rs dj
    exact ⟨fz F H fv, _, _, st, rfl, .inr (fz_inc rs.sub _ _ a), b.fz rs.sub (fun q z => z) e⟩
theorem di_seq {tg e : Expr} {f} (h : DE X W e f) : DI X W tg e (iSeq f) := pi_weak (PI.or (pi_list h) (pi_tup h)) fun σ H Q ⟨F, env, fp, rs, o, h⟩ => by
  unfold iSeq at h
  cases e : f env with
  | st => rw [e] at h; exact h.elim
  | ex C x e' => exact .inl ⟨F, env, fp, rs, o, by rw [e] at h ⊢; exact h⟩
  | ok d e' =>
    rw [e, R.bind_ok] at h
    cases q : itsF d with
    | none => rw [q] at h; exact h.elim
    | some ds =>
      rw [q] at h
      have lst : (∀ F H v fv, Ow X.K F H v d fv → ∀ F' a vs, v = .ref a → F' a = some (.tup vs) → Inc F F' → Inc F' H → False) → iList X.K (dTE X.K X.mg W f) σ H Q := fun no => by
        refine ⟨F, env, fp, rs, o, ?_⟩
        rw [e]
        intro v F' H' fv fp' s dj w o'
        obtain ⟨F2, a, vs, s2, rfl, ha, wd⟩ := itsF_at s.rs dj w q
        have ha := ha.resolve_right fun z => no _ _ _ _ w F2 a vs rfl z s2.inc s2.rs.sub
        exact ⟨a, rfl, ⟨vs, SqL.of (s2.rs.sub _ _ ha)⟩, h _ F2 H' fp' (s.tr s2) (jok_list ha wd) (o'.mono s2.inc fun _ _ => rfl)⟩
      have tup : (∀ F H v fv, Ow X.K F H v d fv → ∀ F' a vs, v = .ref a → F' a = some (.lst vs) → Inc F F' → Inc F' H → False) → iTup X.K (dTE X.K X.mg W f) σ H Q := fun no => by
        refine ⟨F, env, fp, rs, o, ?_⟩
        rw [e]
        intro v F' H' fv fp' s dj w o'
        obtain ⟨F2, a, vs, s2, rfl, ha, wd⟩ := itsF_at s.rs dj w q
        have ha := ha.resolve_left fun z => no _ _ _ _ w F2 a vs rfl z s2.inc s2.rs.sub
        exact ⟨a, rfl, ⟨vs, SqT.of (s2.rs.sub _ _ ha)⟩, h _ F2 H' fp' (s.tr s2) (jok_tup ha wd) (o'.mono s2.inc fun _ _ => rfl)⟩
      cases d with
      | h => cases q
      | sc => cases q
      | er => cases q
      | ob => cases q
      | fo => cases q
      | dc => cases q
      | p d =>
        cases d with
        | list ds => exact .inl (lst fun F H v fv w F' a vs ev z i1 i2 => by
            cases w with | p w => cases w with | lst x y => cases ev; rw [i1 _ _ x] at z; cases z)
        | tuple ds => exact .inr (tup fun F H v fv w F' a vs ev z i1 i2 => by
            cases w with | p w => cases w with | tup x y => cases ev; rw [i1 _ _ x] at z; cases z)
        | _ => cases q
      | l xs => exact .inl (lst fun F H v fv w F' a vs ev z i1 i2 => by
            cases w with | l x y _ _ => cases ev; rw [i2 _ _ z] at y; cases y)
      | t xs => exact .inr (tup fun F H v fv w F' a vs ev z i1 i2 => by
            cases w with | t x y => cases ev; rw [i1 _ _ x] at z; cases z)
/-! range -/
def rngL (lo : Int) (n : Nat) : List PyData := (List.range n).map fun (i : Nat) => PyData.int (lo + (i : Int))
theorem rngL_len (lo n) : (rngL lo n).length = n := by unfold rngL; simp
theorem rngL_get {lo n} {i : Nat} {d} (h : (rngL lo n)[i]? = some d) : i < n ∧ d = .int (lo + i) := by
  unfold rngL at h
  rw [List.getElem?_map] at h
  by_cases hi : i < n
  · rw [List.getElem?_range hi] at h; cases h; exact ⟨hi, rfl⟩
  · rw [List.getElem?_eq_none (by simpa using hi)] at h; cases h
theorem jok_rng {F : Hp} {lo : Int} {n : Nat} : JOk F (Itr lo n) (rngL lo n) := fun F1 H1 i1 i2 i => by
  rw [rngL_len]
  refine ⟨fun h => h, fun h => h, fun d hd x H' hy => ?_⟩
  obtain ⟨rfl, rfl⟩ := hy
  obtain ⟨_, rfl⟩ := rngL_get hd
  exact ⟨F1, Stp.rfl' ⟨i2, fun _ z => z.elim⟩, .int _⟩
noncomputable def rng1 : List OD → Option (List PyData)
  | [.p (.int n)] => if RngOk n then some (rngL 0 n.toNat) else none
  | _ => none
noncomputable def rng2 : List OD → Option (List PyData)
  | [.p (.int m), .p (.int n)] => if RngOk m ∧ RngOk n then some (rngL m (n - m).toNat) else none
  | _ => none
def iArgs (g : List OD → Option (List PyData)) (f : Env' → R (List Opd)) : Env' → R (List PyData) := fun env => (f env).bind fun os e => match ats e os with
  | some xs => R.of (g xs) e
  | none => .st
theorem rng_core {f : Env' → R (List Opd)} {g : List OD → Option (List PyData)} {σ : L2.St} {H : Hp} {Q : It → Hp → Prop} {mg : Mg} (t : List V → Hp → (It → Hp → Prop) → Prop)
    (k : ∀ F H vs xs ds (Q : It → Hp → Prop), Inc F H → Paired (fun v x => ∃ fx : Fp, True ∧ Ow K F H v x fx) vs xs → g xs = some ds → (∀ J, JOk F J ds → Q J H) → t vs H Q) :
    dTI K mg W (iArgs g f) σ H Q → dTVs K mg W f σ H fun vs H1 => t vs H1 Q := fun ⟨F, env, fp, rs, o, h⟩ => by
  refine seqVs (Stp.rfl' rs) (fun _ q => q) o (fun h => h) PoI.ex_ h fun os e1 vs F1 H1 fv f1 s1 dj1 w1 o1 h1 => ?_
  cases ea : ats e1 os with
  | none => rw [ea] at h1; exact h1.elim
  | some xs =>
    rw [ea] at h1
    dsimp only at h1
    cases eg : g xs with
    | none => rw [eg] at h1; exact h1.elim
    | some ds =>
      rw [eg] at h1
      exact k F1 H1 vs xs ds Q s1.rs.sub (Paired.mono (Helds.looks o1 w1 ea) fun _ _ ⟨fx, _, w⟩ => ⟨fx, trivial, w⟩) eg fun J hJ => h1 J F1 H1 f1 (s1.less fun _ => .inr) hJ o1
theorem di_rng1 {tg a : Expr} {f} {p pos : Pos} (hg : Gl X "range") (hm : X.mg "range" = none) (ha : DVs X W [a] f) (hs : starEach [a] X.env = [(false, eval a X.env)] := by rfl) : DI X W tg (.Call (.Name "range" p) [a] [] pos) (iArgs rng1 f) :=
  pi_weak (pi_range1 hg hm ha hs) fun σ H Q h => rng_core (fun vs H1 Q => ∃ j : Int, vs = [.int j] ∧ -(2 ^ 62) ≤ j ∧ j < 2 ^ 62 ∧ Q (Itr 0 j.toNat) H1) (fun F H vs xs ds Q i pr e k => by
    unfold rng1 at e
    split at e
    · split at e
      · rename_i q
        cases e
        cases pr with
        | cons a b =>
          cases b
          obtain ⟨_, _, w⟩ := a
          exact ⟨_, by rw [Ow.int w], And.left q, And.right q, k _ jok_rng⟩
      · cases e
    · cases e) h
theorem di_rng2 {tg a b : Expr} {f} {p pos : Pos} (hg : Gl X "range") (hm : X.mg "range" = none) (ha : DVs X W [a, b] f) (hs : starEach [a, b] X.env = [(false, eval a X.env), (false, eval b X.env)] := by rfl) (hs2 : starEach [b] X.env = [(false, eval b X.env)] := by rfl) :
    DI X W tg (.Call (.Name "range" p) [a, b] [] pos) (iArgs rng2 f) :=
  pi_weak (pi_range2 hg hm ha hs hs2) fun σ H Q h => rng_core (fun vs H1 Q => ∃ i j : Int, vs = [.int i, .int j] ∧ (-(2 ^ 62) ≤ i ∧ i < 2 ^ 62 ∧ -(2 ^ 62) ≤ j ∧ j < 2 ^ 62) ∧ Q (Itr i (j - i).toNat) H1) (fun F H vs xs ds Q i pr e k => by
    unfold rng2 at e
    split at e
    · split at e
      · rename_i q
        cases e
        cases pr with
        | cons a b =>
          cases b with
          | cons b c =>
            cases c
            obtain ⟨_, _, w⟩ := a
            obtain ⟨_, _, w2⟩ := b
            exact ⟨_, _, by rw [Ow.int w, Ow.int w2], ⟨And.left q.1, And.right q.1, And.left q.2, And.right q.2⟩, k _ jok_rng⟩
      · cases e
    · cases e) h
/-! enumerate -/
def enumL : Nat → List PyData → List PyData
  | _, [] => []
  | i, d :: ds => .tuple [.int (i : Int), d] :: enumL (i + 1) ds
theorem enumL_len : ∀ (ds : List PyData) (i : Nat), (enumL i ds).length = ds.length
  | [], _ => rfl
  | _ :: ds, i => by unfold enumL; rw [List.length_cons, enumL_len ds, List.length_cons]
theorem enumL_get : ∀ (ds : List PyData) (k i : Nat) {d}, (enumL k ds)[i]? = some d → ∃ e, ds[i]? = some e ∧ d = .tuple [.int ((k + i : Nat) : Int), e]
  | [], _, _, _, h => by simp [enumL] at h
  | e :: ds, k, 0, d, h => by simp [enumL] at h; exact ⟨e, rfl, by rw [← h]; rfl⟩
  | e :: ds, k, i + 1, d, h => by
    obtain ⟨x, h1, h2⟩ := enumL_get ds (k + 1) i (by simpa [enumL] using h)
    refine ⟨x, by simpa using h1, ?_⟩
    rw [h2, show k + 1 + i = k + (i + 1) by omega]
theorem jok_enum {K : PySem.W.Frag} {F : Hp} {a : Addr} {vs : List V} {ds : List PyData} (h : F a = some (.lst vs)) (w : DdL F vs ds) : JOk F (Ite K a) (enumL 0 ds) := fun F1 H1 i1 i2 i => by
  have hH : SqL K H1 a vs := SqL.of (i2 _ _ (i1 _ _ h))
  rw [enumL_len]
  refine ⟨fun hi => ?_, fun hi => ⟨vs, hH, by rw [w.len]; exact hi⟩, fun d hd x H' hy => ?_⟩
  · obtain ⟨d, hd⟩ : ∃ d, ds[i]? = some d := ⟨_, List.getElem?_eq_getElem hi⟩
    obtain ⟨v, hv, _⟩ := w.get hd
    exact ⟨vs, v, hH, hv⟩
  · obtain ⟨e, he, rfl⟩ := enumL_get ds 0 i hd
    obtain ⟨T, y, rfl, hT, rfl, hx⟩ := hy
    obtain ⟨v, hv, q⟩ := w.get he
    have ev : v = y := Option.some.inj (hv.symm.trans (hx vs hH))
    subst ev
    have st := Stp.newPure (o := .tup [.int (i : Nat), v]) (fp := NoFp) ⟨i2, fun _ z => z.elim⟩ hT
    rw [Nat.zero_add]
    exact ⟨_, st, .tup upd_same (.cons (.int _) (.cons ((q.inc i1).inc st.inc) .nil))⟩
def lstOf : List OD → Option (List PyData)
  | [.p (.list ds)] => some ds
  | [.l xs] => frzs xs
  | _ => none
def iEnu (f : Env' → R (List OD)) : Env' → R (List PyData) := fun env => (f env).bind fun os e => R.of ((lstOf os).map (enumL 0)) e
theorem lst_at {F H : Hp} {v d fv ds} {fp : Fp} (rs : RS F H (Un2 fv fp)) (dj : Dj fv fp) (w : Ow K F H v d fv) (e : lstOf [d] = some ds) : ∃ F' a vs, Stp F H (Un2 fv fp) F' H fp ∧ v = .ref a ∧ F' a = some (.lst vs) ∧ DdL F' vs ds := by
  cases w with
  | h => cases e
  | sc => cases e
  | er => cases e
  | ob => cases e
  | fo => cases e
  | dc => cases e
  | t => cases e
  | p w =>
    cases w with
    | lst a b => cases e; exact ⟨F, _, _, (Stp.rfl' rs).less fun _ => .inr, rfl, a, b⟩
    | _ => cases e
  | l a b c d =>
    have st := Stp.freeze rs dj
    exact ⟨fz F H fv, _, _, st, rfl, (fz_in a).trans b, c.fz rs.sub (fun q z => (d q z).1) e⟩
theorem di_enum {elts : List Expr} {kk : Nat} {a : Expr} {f} {p pos tpos : Pos} (hg : Gl X "enumerate") (hm : X.mg "enumerate" = none) (ha : DA X W [a] f) (hs : starEach [a] X.env = [(false, eval a X.env)] := by rfl) :
    DI X W (.Tuple elts kk tpos) (.Call (.Name "enumerate" p) [a] [] pos) (iEnu f) := pi_weak (pi_enum hg hm ha hs) fun σ H Q ⟨F, env, fp, rs, o, h⟩ => by
  refine seqA (Stp.rfl' rs) (fun _ q => q) o (fun h => h) PoI.ex_ h fun os e1 vs F1 H1 fv f1 s1 dj1 w1 o1 h1 => ?_
  cases q : lstOf os with
  | none => rw [q] at h1; exact h1.elim
  | some ds =>
    rw [q] at h1
    have hl := ows_len w1
    obtain ⟨d, rfl⟩ : ∃ d, os = [d] := by
      unfold lstOf at q
      split at q
      · exact ⟨_, rfl⟩
      · exact ⟨_, rfl⟩
      · cases q
    match vs, hl, w1 with
    | [v], _, w1 =>
      have one : ∃ f2, Ow X.K F1 H1 v d f2 ∧ ∀ a, f2 a → fv a := by
        cases w1 with
        | hole => exact ⟨NoFp, .h, fun _ z => z.elim⟩
        | cons a b c d e => exact ⟨_, a, c⟩
      obtain ⟨f2, w2, l2⟩ := one
      have rs2 : RS F1 H1 (Un2 f2 f1) := ⟨s1.rs.sub, fun a z => s1.rs.own a (z.imp_left (l2 a))⟩
      obtain ⟨F2, a, us, s2, rfl, ha, wd⟩ := lst_at rs2 (fun a z => dj1 a (l2 a z)) w2 q
      have s2' : Stp F1 H1 (Un2 fv f1) F2 H1 f1 := s2.from fun a z => z.imp_left (l2 a)
      exact ⟨a, us, rfl, SqL.of (s2.rs.sub _ _ ha), h1 _ F2 H1 f1 (s1.tr s2') (jok_enum ha wd) (o1.mono s2.inc fun _ _ => rfl)⟩
/-! ### for -/
def forGo (g : Tg) (f : Env' → Out) : List PyData → Env' → Out
  | [], e => .nx e
  | d :: ds, e => match g (.p d) e with
    | none => .st
    | some e1 => (f e1).seq (forGo g f ds)
def sFor (it : Env' → R (List PyData)) (g : Tg) (f : Env' → Out) : Env' → Out := fun env => (it env).out fun ds e => forGo g f ds e
end
section
variable {X : Cx} {W : WX} {B : List Nat} {pos : Pos}
theorem for_core {mg : Mg} {it g f} {D : Ends} {σ : L2.St} {H : Hp} : dTS K mg W B (sFor it g f) D σ H → tFor (dTI K mg W it) (dTG K B g) (dTS K mg W B f) D σ H := fun ⟨F, env, fp, rs, o, h⟩ => by
  refine ⟨F, env, fp, rs, o, ?_⟩
  unfold sFor at h
  cases e : it env with
  | st => rw [e] at h; exact h.elim
  | ex C x e' => rw [e] at h; exact h.ex_
  | ok ds e0 =>
    rw [e, R.out_ok] at h
    intro J F0 H0 f0 s0 hJ o0
    have h := h.step s0 (fun _ z => z) (Bk.id' (B := B))
    refine ⟨fun i m σ1 H1 => m = ds.length - i ∧ ∃ F1 e1 f1, RS F1 H1 f1 ∧ Inc F0 F1 ∧ Ows K F1 H1 σ1 e1 f1 ∧ PoS K mg W B F1 H1 f1 σ1 D (forGo g f (ds.drop i) e1), ⟨_, rfl, F0, e0, f0, s0.rs, Inc.rfl', o0, h⟩, fun i m σ1 H1 ⟨hm, F1, e1, f1, r1, in1, o1, h1⟩ => ?_⟩
    obtain ⟨jg, js, jy⟩ := hJ F1 H1 in1 r1.sub i
    by_cases hi : i < ds.length
    · refine .inr ⟨jg hi, ?_⟩
      have ed : ds.drop i = ds[i] :: ds.drop (i + 1) := List.drop_eq_getElem_cons hi
      rw [ed] at h1
      unfold forGo at h1
      cases q : g (.p ds[i]) e1 with
      | none => rw [q] at h1; exact h1.elim
      | some e2 =>
        rw [q] at h1
        dsimp only at h1
        refine ⟨fun σ2 H2 => ∃ F2 e2 f2, RS F2 H2 f2 ∧ Inc F0 F2 ∧ Ows K F2 H2 σ2 e2 f2 ∧ PoS K mg W B F2 H2 f2 σ2 D (forGo g f (ds.drop (i + 1)) e2), fun σ2 H2 h2 => ⟨ds.length - (i + 1), by omega, rfl, h2⟩, fun x H' hy => ?_⟩
        obtain ⟨F2, s2, wx⟩ := jy ds[i] (List.getElem?_eq_getElem hi) x H' hy
        have own : ∀ a, f1 a → F1 a = none ∧ H1 a ≠ none := r1.own
        have s3 := (s2.frame (g := f1) dj0' own)
        have s3' : Stp F1 H1 f1 F2 H' f1 := (s3.from fun a z => z.elim False.elim id).less fun a z => .inr z
        have o2 := o1.step s2 dj0' fun a q => (own a q).2
        refine ⟨F2, e1, NoFp, f1, .p ds[i], e2, ⟨s3.rs.sub, fun a z => z.elim False.elim (s3'.rs.own a)⟩, dj0, .p wx, o2, q, fun σ2 f3 l3 o3 b3 => ?_⟩
        have l3' : ∀ a, f3 a → f1 a := fun a z => (l3 a z).elim False.elim id
        have h2 := h1.step s3' l3' b3
        refine ⟨F2, e2, f3, ⟨s3'.rs.sub, fun a z => s3'.rs.own a (l3' a z)⟩, o3, ?_⟩
        -- the turn, then the rest
        cases q2 : f e2 with
        | st => rw [q2] at h2; exact h2.elim
        | nx e4 =>
          rw [q2] at h2
          exact fun σ4 F4 H4 f4 s4 o4 b4 => ⟨F4, e4, f4, s4.rs, (in1.tr s2.inc).tr s4.inc, o4, h2.step s4 (fun _ z => z) b4⟩
        | rt d e4 => rw [q2] at h2; exact h2
        | ex C y e4 => rw [q2] at h2; exact h2
    · refine .inl ⟨js (by omega), ?_⟩
      rw [List.drop_eq_nil_of_le (by omega)] at h1
      exact h1 σ1 F1 H1 f1 (Stp.rfl' r1) o1 Bk.id'
theorem ds_for {tg iter : Expr} {body : List Stmt} {it g f} (hp : PassesOwn (model X.prog X.w) X.A X.env X.xe) (hc : X.calm = true) (hi : DI X W tg iter it) (hg : DG X B tg g) (hb : DSs X W B body f) (hs : ∀ x, foldedSetIterable iter X.env x = pure x := by intro _; rfl) :
    DS X W B (.For tg iter body [] pos) (sFor it g f) := ps_weak (ps_for hp hc hi hg hb hs) fun _ _ _ => for_core
end
end DL

namespace DL
variable {K : PySem.W.Frag}
open PySem PySem.Spec PyProof.Rows L2
/-! ### list comprehensions -/
def lcGo (js : List Nat) (g : Tg) (t : Env' → R Bool) (f : Env' → R OD) : List PyData → Env' → Option (List OD × Env')
  | [], e => some ([], e)
  | d :: ds, e => match g (.p d) e with
    | none => none
    | some e1 => match t e1 with
      | .ok true e2 => match f e2 with
        | .ok x e3 => (lcGo js g t f ds (clr js e3)).map fun p => (x :: p.1, p.2)
        | _ => none
      | .ok false e2 => lcGo js g t f ds (clr js e2)
      | _ => none
def hol (js : List Nat) (e : Env') : Bool := js.all fun j => match e[j]? with
  | some .h => true
  | none => true
  | _ => false
def lcOut : Option (List OD × Env') → R OD
  | some (xs, e) => .ok (.l xs) e
  | none => .st
def eLc (js : List Nat) (it : Env' → R (List PyData)) (g : Tg) (t : Env' → R Bool) (f : Env' → R OD) : Env' → R OD := fun env => (it env).bind fun ds e => if hol js e = true ∧ ds.length ≤ 40000 then lcOut (lcGo js g t f ds e) else .st
def Hol (js : List Nat) (e : Env') : Prop := ∀ j ∈ js, e[j]? = some OD.h ∨ e[j]? = none
theorem hol_Hol {js e} (h : hol js e = true) : Hol js e := fun j hj => by
  have := List.all_eq_true.mp h j hj
  cases q : e[j]? with
  | none => exact .inr rfl
  | some x =>
    rw [q] at this
    cases x with
    | h => exact .inl rfl
    | _ => cases this
theorem clr_get : ∀ (js : List Nat) (e : Env') (i : Nat), e[i]? = some OD.h ∨ e[i]? = none → (clr js e)[i]? = some OD.h ∨ (clr js e)[i]? = none
  | [], _, _, h => h
  | j :: js, e, i, h => clr_get js _ i (by
      by_cases q : j = i
      · subst q
        by_cases hl : j < e.length
        · exact .inl (List.getElem?_set_self hl)
        · exact .inr (List.getElem?_eq_none (by simpa using hl))
      · rw [List.getElem?_set_ne q]; exact h)
theorem clr_Hol : ∀ (js : List Nat) (e : Env'), Hol js (clr js e)
  | [], _ => fun _ h => nomatch h
  | j :: js, e => fun i hi => by
    rcases List.mem_cons.mp hi with rfl | hi
    · refine clr_get js _ i ?_
      by_cases hl : i < e.length
      · exact .inl (List.getElem?_set_self hl)
      · exact .inr (List.getElem?_eq_none (by simpa using hl))
    · exact clr_Hol js _ i hi
theorem wipe_in {σ : L2.St} : ∀ {vs : List Nat} {i : Nat}, i ∈ vs → i < σ.length → (wipe σ vs)[i]? = some none
  | v :: vs, i, h, hl => by
    unfold wipe
    by_cases q : v = i
    · subst q; exact List.getElem?_set_self (by rw [wipe_length]; exact hl)
    · rw [List.getElem?_set_ne q]
      exact wipe_in ((List.mem_cons.mp h).resolve_left fun z => q z.symm) hl
def cpl (n : Nat) (js : List Nat) : List Nat := (List.range n).filter fun i => !js.contains i
theorem wipe_eq {σ σ2 : L2.St} {js : List Nat} {n : Nat} (hn : σ.length ≤ n) (b : Bk (cpl n js) (wipe σ js) σ2) : wipe σ2 js = wipe σ js := by
  have l2 : σ2.length = σ.length := b.1.trans (wipe_length σ js)
  apply List.ext_getElem?
  intro i
  by_cases hi : i < σ.length
  · by_cases hj : i ∈ js
    · rw [wipe_in hj (by omega), wipe_in hj hi]
    · rw [wipe_out hj]
      exact b.2 i (List.mem_filter.mpr ⟨List.mem_range.mpr (by omega), by simp [hj]⟩)
  · rw [List.getElem?_eq_none (by rw [wipe_length]; omega), List.getElem?_eq_none (by rw [wipe_length]; omega)]
abbrev W0 : WX := fun _ _ _ _ => False
section
variable {X : Cx} {W : WX} {pos : Pos}
abbrev DTs (X : Cx) (W : WX) (e : List Expr) (f : Env' → R Bool) : Prop := PTs X e (dTT X.K X.mg W f)
def tYs : Env' → R Bool := fun env => .ok true env
theorem dts_nil : DTs X W [] tYs := ⟨fun pins s σ H Q I ⟨F, env, fp, rs, o, h⟩ => pts_nil.run pins s σ H Q I (h F H fp (Stp.rfl' rs) o)⟩
theorem dts_one {c : Expr} {t} (h : DT X W c t) : DTs X W [c] t := pts_one h
theorem lc_core' {mg : Mg} {n : Nat} {js : List Nat} {it g t f} {σ : L2.St} {H : Hp} {Q : VK} (hn : σ.length ≤ n) : dTE K mg W (eLc js it g t f) σ H Q → tLc (dTI K mg W it) (dTG K (cpl n js) g) (dTT K mg W0 t) (dTE K mg W0 f) js σ H Q := fun ⟨F, env, fp, rs, o, h⟩ => by
  refine ⟨F, env, fp, rs, o, ?_⟩
  unfold eLc at h
  cases e : it env with
  | st => rw [e] at h; exact h.elim
  | ex C x e' => rw [e] at h; exact h
  | ok ds e0 =>
    rw [e, R.bind_ok] at h
    split at h
    case isFalse => exact h.elim
    rename_i hh
    cases el : lcGo js g t f ds e0 with
    | none => rw [el] at h; exact h.elim
    | some p =>
    obtain ⟨xsF, eF⟩ := p
    rw [el] at h
    have h : PoE K mg W F H fp σ Q (.ok (.l xsF) eF) := h
    intro J F0 H0 f0 s0 hJ o0 D hD
    have st0 := Stp.newOwn (o := .lst []) s0.rs hD
    have ow0 : Ows K F0 (upd H0 D (.lst [])) (wipe σ js) e0 f0 := by
      have o1 := o0.mono st0.inc (H' := upd H0 D (.lst [])) fun a q => upd_ne fun z => (s0.rs.own a q).2 (z ▸ hD)
      refine o1.only (by rw [wipe_length]; exact o0.len) fun i => ?_
      by_cases hj : i ∈ js
      · exact (hol_Hol hh.1 i hj).imp_right .inl
      · exact .inr (.inr ⟨rfl, wipe_out hj⟩)
    refine ⟨fun i m H1 => m = ds.length - i ∧ i ≤ ds.length ∧ ∃ F1 e1 f1 fa xs vs rest, Stp F H fp F1 H1 (Un2 (Un2 (fun b => b = D) fa) f1) ∧ ¬ fa D ∧ ¬ f1 D ∧ Dj fa f1 ∧ H1 D = some (.lst vs) ∧ Ows K F1 H1 (vs.map some) xs fa ∧ Ows K F1 H1 (wipe σ js) e1 f1 ∧ Hol js e1 ∧ Inc F0 F1 ∧ xs.length ≤ i ∧
      lcGo js g t f (ds.drop i) e1 = some (rest, eF) ∧ xsF = xs ++ rest, ⟨_, rfl, Nat.zero_le _, F0, e0, f0, NoFp, [], [], xsF, (s0.tr st0).less fun a q => q.elim (fun q => q.elim .inl False.elim) .inr, id, fun z => (s0.rs.own D z).2 hD, dj0, upd_same, .nil, ow0, hol_Hol hh.1, Inc.rfl', Nat.le_refl _, el, rfl⟩, ?_⟩
    rintro i m H1 ⟨hm, hle, F1, e1, f1, fa, xs, vs, rest, s1, na, nf, daf, hl, oa, o1, hol1, in1, hxl, eg, ex⟩
    have own1 : ∀ a, Un2 (Un2 (fun b => b = D) fa) f1 a → F1 a = none ∧ H1 a ≠ none := s1.rs.own
    obtain ⟨jg, jstop, jy⟩ := hJ F1 H1 in1 s1.rs.sub i
    by_cases hi : i < ds.length
    · refine .inr ⟨jg hi, ?_⟩
      have ed : ds.drop i = ds[i] :: ds.drop (i + 1) := List.drop_eq_getElem_cons hi
      rw [ed] at eg
      unfold lcGo at eg
      cases q : g (.p ds[i]) e1 with
      | none => rw [q] at eg; cases eg
      | some e2 =>
      rw [q] at eg
      dsimp only at eg
      refine ⟨fun H2 => ∃ F1 e1 f1 fa xs vs rest, Stp F H fp F1 H2 (Un2 (Un2 (fun b => b = D) fa) f1) ∧ ¬ fa D ∧ ¬ f1 D ∧ Dj fa f1 ∧ H2 D = some (.lst vs) ∧ Ows K F1 H2 (List.map some vs) xs fa ∧ Ows K F1 H2 (wipe σ js) e1 f1 ∧ Hol js e1 ∧ Inc F0 F1 ∧ xs.length ≤ i + 1 ∧
        lcGo js g t f (ds.drop (i + 1)) e1 = some (rest, eF) ∧ xsF = xs ++ rest, fun H2 h2 => ⟨ds.length - (i + 1), by omega, rfl, hi, h2⟩, fun x H' hy => ?_⟩
      obtain ⟨F2, s2, wx⟩ := jy ds[i] (List.getElem?_eq_getElem hi) x H' hy
      have s3 := (s2.frame (g := Un2 (Un2 (fun b => b = D) fa) f1) dj0' own1)
      have s4 : Stp F H fp F2 H' (Un2 (Un2 (fun b => b = D) fa) f1) := s1.tr ((s3.from fun a z => z.elim False.elim id).less fun a z => .inr z)
      have keep2 : ∀ a, Un2 (Un2 (fun b => b = D) fa) f1 a → H' a = H1 a := fun a z => (s2.keep a id (own1 a z).2).1
      have o2 := o1.mono s2.inc fun a z => keep2 a (.inr z)
      have oa2 := oa.mono s2.inc fun a z => keep2 a (.inl (.inr z))
      have hl2 := (keep2 D (.inl (.inl rfl))).trans hl
      refine ⟨F2, e1, NoFp, f1, .p ds[i], e2, ⟨s4.rs.sub, fun a z => z.elim False.elim fun z => s4.rs.own a (.inr z)⟩, dj0, .p wx, o2, q, fun σ2 f3 l3 o3 b3 => ⟨wipe_eq hn b3, ?_⟩⟩
      have l3' : ∀ a, f3 a → f1 a := fun a z => (l3 a z).elim False.elim id
      have back : ∀ {F5 H5 e5 f5}, Ows K F5 H5 σ2 e5 f5 → Ows K F5 H5 (wipe σ js) (clr js e5) f5 := fun {F5 H5 e5 f5} o5 => by
        refine (o5.clr (js := js)).only (by rw [← wipe_eq hn b3, wipe_length]; exact (o5.clr (js := js)).len) fun i => ?_
        by_cases hj : i ∈ js
        · exact (clr_Hol js e5 i hj).imp_right .inl
        · refine .inr (.inr ⟨rfl, ?_⟩)
          rw [← wipe_eq hn b3, wipe_out hj]
      have own2 : ∀ a, Un2 (fun b => b = D) fa a → F2 a = none ∧ H' a ≠ none := fun a z => s4.rs.own a (.inl z)
      have djf : Dj (Un2 (fun b => b = D) fa) f3 := fun a z z2 => z.elim (fun z => nf (z ▸ l3' a z2)) fun z => daf a z (l3' a z2)
      cases qt : t e2 with
      | st => rw [qt] at eg; cases eg
      | ex C y e3 => rw [qt] at eg; cases eg
      | ok b e3 =>
      refine ⟨F2, e2, f3, ⟨s4.rs.sub, fun a z => s4.rs.own a (.inr (l3' a z))⟩, o3, ?_⟩
      rw [qt] at eg ⊢
      intro F5 H5 f5 s5 o5
      have s5f := s5.frame djf own2
      have s6 : Stp F H fp F5 H5 (Un2 (Un2 (fun b => b = D) fa) f5) := s4.tr ((s5f.from fun a z => z.elim (fun z => .inr (l3' a z)) .inl).less fun a z => z.elim .inr .inl)
      have keep5 : ∀ a, Un2 (fun b => b = D) fa a → H5 a = H' a := fun a z => (s5.keep a (djf a z) (own2 a z).2).1
      have oa5 := oa2.mono s5.inc fun a z => keep5 a (.inr z)
      have hl5 := (keep5 D (.inl rfl)).trans hl2
      have nD5 : ¬ f5 D := fun z => s5.dj djf (fun a z => (own2 a z).2) D (.inl rfl) z
      have daf5 : Dj fa f5 := fun a z => s5.dj djf (fun a z => (own2 a z).2) a (.inr z)
      cases b with
      | false =>
        rw [if_neg Bool.false_ne_true]
        exact ⟨F5, clr js e3, f5, fa, xs, vs, rest, s6, na, nD5, daf5, hl5, oa5, back o5, clr_Hol js e3, (in1.tr s2.inc).tr s5.inc, by omega, eg, ex⟩
      | true =>
        rw [if_pos rfl]
        dsimp only at eg
        cases qf : f e3 with
        | st => rw [qf] at eg; cases eg
        | ex C y e4 => rw [qf] at eg; cases eg
        | ok x e4 =>
        rw [qf] at eg
        dsimp only at eg
        cases qr : lcGo js g t f (ds.drop (i + 1)) (clr js e4) with
        | none => rw [qr] at eg; cases eg
        | some pr =>
        rw [qr] at eg
        have eg : some (x :: pr.1, pr.2) = some (rest, eF) := eg
        have er : rest = x :: pr.1 := (congrArg Prod.fst (Option.some.inj eg)).symm
        have ef : pr.2 = eF := congrArg Prod.snd (Option.some.inj eg)
        refine ⟨F5, e3, f5, ⟨s6.rs.sub, fun a z => s6.rs.own a (.inr z)⟩, o5, ?_⟩
        rw [qf]
        intro y F7 H7 fy f7 s7 dj7 w7 o7
        have own5 : ∀ a, Un2 (fun b => b = D) fa a → F5 a = none ∧ H5 a ≠ none := fun a z => s6.rs.own a (.inl z)
        have dj5 : Dj (Un2 (fun b => b = D) fa) f5 := fun a z => z.elim (fun z => z ▸ nD5) fun z => daf5 a z
        have s7f := s7.frame dj5 own5
        have s8 : Stp F H fp F7 H7 (Un2 (Un2 fy f7) (Un2 (fun b => b = D) fa)) := s6.tr (s7f.from fun a z => z.elim .inr .inl)
        have keep7 : ∀ a, Un2 (fun b => b = D) fa a → H7 a = H5 a := fun a z => (s7.keep a (dj5 a z) (own5 a z).2).1
        have oa7 := oa5.mono s7.inc fun a z => keep7 a (.inr z)
        have hl7 := (keep7 D (.inl rfl)).trans hl5
        have d7 := s7.dj dj5 fun a z => (own5 a z).2
        have nDy : ¬ fy D := fun z => d7 D (.inl rfl) (.inl z)
        have nD7 : ¬ f7 D := fun z => d7 D (.inl rfl) (.inr z)
        have lv : vs.length = xs.length := ows_len oa
        refine ⟨vs, hl7, szlt (by omega), ?_⟩
        have stp := Stp.put (o := .lst (vs ++ [y])) s8.rs (a := D) (.inr (.inl rfl))
        have oA := Ows.app (Ows.one w7) oa7 (fun a z z2 => d7 a (.inr z2) (.inl z))
        rw [show List.map some vs ++ [some y] = List.map some (vs ++ [y]) by simp] at oA
        have oA' := oA.mono stp.inc (H' := upd H7 D (.lst (vs ++ [y]))) fun a z => upd_ne fun e => z.elim (fun z => na (e ▸ z)) fun z => nDy (e ▸ z)
        have o7' := o7.mono stp.inc (H' := upd H7 D (.lst (vs ++ [y]))) fun a z => upd_ne fun e => nD7 (e ▸ z)
        refine ⟨F7, clr js e4, f7, Un2 fa fy, xs ++ [x], vs ++ [y], pr.1, (s8.tr stp).less fun a z => ?_, fun z => z.elim na nDy, nD7, fun a z => z.elim (fun z z2 => d7 a (.inr z) (.inr z2)) (dj7 a), upd_same, oA', back o7', clr_Hol js e4, ((in1.tr s2.inc).tr s5.inc).tr s7.inc, by simp; omega, by rw [qr, ← ef], by rw [ex, er]; simp⟩
        rcases z with (z | z | z) | z
        · exact .inr (.inl z)
        · exact .inr (.inr z)
        · exact .inl (.inl z)
        · exact .inl (.inr z)
    · refine .inl ⟨jstop (by omega), ?_⟩
      rw [List.drop_eq_nil_of_le (by omega)] at eg
      have eg : some ([], e1) = some (rest, eF) := eg
      have er : rest = [] := (congrArg Prod.fst (Option.some.inj eg)).symm
      have ef : e1 = eF := congrArg Prod.snd (Option.some.inj eg)
      subst er ef
      rw [List.append_nil] at ex
      subst ex
      refine h (.ref D) F1 H1 (Un2 (fun b => b = D) fa) f1 s1 (fun a z z2 => z.elim (fun z => nf (z ▸ z2)) fun z => daf a z z2) (.l (.inl rfl) hl oa fun b z => ⟨.inr z, fun e => na (e ▸ z)⟩) (o1.only (by rw [← wipe_length σ js]; exact o1.len) fun i => ?_)
      by_cases hj : i ∈ js
      · exact (hol1 i hj).imp_right .inl
      · exact .inr (.inr ⟨rfl, (wipe_out hj).symm⟩)
theorem pe_weakI {e : Expr} {t u : TE} (h : PE X e t) (w : ∀ σ H Q, σ.length = X.N.length → u σ H Q → t σ H Q) : PE X e u := ⟨fun pins s σ H Q I q => h.run pins s σ H Q I (w σ H Q I.len q)⟩
theorem ps_weakI {e : Stmt} {t u : TS} (h : PS X e t) (w : ∀ D σ H, σ.length = X.N.length → u D σ H → t D σ H) : PS X e u := ⟨fun pins s σ H D I q => h.run pins s σ H D I (w D σ H I.len q)⟩
theorem de_lc {elt tg iter : Expr} {ifs : List Expr} {scope : Scope} {it g t f} (n : Nat) (own : List (Str × Nat)) (hc : X.calm = true) (hN : X.N.Nodup) (ok : BlkOk X.N X.env.scope scope own) (hi : DI X W tg iter it)
    (hg : ∀ (s : Shared) (H : Hp) (C : Addr) (cl : List (Str × Addr)) (fp : List Addr), DG (X.blk s H scope (compEnvC scope cl C X.env) fp) (cpl n (own.map (·.2))) tg g)
    (ht : ∀ (s : Shared) (H : Hp) (C : Addr) (cl : List (Str × Addr)) (fp : List Addr), DTs (X.blk s H scope (compEnvC scope cl C X.env) fp) W0 ifs t)
    (he : ∀ (s : Shared) (H : Hp) (C : Addr) (cl : List (Str × Addr)) (fp : List Addr), DE (X.blk s H scope (compEnvC scope cl C X.env) fp) W0 elt f)
    (hn : X.N.length = n := by rfl) (hs : ∀ x, foldedSetIterable iter X.env x = pure x := by intro _; rfl) : DE X W (.ListComp elt [⟨tg, iter, ifs, 0⟩] scope pos) (eLc (own.map (·.2)) it g t f) :=
  pe_weakI (pe_lc hc hN hi ok hg ht he hs) fun σ H Q hl => lc_core' (by omega)
theorem ds_setLc {elt tg iter : Expr} {ifs : List Expr} {scope : Scope} {it g t f} {B : List Nat} (i : Nat) {y : Str} {py spos : Pos} (n : Nat) (own : List (Str × Nat)) (hc : X.calm = true) (hN : X.N.Nodup) (ok : BlkOk X.N X.env.scope scope own) (hi : DI X W tg iter it)
    (hg : ∀ (s : Shared) (H : Hp) (C : Addr) (cl : List (Str × Addr)) (fp : List Addr), DG (X.blk s H scope (compEnvC scope cl C X.env) fp) (cpl n (own.map (·.2))) tg g)
    (ht : ∀ (s : Shared) (H : Hp) (C : Addr) (cl : List (Str × Addr)) (fp : List Addr), DTs (X.blk s H scope (compEnvC scope cl C X.env) fp) W0 ifs t)
    (he : ∀ (s : Shared) (H : Hp) (C : Addr) (cl : List (Str × Addr)) (fp : List Addr), DE (X.blk s H scope (compEnvC scope cl C X.env) fp) W0 elt f)
    (hsw : swapsWith (.ListComp elt [⟨tg, iter, ifs, 0⟩] scope pos) (some (.Name y py)) spos.line X.env = pure true) (hB : i ∉ B := by decide) (hy : X.N[i]? = some y := by rfl) (hyl : X.env.scope.names.lookup y = some .local := by rfl)
    (hn : X.N.length = n := by rfl) (hs : ∀ x, foldedSetIterable iter X.env x = pure x := by intro _; rfl) : DS X W B (.Assign [.Name y py] (.ListComp elt [⟨tg, iter, ifs, 0⟩] scope pos) spos) (sSet i (eLc (own.map (·.2)) it g t f)) :=
  ps_weakI (ps_setLc hc hN hy hyl hsw hi ok hg ht he hs) fun D σ H hl h => by
    have h2 := set_core (B := B) hB h
    exact lc_core' (n := n) (by omega) h2
end
end DL

namespace DL
variable {K : PySem.W.Frag}
open PySem PySem.Spec PyProof.Rows L2
section
variable {X : Cx} {W : WX} {B : List Nat} {pos : Pos}
theorem op_addD : OpR X (binaryOp .Add) rAdd := op_add.or (op_add_str.or op_cat)
theorem op_mulD : OpR X (binaryOp .Mult) rMul := (op_mulW.or op_mul).or op_rep
theorem dt_cmp {op : CmpOp} {r : R2} {g} {a b : Expr} {fa fb} (ho : OpR X (compareOp op) r) (hs : OpS X.K r g) (hm : behindInMarks op b = false) (ha : DV X W a fa) (hb : DV X W b fb) : DT X W (.Compare a [op] [b] pos) (eB (eBin g fa fb)) :=
  pt_weak (pt_cmpR ho ha hb hm) fun _ _ _ h => bin_core hs (bool_core h)
/-! ### slices -/
def dTO (K : PySem.W.Frag) (mg : Mg) (W : WX) (f : Env' → R (Option Int)) : TO := fun σ H Q => ∃ F env fp, RS F H fp ∧ Ows K F H σ env fp ∧ (match f env with
  | .st => False
  | .ok o env' => ∀ F' H' fp', Stp F H fp F' H' fp' → Ows K F' H' σ env' fp' → Q o H'
  | .ex C x env' => PoX K mg W F H fp σ C x env')
abbrev DO (X : Cx) (W : WX) (e : Option Expr) (f : Env' → R (Option Int)) : Prop := PO X e (dTO X.K X.mg W f)
def oNone : Env' → R (Option Int) := fun env => .ok none env
def oSome (f : Env' → R OD) : Env' → R (Option Int) := fun env => (f env).bind fun d e => match d with
  | .p (.int i) => .ok (some i) e
  | _ => .st
theorem po_weak {e : Option Expr} {t u : TO} (h : PO X e t) (w : ∀ σ H Q, u σ H Q → t σ H Q) : PO X e u := ⟨fun pins s σ H Q I q => h.run pins s σ H Q I (w σ H Q q)⟩
theorem po0 : DO X W none oNone := po_weak po_none fun σ H Q ⟨F, env, fp, rs, o, h⟩ => h F H fp (Stp.rfl' rs) o
theorem po1 {e : Expr} {f} (h : DE X W e f) : DO X W (some e) (oSome f) := po_weak (po_some h) fun σ H Q ⟨F, env, fp, rs, o, h⟩ => by
  refine ⟨F, env, fp, rs, o, ?_⟩
  unfold oSome at h
  cases e : f env with
  | st => rw [e] at h; exact h
  | ex C x e' => rw [e] at h; exact h
  | ok d e' =>
    rw [e, R.bind_ok] at h
    intro v F' H' fv fp' s dj w o'
    cases d with
    | p d =>
      cases d with
      | int i => cases Ow.int w; exact ⟨i, rfl, h F' H' fp' (s.less fun _ => .inr) o'⟩
      | _ => exact h.elim
    | _ => exact h.elim
theorem seqO {mg : Mg} {F H F1 H1 : Hp} {fp f1 fq : Fp} {σ : L2.St} {env1 : Env'} {f : Env' → R (Option Int)} {β : Type} {P : R β → Prop} {k : Option Int → Env' → R β} {Q1 : Option Int → Hp → Prop} (s : Stp F H fp F1 H1 fq) (l : ∀ a, f1 a → fq a) (o : Ows K F1 H1 σ env1 f1)
    (hs : P .st → False) (hx : ∀ C f e, P (.ex C f e) → PoX K mg W F H fp σ C f e) (h : P ((f env1).bind k))
    (c : ∀ d e' F' H' fp', Stp F1 H1 f1 F' H' fp' → Ows K F' H' σ e' fp' → P (k d e') → Q1 d H') : dTO K mg W f σ H1 Q1 := by
  refine ⟨F1, env1, f1, ⟨s.rs.sub, fun a q => s.rs.own a (l a q)⟩, o, ?_⟩
  cases e : f env1 with
  | st => rw [e] at h; exact (hs h).elim
  | ok d e' => rw [e] at h; exact fun F' H' fp' t o' => c d e' F' H' fp' t o' h
  | ex C x e' => rw [e] at h; exact (hx C x e' h).step s l
def cut {α : Type} (xs : List α) (lo hi : Option Int) : List α := (xs.drop (HT.sIx xs.length 0 lo)).take (HT.sIx xs.length xs.length hi - HT.sIx xs.length 0 lo)
def gSlice (x : OD) (lo hi : Option Int) : Option OD := match x with
  | .sc ns => some (.l ((cut ns lo hi).map fun i => .p (.int i)))
  | .p (.str z) => if z.length ≤ 100000 then some (oS (cutS z lo hi)) else none
  | x => (its x).map fun ds => .l ((cut ds lo hi).map .p)
def eSl (fv : Env' → R Opd) (fl fu : Env' → R (Option Int)) : Env' → R OD := fun env => (fv env).bind fun a e1 => (fl e1).bind fun l e2 => (fu e2).bind fun u e3 => match a.at e3 with
  | some x => R.of (gSlice x l u) e3
  | none => .st
theorem DdL.cut {F : Hp} {vs ds} (w : DdL F vs ds) (lo hi : Option Int) : DdL F (cutV vs lo hi) (DL.cut ds lo hi) := by
  unfold cutV DL.cut
  rw [w.len]
  exact (w.drop _).take _
theorem slice_sp {K : PySem.W.Frag} {F H : Hp} {v : V} {x : OD} {fx fp : Fp} {lo hi : Option Int} {d : OD} {Q : VK} (rs : RS F H fp) (o : Ow K F H v x fx) (e : gSlice x lo hi = some d)
    (k : ∀ v' F' H' f', Stp F H NoFp F' H' f' → Ow K F' H' v' d f' → Q v' H') : rSlL K v lo hi H Q ∨ rSlS v lo hi H Q := by
  unfold gSlice at e
  split at e
  · rename_i ns
    cases e
    cases o with
    | sc a =>
      refine .inl ⟨_, ns.map V.int, rfl, sqInc rs.sub a, ?_⟩
      have w : DdL F (cutV (ns.map V.int) lo hi) ((cut ns lo hi).map PyData.int) := by
        have e : cutV (ns.map V.int) lo hi = (cut ns lo hi).map V.int := by unfold cutV cut; simp [List.map_take, List.map_drop]
        rw [e]; exact DdL.of_ints
      rw [mapint] at k
      exact newL rs w k
  · split at e
    · rename_i q
      cases e
      exact .inr ⟨_, Ow.str o, szl q, k0 rs k (.p (.str _))⟩
    · cases e
  · cases q : its x with
    | none => rw [q] at e; cases e
    | some ds =>
      rw [q] at e; cases e
      obtain ⟨a, vs, rfl, h, w⟩ := its_at rs.sub o q
      exact .inl ⟨a, vs, rfl, SqL.of h, newL rs (w.cut lo hi) k⟩
theorem de_slice {e : Expr} {lo hi : Option Expr} {fv fl fu} {p2 : Pos} (he : DV X W e fv) (hl : DO X W lo fl) (hu : DO X W hi fu) : DE X W (.Subscript e (.Slice lo hi none p2) pos) (eSl fv fl fu) :=
  pe_weak (pe_slice (SlR.or sl_list sl_str) he hl hu) fun σ H Q ⟨F, env, fp, rs, o, h⟩ => by
    refine seqV (Stp.rfl' rs) (fun _ q => q) o (fun h => h) PoE.ex_ h fun a e1 v F1 H1 fv f1 s1 dj1 w1 o1 h1 => ?_
    have own : ∀ a, fv a → F1 a = none ∧ H1 a ≠ none := fun a q => s1.rs.own a (.inl q)
    refine seqO s1 (fun _ q => .inr q) o1 (fun h => h) PoE.ex_ h1 fun l e2 F2 H2 f2 s2 o2 h2 => ?_
    have w2 := w1.step s2 dj1 (fun a q => (own a q).2)
    have s3 : Stp F H fp F2 H2 (Un2 f2 fv) := s1.tr ((s2.frame dj1 own).from fun a q => q.elim .inr .inl)
    have dj2 := s2.dj dj1 fun a q => (own a q).2
    have own2 : ∀ a, fv a → F2 a = none ∧ H2 a ≠ none := fun a q => s3.rs.own a (.inr q)
    refine seqO s3 (fun _ q => .inl q) o2 (fun h => h) PoE.ex_ h2 fun u e3 F3 H3 f3 s4 o3 h3 => ?_
    have w3 := w2.step s4 dj2 (fun a q => (own2 a q).2)
    have s5 : Stp F H fp F3 H3 (Un2 f3 fv) := s3.tr (s4.frame dj2 own2)
    cases ea : a.at e3 with
    | none => rw [ea] at h3; exact h3.elim
    | some x =>
      rw [ea] at h3
      dsimp only at h3
      cases eg : gSlice x l u with
      | none => rw [eg] at h3; exact h3.elim
      | some d =>
        rw [eg] at h3
        obtain ⟨fx, ox, lx⟩ := w3.look o3 ea
        exact slice_sp s5.rs ox eg (h3.fin s5 (fun a q => .inl q) o3)
def gRev (x : OD) : Option OD := (its x).map fun ds => .l (ds.reverse.map .p)
theorem DdL.rev {F : Hp} : ∀ {vs ds}, DdL F vs ds → DdL F vs.reverse ds.reverse
  | _, _, .nil => .nil
  | _, _, .cons h t => by
    rw [List.reverse_cons, List.reverse_cons]
    exact t.rev.app (.cons h .nil)
theorem de_rev {e : Expr} {fv} {k : Nat} {p1 p2 p3 : Pos} (he : DV X W e fv) : DE X W (.Subscript e (.Slice none none (some (.UnaryOp .USub (.Constant (.int 1) k p1) p2)) p3) pos) (eUn gRev fv) :=
  pe_weak (pe_revL he) fun σ H Q h => un_core (r := fun x H1 Q => ∃ a xs, x = .ref a ∧ SqL X.K H1 a xs ∧ ∀ p, H1 p = none → Q (.ref p) (upd H1 p (.lst xs.reverse))) (g := gRev) (fun F H v x fx fp d Q rs lx o e k => by
    unfold gRev at e
    cases q : its x with
    | none => rw [q] at e; cases e
    | some ds =>
      rw [q] at e; cases e
      obtain ⟨a, vs, rfl, h, w⟩ := its_at rs.sub o q
      exact ⟨a, vs, rfl, SqL.of h, newL rs w.rev k⟩) h
theorem outE2 {mg : Mg} {F H F1 H1 : Hp} {fp f1 fq : Fp} {σ : L2.St} {env1 : Env'} {D : Ends} {f : Env' → R OD} {k : OD → Env' → Out} {Q1 : VK} (s : Stp F H fp F1 H1 fq) (l : ∀ a, f1 a → fq a) (o : Ows K F1 H1 σ env1 f1) (h : PoS K mg W B F H fp σ D ((f env1).out k))
    (c : ∀ d e' v F' H' fv fp', Stp F1 H1 f1 F' H' (Un2 fv fp') → Dj fv fp' → Ow K F' H' v d fv → Ows K F' H' σ e' fp' → PoS K mg W B F H fp σ D (k d e') → Q1 v H') : dTE K mg W f σ H1 Q1 := by
  refine ⟨F1, env1, f1, ⟨s.rs.sub, fun a q => s.rs.own a (l a q)⟩, o, ?_⟩
  cases e : f env1 with
  | st => rw [e] at h; exact h.elim
  | ok d e' => rw [e] at h; exact fun v F' H' fv fp' t dj w o' => c d e' v F' H' fv fp' t dj w o' h
  | ex C x e' => rw [e] at h; exact PoX.step (C := C) (f := x) s l h.ex_
/-! ### x[i] = e -/
def itmOut (i : Nat) (d : OD) (k : OD) (e : Env') : Out := match k, lk e i with
  | .p (.int n), some (.l xs) => match ixN xs.length n with
    | some j => .nx (e.set i (.l (xs.set j d)))
    | none => .st
  | _, _ => .st
def sItem (i : Nat) (f fi : Env' → R OD) : Env' → Out := fun env => (f env).out fun d e1 => match lk e1 i with
  | some (.l _) => (fi e1).out fun k e2 => itmOut i d k e2
  | _ => .st
theorem ds_item (i : Nat) {x : Str} {e ie : Expr} {f fi} {px ps : Pos} (he : DE X W e f) (hi : DE X W ie fi) (hN : X.N[i]? = some x := by rfl) (hv : Vis X.env.scope x := by first | exact Or.inl rfl | exact Or.inr (Or.inl rfl) | exact Or.inr (Or.inr rfl)) (hd : (x == ("__debug__" : Str)) = false := by decide)
    (hcd : (x == ("__classdict__" : Str)) = false := by decide) (ha : ∀ v, assign (.Subscript (.Name x px) ie ps) X.env v = (do
      let ov ← holding [v] (eval (.Name x px) X.env)
      let iv ← holding [v, ov] (eval ie X.env)
      standAt ps
      holding [v, ov, iv] (setItem ov iv v)
      release [v, ov, iv] []) := by intro _; rfl)
    (hs : swapsWithSole [.Subscript (.Name x px) ie ps] e pos.line X.env = pure false := by rfl) (hw : swappedStores [.Subscript (.Name x px) ie ps] e X.env = pure none := by rfl)
    (h1 : (assignEach [.Subscript (.Name x px) ie ps] X.env).map (·.2) = [assign (.Subscript (.Name x px) ie ps) X.env] := by rfl) :
    DS X W B (.Assign [.Subscript (.Name x px) ie ps] e pos) (sItem i f fi) := ps_weak (ps_asg he (pg_sub (pe_var hN hv hd hcd) hi set_list ha) hs hw h1) fun D σ H ⟨F, env, fp, rs, o, h⟩ => by
  refine outE rs o h fun d e1 v F1 H1 fv f1 s1 dj1 w1 o1 h1 => ?_
  have own : ∀ a, fv a → F1 a = none ∧ H1 a ≠ none := fun a q => s1.rs.own a (.inl q)
  cases e0 : lk e1 i with
  | none => rw [e0] at h1; exact h1.elim
  | some x0 =>
    rw [e0] at h1
    cases x0 with
    | l xs0 =>
      dsimp only at h1
      obtain ⟨q1, n1⟩ := lk_some e0
      obtain ⟨u, g1, g2, hu, w0, _⟩ := o1.get q1 n1
      refine ⟨u, hu, ?_⟩
      refine outE2 s1 (fun _ z => .inr z) o1 h1 fun k e2 v2 F2 H2 f3 f2 s2 dj2 w2 o2 h3 => ?_
      have w1' := w1.step s2 dj1 (fun a q => (own a q).2)
      have d3 := s2.dj dj1 fun a q => (own a q).2
      have s3 := s2.frame dj1 own
      unfold itmOut at h3
      split at h3
      · rename_i n xs e4
        split at h3
        · rename_i j ej
          obtain ⟨q3, n3⟩ := lk_some e4
          obtain ⟨u', k1, k2, hu', w4, orest, l1, l2, dk⟩ := o2.get q3 n3
          rw [hu] at hu'; cases hu'
          cases w4 with
          | l fa ha wl hd =>
            rename_i a ws fq
            cases Ow.int w2
            have dvq : Dj fv fq := fun b z z2 => d3 b z (.inr (l1 b (hd b z2).1))
            have ol := Ows.store w1' j wl dvq
            rw [← List.map_set] at ol
            refine ⟨a, ws, n, j, rfl, rfl, ha, by rw [ows_len wl]; exact ej, ?_⟩
            have ai : f2 a := l1 a fa
            have rs3 : RS F2 H2 (Un2 (Un2 f3 f2) fv) := s3.rs
            have nv : ∀ b, fv b → b ≠ a := fun b z e => d3 b z (.inr (e ▸ ai))
            have st := Stp.put (o := .lst (ws.set j v)) rs3 (a := a) (.inl (.inr ai))
            have ol' := ol.mono st.inc (H' := upd H2 a (.lst (ws.set j v))) fun b z => upd_ne (z.elim (nv b) fun z => (hd b z).2)
            have or' := orest.mono st.inc (H' := upd H2 a (.lst (ws.set j v))) fun b z => upd_ne fun e => dk a fa (e ▸ z)
            have wn : Ow X.K F2 (upd H2 a (.lst (ws.set j v))) (.ref a) (.l (xs.set j d)) (Un2 (fun b => b = a) (Un2 fv fq)) := .l (.inl rfl) upd_same ol' fun b z => ⟨.inr z, z.elim (nv b) fun z => (hd b z).2⟩
            have dn : Dj (Un2 (fun b => b = a) (Un2 fv fq)) k2 := fun b z z2 => z.elim (fun e => dk a fa (e ▸ z2)) fun z => z.elim (fun z => d3 b z (.inr (l2 b z2))) fun z => dk b (hd b z).1 z2
            have op := Ows.put wn or' hu dn
            rw [List.set_set] at op
            have sF := (s1.tr (s3.from fun b z => z.elim .inr .inl)).tr st
            refine h3 σ F2 _ _ (sF.less fun b z => ?_) op Bk.id'
            rcases z with (z | z | z) | z
            · exact .inl (.inr (z ▸ ai))
            · exact .inr z
            · exact .inl (.inr (l1 b (hd b z).1))
            · exact .inl (.inr (l2 b z))
        · exact h3.elim
      · exact h3.elim
    | _ => exact h1.elim
end
end DL

namespace DL
open PySem PySem.Spec PyProof.Rows L2
/-! ### the law's own promise, and the end -/
def spL (K : PySem.W.Frag) : Sp := fun vs H Q _ => ∃ (a : Addr) (ns : List Int), vs = [V.ref a] ∧ SqL K H a (ns.map V.int) ∧ ns.length ≤ 63 ∧ ∀ H', Q (.bl true) H'
/-- the law's worth is True at every script -/
def LawTrue (φ : Fn) : Prop := ∀ ns : List Int, ns.length ≤ 63 → ∃ e, φ [.sc ns] = .ok (oB true) e
theorem law_fn {P : Program} {w : World} {K : PySem.W.Frag} {mg : Mg} {base : Heap} {k : Nat} {f : Addr} {fd : FuncData} {ps : List Str} {φ : Fn} (F : FnOk P w K mg base (L2.CX P w) k f fd ps (spD K mg 1 φ)) (h : LawTrue φ) :
    FnOk P w K mg base (L2.CX P w) k f fd ps (spL K) := F.imp fun vs H Q E ⟨a, ns, e1, e2, e3, q⟩ => by
  subst e1
  obtain ⟨e, he⟩ := h ns e3
  refine ⟨rfl, H, [.sc ns], fun _ => False, ⟨Inc.rfl', fun _ z => z.elim⟩, Ows.one (.sc e2), ?_⟩
  rw [he]
  intro v F' H' fv fp' s dj w o
  cases Ow.bl w
  exact q H'
theorem cx_no {P : Program} {w : World} {l : List Env} {H : Hp} {s s' : Shared} {e : Value} (h : L2.CX P w l H s (fun _ _ _ => False) e s') : False := by
  obtain ⟨_, _, _, _, _, _, _, _, _, _, _, _, z⟩ := h
  exact z
theorem def_mk {P : Program} {w : World} {K : PySem.W.Frag} {mg : Mg} {base : Heap} {x : Str} {n k : Nat} {φ : Fn} {f : Addr} {fd : FuncData} {ps : List Str} (m : mg x = some (.ref f)) (F : FnOk P w K mg base (L2.CX P w) k f fd ps (spD K mg n φ)) (b : Binds K fd ps []) (kp : PySem.W.keepIn K (.ref f) = true) :
    Def P w K mg base x n φ k := ⟨f, fd, ps, m, F, b, kp⟩
end DL

namespace DL
variable {K : PySem.W.Frag}
open PySem PySem.Spec PyProof.Rows L2
/-! ### loops over a name's list: the list is not frozen, it has to stand as it is -/
def itsA : OD → Option (List PyData)
  | .p (.list ds) => some ds
  | .l xs => allp xs
  | _ => none
theorem seqA_at {F H : Hp} {v x ds fx} (s : Inc F H) (w : Ow K F H v x fx) (e : itsA x = some ds) : ∃ a vs, v = .ref a ∧ H a = some (.lst vs) ∧ DdL F vs ds := by
  cases w with
  | h => cases e
  | sc => cases e
  | er => cases e
  | ob => cases e
  | fo => cases e
  | dc => cases e
  | t => cases e
  | p w =>
    cases w with
    | lst a b => cases e; exact ⟨_, _, rfl, s _ _ a, b⟩
    | _ => cases e
  | l a b c d =>
    have q := allp_eq (show allp _ = some ds from e)
    subst q
    exact ⟨_, _, rfl, b, c.pure⟩
/-- what a walk yields, of a list that stands -/
def JA (K : PySem.W.Frag) (J : Addr → It) (κ : List PyData → List PyData) : Prop := ∀ F H a vs ds, H a = some (.lst vs) → Inc F H → DdL F vs ds → ∀ i : Nat, (i < (κ ds).length → (J a).go i H) ∧ ((κ ds).length ≤ i → (J a).stop i H) ∧
  ∀ d, (κ ds)[i]? = some d → ∀ x H', (J a).yld i H x H' → ∃ F', Stp F H NoFp F' H' NoFp ∧ Dd F' x d
theorem ja_list : JA K (Itl K) id := fun F H a vs ds h i2 w i => by
  have hH : SqL K H a vs := SqL.of h
  refine ⟨fun hi => ?_, fun hi => ⟨vs, hH, by rw [w.len]; exact hi⟩, fun d hd x H' hy => ?_⟩
  · obtain ⟨d, hd⟩ : ∃ d, ds[i]? = some d := ⟨_, List.getElem?_eq_getElem hi⟩
    obtain ⟨v, hv, _⟩ := w.get hd
    exact ⟨vs, v, hH, hv⟩
  · obtain ⟨rfl, hx⟩ := hy
    obtain ⟨v, hv, q⟩ := w.get hd
    have := hx vs hH
    rw [hv] at this; cases this
    exact ⟨F, Stp.rfl' ⟨i2, fun _ z => z.elim⟩, q⟩
theorem ja_enum : JA K (Ite K) (enumL 0) := fun F H a vs ds h i2 w i => by
  have hH : SqL K H a vs := SqL.of h
  rw [enumL_len]
  refine ⟨fun hi => ?_, fun hi => ⟨vs, hH, by rw [w.len]; exact hi⟩, fun d hd x H' hy => ?_⟩
  · obtain ⟨d, hd⟩ : ∃ d, ds[i]? = some d := ⟨_, List.getElem?_eq_getElem hi⟩
    obtain ⟨v, hv, _⟩ := w.get hd
    exact ⟨vs, v, hH, hv⟩
  · obtain ⟨e, he, rfl⟩ := enumL_get ds 0 i hd
    obtain ⟨T, y, rfl, hT, rfl, hx⟩ := hy
    obtain ⟨v, hv, q⟩ := w.get he
    have ev : v = y := Option.some.inj (hv.symm.trans (hx vs hH))
    subst ev
    have st := Stp.newPure (o := .tup [.int (i : Nat), v]) (fp := NoFp) ⟨i2, fun _ z => z.elim⟩ hT
    rw [Nat.zero_add]
    exact ⟨_, st, .tup upd_same (.cons (.int _) (.cons (q.inc st.inc) .nil))⟩
open Classical in
noncomputable def forGoA (i : Nat) (x : OD) (g : Tg) (f : Env' → Out) : List PyData → Env' → Out
  | [], e => if lk e i = some x then .nx e else .st
  | d :: ds, e => if lk e i = some x then (match g (.p d) e with
    | none => .st
    | some e1 => (f e1).seq (forGoA i x g f ds)) else .st
noncomputable def sForA (κ : List PyData → List PyData) (i : Nat) (fall : Env' → Out) (g : Tg) (f : Env' → Out) : Env' → Out := fun env => match lk env i with
  | none => .st
  | some x => match itsA x with
    | some ds => forGoA i x g f (κ ds) env
    | none => fall env
def tIA (K : PySem.W.Frag) (i : Nat) (J : Addr → It) : TI := fun σ H Q => ∃ a vs, σ[i]? = some (some (.ref a)) ∧ SqL K H a vs ∧ Q (J a) H
theorem PoS.up {mg : Mg} {W : WX} {B B' : List Nat} {F H : Hp} {fp : Fp} {σ : L2.St} {D : Ends} {o : Out} (l : ∀ i, i ∈ B → i ∈ B') (h : PoS K mg W B F H fp σ D o) : PoS K mg W B' F H fp σ D o := by
  have up : ∀ σ', Bk B' σ σ' → Bk B σ σ' := fun σ' b => ⟨b.1, fun i hi => b.2 i (l i hi)⟩
  cases o with
  | st => exact h
  | nx e => exact fun σ' F' H' fp' t o b' => h σ' F' H' fp' t o (up _ b')
  | rt d e => exact fun v σ' F' H' fv fp' t dj w o b' => h v σ' F' H' fv fp' t dj w o (up _ b')
  | ex C f e => exact fun σ' F' H' fp' t o b' => h σ' F' H' fp' t o (up _ b')
theorem forA_core {mg : Mg} {W : WX} {B : List Nat} {κ : List PyData → List PyData} {J : Addr → It} (ja : JA K J κ) (i : Nat) {fall g f} {tf : TI} {D : Ends} {σ : L2.St} {H : Hp}
    (hf : dTS K mg W (i :: B) fall D σ H → tFor tf (dTG K (i :: B) g) (dTS K mg W (i :: B) f) D σ H) :
    dTS K mg W B (sForA κ i fall g f) D σ H → tFor (fun σ H Q => tIA K i J σ H Q ∨ tf σ H Q) (dTG K (i :: B) g) (dTS K mg W (i :: B) f) D σ H := fun ⟨F, env, fp, rs, o, h⟩ => by
  have h := h.up (B' := i :: B) fun j z => List.mem_cons_of_mem _ z
  unfold sForA at h
  cases e0 : lk env i with
  | none => rw [e0] at h; exact h.elim
  | some x =>
    rw [e0] at h
    dsimp only at h
    cases q : itsA x with
    | none => rw [q] at h; exact .inr (hf ⟨F, env, fp, rs, o, h⟩)
    | some ds0 =>
      rw [q] at h
      dsimp only at h
      obtain ⟨n1, n2⟩ := lk_some e0
      obtain ⟨v, g1, g2, hv, w0, _⟩ := o.get n1 n2
      obtain ⟨a, vs, rfl, ha, _⟩ := seqA_at rs.sub w0 q
      refine .inl ⟨a, vs, hv, SqL.of ha, ?_⟩
      have jy0 : ∀ F1 H1 σ1 e1 f1, Inc F1 H1 → Ows K F1 H1 σ1 e1 f1 → σ1[i]? = σ[i]? → lk e1 i = some x → ∀ k : Nat, (k < (κ ds0).length → (J a).go k H1) ∧ ((κ ds0).length ≤ k → (J a).stop k H1) ∧
          ∀ d, (κ ds0)[k]? = some d → ∀ y H', (J a).yld k H1 y H' → ∃ F', Stp F1 H1 NoFp F' H' NoFp ∧ Dd F' y d := fun F1 H1 σ1 e1 f1 i2 o1 hs hl k => by
        obtain ⟨m1, m2⟩ := lk_some hl
        obtain ⟨v1, _, _, hv1, w1, _⟩ := o1.get m1 m2
        rw [hs, hv] at hv1; cases hv1
        obtain ⟨a1, vs1, ea, ha1, wd⟩ := seqA_at i2 w1 q
        cases ea
        exact ja F1 H1 a vs1 ds0 ha1 i2 wd k
      generalize κ ds0 = ds at *
      refine ⟨fun k m σ1 H1 => m = ds.length - k ∧ ∃ F1 e1 f1, RS F1 H1 f1 ∧ Ows K F1 H1 σ1 e1 f1 ∧ σ1[i]? = σ[i]? ∧ PoS K mg W (i :: B) F1 H1 f1 σ1 D (forGoA i x g f (ds.drop k) e1), ⟨_, rfl, F, env, fp, rs, o, rfl, h⟩, fun k m σ1 H1 ⟨hm, F1, e1, f1, r1, o1, hs1, h1⟩ => ?_⟩
      by_cases hl : lk e1 i = some x
      case neg =>
        have : forGoA i x g f (ds.drop k) e1 = .st := by
          cases ds.drop k with
          | nil => unfold forGoA; exact if_neg hl
          | cons => unfold forGoA; exact if_neg hl
        rw [this] at h1; exact h1.elim
      obtain ⟨jg, js, jy⟩ := jy0 F1 H1 σ1 e1 f1 r1.sub o1 hs1 hl k
      by_cases hi : k < ds.length
      · refine .inr ⟨jg hi, ?_⟩
        have ed : ds.drop k = ds[k] :: ds.drop (k + 1) := List.drop_eq_getElem_cons hi
        rw [ed] at h1
        unfold forGoA at h1
        rw [if_pos hl] at h1
        cases q : g (.p ds[k]) e1 with
        | none => rw [q] at h1; exact h1.elim
        | some e2 =>
          rw [q] at h1
          dsimp only at h1
          refine ⟨fun σ2 H2 => ∃ F2 e2 f2, RS F2 H2 f2 ∧ Ows K F2 H2 σ2 e2 f2 ∧ σ2[i]? = σ[i]? ∧ PoS K mg W (i :: B) F2 H2 f2 σ2 D (forGoA i x g f (ds.drop (k + 1)) e2), fun σ2 H2 h2 => ⟨ds.length - (k + 1), by omega, rfl, h2⟩, fun y H' hy => ?_⟩
          obtain ⟨F2, s2, wx⟩ := jy ds[k] (List.getElem?_eq_getElem hi) y H' hy
          have own : ∀ a, f1 a → F1 a = none ∧ H1 a ≠ none := r1.own
          have s3 := (s2.frame (g := f1) dj0' own)
          have s3' : Stp F1 H1 f1 F2 H' f1 := (s3.from fun a z => z.elim False.elim _root_.id).less fun a z => .inr z
          have o2 := o1.step s2 dj0' fun a q => (own a q).2
          refine ⟨F2, e1, NoFp, f1, .p ds[k], e2, ⟨s3.rs.sub, fun a z => z.elim False.elim (s3'.rs.own a)⟩, dj0, .p wx, o2, q, fun σ2 f3 l3 o3 b3 => ?_⟩
          have l3' : ∀ a, f3 a → f1 a := fun a z => (l3 a z).elim False.elim _root_.id
          have h2 := h1.step s3' l3' b3
          refine ⟨F2, e2, f3, ⟨s3'.rs.sub, fun a z => s3'.rs.own a (l3' a z)⟩, o3, ?_⟩
          have hs2 : σ2[i]? = σ[i]? := (b3.2 i List.mem_cons_self).trans hs1
          cases q2 : f e2 with
          | st => rw [q2] at h2; exact h2.elim
          | nx e4 =>
            rw [q2] at h2
            exact fun σ4 F4 H4 f4 s4 o4 b4 => ⟨F4, e4, f4, s4.rs, o4, (b4.2 i List.mem_cons_self).trans hs2, h2.step s4 (fun _ z => z) b4⟩
          | rt d e4 => rw [q2] at h2; exact h2
          | ex C y e4 => rw [q2] at h2; exact h2
      · refine .inl ⟨js (by omega), ?_⟩
        rw [List.drop_eq_nil_of_le (by omega)] at h1
        unfold forGoA at h1
        rw [if_pos hl] at h1
        exact h1 σ1 F1 H1 f1 (Stp.rfl' r1) o1 Bk.id'
section
variable {X : Cx} {W : WX} {B : List Nat} {pos : Pos}
/-- a walk over a name's list -/
structure DIA (X : Cx) (W : WX) (tg e : Expr) (i : Nat) (κ : List PyData → List PyData) (fit : Env' → R (List PyData)) : Prop where
  ex : ∃ J, JA X.K J κ ∧ PI X tg e (tIA X.K i J)
  fa : DI X W tg e fit
theorem dia_name (i : Nat) {x : Str} {p : Pos} {tg : Expr} (hN : X.N[i]? = some x := by rfl) (hv : Vis X.env.scope x := by first | exact Or.inl rfl | exact Or.inr (Or.inl rfl) | exact Or.inr (Or.inr rfl)) (hd : (x == ("__debug__" : Str)) = false := by decide) (hcd : (x == ("__classdict__" : Str)) = false := by decide) :
    DIA X W tg (.Name x p) i id (iSeq (eVar i)) := ⟨⟨Itl X.K, ja_list, pi_weak (pi_list (pe_var hN hv hd hcd)) fun σ H Q ⟨a, vs, h1, h2, h3⟩ => ⟨.ref a, h1, a, rfl, ⟨vs, h2⟩, h3⟩⟩, di_seq (de_var i hN hv hd hcd)⟩
theorem dia_enum (i : Nat) {elts : List Expr} {kk : Nat} {x : Str} {p p2 pos tpos : Pos} (hg : Gl X "enumerate") (hm : X.mg "enumerate" = none) (hN : X.N[i]? = some x := by rfl) (hv : Vis X.env.scope x := by first | exact Or.inl rfl | exact Or.inr (Or.inl rfl) | exact Or.inr (Or.inr rfl)) (hd : (x == ("__debug__" : Str)) = false := by decide) (hcd : (x == ("__classdict__" : Str)) = false := by decide)
    (hs : starEach [.Name x p2] X.env = (false, eval (.Name x p2) X.env) :: starEach [] X.env := by rfl) :
    DIA X W (.Tuple elts kk tpos) (.Call (.Name "enumerate" p) [.Name x p2] [] pos) i (enumL 0) (iEnu (aCons (eVar i) aNil)) :=
  ⟨⟨Ite X.K, ja_enum, pi_weak (pi_enum hg hm (pa_cons (pe_var hN hv hd hcd) pa_nil hs) hs) fun σ H Q ⟨a, vs, h1, h2, h3⟩ => ⟨.ref a, h1, a, vs, rfl, h2, h3⟩⟩, di_enum hg hm (da_cons (de_var i hN hv hd hcd) da_nil hs) hs⟩
theorem ds_forA {tg iter : Expr} {body : List Stmt} {i : Nat} {κ fit g f} (hp : PassesOwn (model X.prog X.w) X.A X.env X.xe) (hc : X.calm = true) (hi : DIA X W tg iter i κ fit) (hg : DG X (i :: B) tg g) (hb : DSs X W (i :: B) body f) (hs : ∀ x, foldedSetIterable iter X.env x = pure x := by intro _; rfl) :
    DS X W B (.For tg iter body [] pos) (sForA κ i (sFor fit g f) g f) := by
  obtain ⟨⟨J, ja, h1⟩, h2⟩ := hi
  exact ps_weak (ps_for hp hc (PI.or h1 h2) hg hb hs) fun D σ H => forA_core ja i fun h => for_core h
end
end DL

namespace DL
variable {K : PySem.W.Frag}
open PySem PySem.Spec PyProof.Rows L2
/-! ### comprehensions over a name's list that stands as it is -/
open Classical in
noncomputable def lcGoA (i : Nat) (x0 : OD) (js : List Nat) (g : Tg) (t : Env' → R Bool) (f : Env' → R OD) : List PyData → Env' → Option (List OD × Env')
  | [], e => if lk e i = some x0 then some ([], e) else none
  | d :: ds, e => if lk e i = some x0 then (match g (.p d) e with
    | none => none
    | some e1 => match t e1 with
      | .ok true e2 => match f e2 with
        | .ok x e3 => (lcGoA i x0 js g t f ds (clr js e3)).map fun p => (x :: p.1, p.2)
        | _ => none
      | .ok false e2 => lcGoA i x0 js g t f ds (clr js e2)
      | _ => none) else none
noncomputable def eLcA (κ : List PyData → List PyData) (i : Nat) (js : List Nat) (fit : Env' → R (List PyData)) (g : Tg) (t : Env' → R Bool) (f : Env' → R OD) : Env' → R OD := fun env => match lk env i with
  | none => .st
  | some x0 => match itsA x0 with
    | some ds => if hol js env = true ∧ (κ ds).length ≤ 40000 ∧ js.contains i = false then lcOut (lcGoA i x0 js g t f (κ ds) env) else .st
    | none => eLc js fit g t f env
section
variable {X : Cx} {W : WX} {pos : Pos}
theorem lcA_core {mg : Mg} {n : Nat} {κ : List PyData → List PyData} {J : Addr → It} (ja : JA K J κ) (si : Nat) {js : List Nat} {fit g t f} {σ : L2.St} {H : Hp} {Q : VK} (hn : σ.length ≤ n) : dTE K mg W (eLcA κ si js fit g t f) σ H Q → tLc (fun σ H Q => tIA K si J σ H Q ∨ dTI K mg W fit σ H Q) (dTG K (cpl n js) g) (dTT K mg W0 t) (dTE K mg W0 f) js σ H Q := fun ⟨F, env, fp, rs, o, h⟩ => by
  unfold eLcA at h
  cases e0 : lk env si with
  | none => rw [e0] at h; exact h.elim
  | some x0 =>
  rw [e0] at h
  dsimp only at h
  cases q0 : itsA x0 with
  | none => rw [q0] at h; exact .inr (lc_core' hn ⟨F, env, fp, rs, o, h⟩)
  | some ds0 =>
    rw [q0] at h
    dsimp only at h
    obtain ⟨n1, n2⟩ := lk_some e0
    obtain ⟨v0, g1, g2, hv, w0, _⟩ := o.get n1 n2
    obtain ⟨a0, vs0, rfl, ha0, _⟩ := seqA_at rs.sub w0 q0
    refine .inl ⟨a0, vs0, hv, SqL.of ha0, ?_⟩
    have jy0 : ∀ F1 H1 σ1 e1 f1, Inc F1 H1 → Ows K F1 H1 σ1 e1 f1 → σ1[si]? = σ[si]? → lk e1 si = some x0 → ∀ k : Nat, (k < (κ ds0).length → (J a0).go k H1) ∧ ((κ ds0).length ≤ k → (J a0).stop k H1) ∧
        ∀ d, (κ ds0)[k]? = some d → ∀ y H', (J a0).yld k H1 y H' → ∃ F', Stp F1 H1 NoFp F' H' NoFp ∧ Dd F' y d := fun F1 H1 σ1 e1 f1 i2 o1 hs hl k => by
      obtain ⟨m1, m2⟩ := lk_some hl
      obtain ⟨v1, _, _, hv1, w1, _⟩ := o1.get m1 m2
      rw [hs, hv] at hv1; cases hv1
      obtain ⟨a1, vs1, ea, ha1, wd⟩ := seqA_at i2 w1 q0
      cases ea
      exact ja F1 H1 a0 vs1 ds0 ha1 i2 wd k
    generalize κ ds0 = ds at *
    split at h
    case isFalse => exact h.elim
    rename_i hh
    have hsi : (wipe σ js)[si]? = σ[si]? := wipe_out fun z => by
      have := hh.2.2
      rw [List.contains_iff_mem.mpr z] at this
      cases this
    cases el : lcGoA si x0 js g t f ds env with
    | none => rw [el] at h; exact h.elim
    | some p =>
    obtain ⟨xsF, eF⟩ := p
    rw [el] at h
    have h : PoE K mg W F H fp σ Q (.ok (.l xsF) eF) := h
    have s0 := Stp.rfl' rs
    have o0 := o
    intro D hD
    have st0 := Stp.newOwn (o := .lst []) s0.rs hD
    have ow0 : Ows K F (upd H D (.lst [])) (wipe σ js) env fp := by
      have o1 := o0.mono st0.inc (H' := upd H D (.lst [])) fun a q => upd_ne fun z => (rs.own a q).2 (z ▸ hD)
      refine o1.only (by rw [wipe_length]; exact o0.len) fun i => ?_
      by_cases hj : i ∈ js
      · exact (hol_Hol hh.1 i hj).imp_right .inl
      · exact .inr (.inr ⟨rfl, wipe_out hj⟩)
    refine ⟨fun i m H1 => m = ds.length - i ∧ i ≤ ds.length ∧ ∃ F1 e1 f1 fa xs vs rest, Stp F H fp F1 H1 (Un2 (Un2 (fun b => b = D) fa) f1) ∧ ¬ fa D ∧ ¬ f1 D ∧ Dj fa f1 ∧ H1 D = some (.lst vs) ∧ Ows K F1 H1 (vs.map some) xs fa ∧ Ows K F1 H1 (wipe σ js) e1 f1 ∧ Hol js e1 ∧ Inc F F1 ∧ xs.length ≤ i ∧
      lcGoA si x0 js g t f (ds.drop i) e1 = some (rest, eF) ∧ xsF = xs ++ rest, ⟨_, rfl, Nat.zero_le _, F, env, fp, NoFp, [], [], xsF, (s0.tr st0).less fun a q => q.elim (fun q => q.elim .inl False.elim) .inr, id, fun z => (rs.own D z).2 hD, dj0, upd_same, .nil, ow0, hol_Hol hh.1, Inc.rfl', Nat.le_refl _, el, rfl⟩, ?_⟩
    rintro i m H1 ⟨hm, hle, F1, e1, f1, fa, xs, vs, rest, s1, na, nf, daf, hl, oa, o1, hol1, in1, hxl, eg, ex⟩
    have own1 : ∀ a, Un2 (Un2 (fun b => b = D) fa) f1 a → F1 a = none ∧ H1 a ≠ none := s1.rs.own
    by_cases hl0 : lk e1 si = some x0
    case neg =>
      have : lcGoA si x0 js g t f (ds.drop i) e1 = none := by
        cases ds.drop i with
        | nil => unfold lcGoA; exact if_neg hl0
        | cons => unfold lcGoA; exact if_neg hl0
      rw [this] at eg; cases eg
    obtain ⟨jg, jstop, jy⟩ := jy0 F1 H1 _ e1 f1 s1.rs.sub o1 hsi hl0 i
    by_cases hi : i < ds.length
    · refine .inr ⟨jg hi, ?_⟩
      have ed : ds.drop i = ds[i] :: ds.drop (i + 1) := List.drop_eq_getElem_cons hi
      rw [ed] at eg
      unfold lcGoA at eg
      rw [if_pos hl0] at eg
      cases q : g (.p ds[i]) e1 with
      | none => rw [q] at eg; cases eg
      | some e2 =>
      rw [q] at eg
      dsimp only at eg
      refine ⟨fun H2 => ∃ F1 e1 f1 fa xs vs rest, Stp F H fp F1 H2 (Un2 (Un2 (fun b => b = D) fa) f1) ∧ ¬ fa D ∧ ¬ f1 D ∧ Dj fa f1 ∧ H2 D = some (.lst vs) ∧ Ows K F1 H2 (List.map some vs) xs fa ∧ Ows K F1 H2 (wipe σ js) e1 f1 ∧ Hol js e1 ∧ Inc F F1 ∧ xs.length ≤ i + 1 ∧
        lcGoA si x0 js g t f (ds.drop (i + 1)) e1 = some (rest, eF) ∧ xsF = xs ++ rest, fun H2 h2 => ⟨ds.length - (i + 1), by omega, rfl, hi, h2⟩, fun x H' hy => ?_⟩
      obtain ⟨F2, s2, wx⟩ := jy ds[i] (List.getElem?_eq_getElem hi) x H' hy
      have s3 := (s2.frame (g := Un2 (Un2 (fun b => b = D) fa) f1) dj0' own1)
      have s4 : Stp F H fp F2 H' (Un2 (Un2 (fun b => b = D) fa) f1) := s1.tr ((s3.from fun a z => z.elim False.elim id).less fun a z => .inr z)
      have keep2 : ∀ a, Un2 (Un2 (fun b => b = D) fa) f1 a → H' a = H1 a := fun a z => (s2.keep a id (own1 a z).2).1
      have o2 := o1.mono s2.inc fun a z => keep2 a (.inr z)
      have oa2 := oa.mono s2.inc fun a z => keep2 a (.inl (.inr z))
      have hl2 := (keep2 D (.inl (.inl rfl))).trans hl
      refine ⟨F2, e1, NoFp, f1, .p ds[i], e2, ⟨s4.rs.sub, fun a z => z.elim False.elim fun z => s4.rs.own a (.inr z)⟩, dj0, .p wx, o2, q, fun σ2 f3 l3 o3 b3 => ⟨wipe_eq hn b3, ?_⟩⟩
      have l3' : ∀ a, f3 a → f1 a := fun a z => (l3 a z).elim False.elim id
      have back : ∀ {F5 H5 e5 f5}, Ows K F5 H5 σ2 e5 f5 → Ows K F5 H5 (wipe σ js) (clr js e5) f5 := fun {F5 H5 e5 f5} o5 => by
        refine (o5.clr (js := js)).only (by rw [← wipe_eq hn b3, wipe_length]; exact (o5.clr (js := js)).len) fun i => ?_
        by_cases hj : i ∈ js
        · exact (clr_Hol js e5 i hj).imp_right .inl
        · refine .inr (.inr ⟨rfl, ?_⟩)
          rw [← wipe_eq hn b3, wipe_out hj]
      have own2 : ∀ a, Un2 (fun b => b = D) fa a → F2 a = none ∧ H' a ≠ none := fun a z => s4.rs.own a (.inl z)
      have djf : Dj (Un2 (fun b => b = D) fa) f3 := fun a z z2 => z.elim (fun z => nf (z ▸ l3' a z2)) fun z => daf a z (l3' a z2)
      cases qt : t e2 with
      | st => rw [qt] at eg; cases eg
      | ex C y e3 => rw [qt] at eg; cases eg
      | ok b e3 =>
      refine ⟨F2, e2, f3, ⟨s4.rs.sub, fun a z => s4.rs.own a (.inr (l3' a z))⟩, o3, ?_⟩
      rw [qt] at eg ⊢
      intro F5 H5 f5 s5 o5
      have s5f := s5.frame djf own2
      have s6 : Stp F H fp F5 H5 (Un2 (Un2 (fun b => b = D) fa) f5) := s4.tr ((s5f.from fun a z => z.elim (fun z => .inr (l3' a z)) .inl).less fun a z => z.elim .inr .inl)
      have keep5 : ∀ a, Un2 (fun b => b = D) fa a → H5 a = H' a := fun a z => (s5.keep a (djf a z) (own2 a z).2).1
      have oa5 := oa2.mono s5.inc fun a z => keep5 a (.inr z)
      have hl5 := (keep5 D (.inl rfl)).trans hl2
      have nD5 : ¬ f5 D := fun z => s5.dj djf (fun a z => (own2 a z).2) D (.inl rfl) z
      have daf5 : Dj fa f5 := fun a z => s5.dj djf (fun a z => (own2 a z).2) a (.inr z)
      cases b with
      | false =>
        rw [if_neg Bool.false_ne_true]
        exact ⟨F5, clr js e3, f5, fa, xs, vs, rest, s6, na, nD5, daf5, hl5, oa5, back o5, clr_Hol js e3, (in1.tr s2.inc).tr s5.inc, by omega, eg, ex⟩
      | true =>
        rw [if_pos rfl]
        dsimp only at eg
        cases qf : f e3 with
        | st => rw [qf] at eg; cases eg
        | ex C y e4 => rw [qf] at eg; cases eg
        | ok x e4 =>
        rw [qf] at eg
        dsimp only at eg
        cases qr : lcGoA si x0 js g t f (ds.drop (i + 1)) (clr js e4) with
        | none => rw [qr] at eg; cases eg
        | some pr =>
        rw [qr] at eg
        have eg : some (x :: pr.1, pr.2) = some (rest, eF) := eg
        have er : rest = x :: pr.1 := (congrArg Prod.fst (Option.some.inj eg)).symm
        have ef : pr.2 = eF := congrArg Prod.snd (Option.some.inj eg)
        refine ⟨F5, e3, f5, ⟨s6.rs.sub, fun a z => s6.rs.own a (.inr z)⟩, o5, ?_⟩
        rw [qf]
        intro y F7 H7 fy f7 s7 dj7 w7 o7
        have own5 : ∀ a, Un2 (fun b => b = D) fa a → F5 a = none ∧ H5 a ≠ none := fun a z => s6.rs.own a (.inl z)
        have dj5 : Dj (Un2 (fun b => b = D) fa) f5 := fun a z => z.elim (fun z => z ▸ nD5) fun z => daf5 a z
        have s7f := s7.frame dj5 own5
        have s8 : Stp F H fp F7 H7 (Un2 (Un2 fy f7) (Un2 (fun b => b = D) fa)) := s6.tr (s7f.from fun a z => z.elim .inr .inl)
        have keep7 : ∀ a, Un2 (fun b => b = D) fa a → H7 a = H5 a := fun a z => (s7.keep a (dj5 a z) (own5 a z).2).1
        have oa7 := oa5.mono s7.inc fun a z => keep7 a (.inr z)
        have hl7 := (keep7 D (.inl rfl)).trans hl5
        have d7 := s7.dj dj5 fun a z => (own5 a z).2
        have nDy : ¬ fy D := fun z => d7 D (.inl rfl) (.inl z)
        have nD7 : ¬ f7 D := fun z => d7 D (.inl rfl) (.inr z)
        have lv : vs.length = xs.length := ows_len oa
        refine ⟨vs, hl7, szlt (by omega), ?_⟩
        have stp := Stp.put (o := .lst (vs ++ [y])) s8.rs (a := D) (.inr (.inl rfl))
        have oA := Ows.app (Ows.one w7) oa7 (fun a z z2 => d7 a (.inr z2) (.inl z))
        rw [show List.map some vs ++ [some y] = List.map some (vs ++ [y]) by simp] at oA
        have oA' := oA.mono stp.inc (H' := upd H7 D (.lst (vs ++ [y]))) fun a z => upd_ne fun e => z.elim (fun z => na (e ▸ z)) fun z => nDy (e ▸ z)
        have o7' := o7.mono stp.inc (H' := upd H7 D (.lst (vs ++ [y]))) fun a z => upd_ne fun e => nD7 (e ▸ z)
        refine ⟨F7, clr js e4, f7, Un2 fa fy, xs ++ [x], vs ++ [y], pr.1, (s8.tr stp).less fun a z => ?_, fun z => z.elim na nDy, nD7, fun a z => z.elim (fun z z2 => d7 a (.inr z) (.inr z2)) (dj7 a), upd_same, oA', back o7', clr_Hol js e4, ((in1.tr s2.inc).tr s5.inc).tr s7.inc, by simp; omega, by rw [qr, ← ef], by rw [ex, er]; simp⟩
        rcases z with (z | z | z) | z
        · exact .inr (.inl z)
        · exact .inr (.inr z)
        · exact .inl (.inl z)
        · exact .inl (.inr z)
    · refine .inl ⟨jstop (by omega), ?_⟩
      rw [List.drop_eq_nil_of_le (by omega)] at eg
      unfold lcGoA at eg
      rw [if_pos hl0] at eg
      have er : rest = [] := (congrArg Prod.fst (Option.some.inj eg)).symm
      have ef : e1 = eF := congrArg Prod.snd (Option.some.inj eg)
      subst er ef
      rw [List.append_nil] at ex
      subst ex
      refine h (.ref D) F1 H1 (Un2 (fun b => b = D) fa) f1 s1 (fun a z z2 => z.elim (fun z => nf (z ▸ z2)) fun z => daf a z z2) (.l (.inl rfl) hl oa fun b z => ⟨.inr z, fun e => na (e ▸ z)⟩) (o1.only (by rw [← wipe_length σ js]; exact o1.len) fun i => ?_)
      by_cases hj : i ∈ js
      · exact (hol1 i hj).imp_right .inl
      · exact .inr (.inr ⟨rfl, (wipe_out hj).symm⟩)
theorem de_lcA {elt tg iter : Expr} {ifs : List Expr} {scope : Scope} {i : Nat} {κ fit g t f} (n : Nat) (own : List (Str × Nat)) (hc : X.calm = true) (hN : X.N.Nodup) (ok : BlkOk X.N X.env.scope scope own) (hi : DIA X W tg iter i κ fit)
    (hg : ∀ (s : Shared) (H : Hp) (C : Addr) (cl : List (Str × Addr)) (fp : List Addr), DG (X.blk s H scope (compEnvC scope cl C X.env) fp) (cpl n (own.map (·.2))) tg g)
    (ht : ∀ (s : Shared) (H : Hp) (C : Addr) (cl : List (Str × Addr)) (fp : List Addr), DTs (X.blk s H scope (compEnvC scope cl C X.env) fp) W0 ifs t)
    (he : ∀ (s : Shared) (H : Hp) (C : Addr) (cl : List (Str × Addr)) (fp : List Addr), DE (X.blk s H scope (compEnvC scope cl C X.env) fp) W0 elt f)
    (hn : X.N.length = n := by rfl) (hs : ∀ x, foldedSetIterable iter X.env x = pure x := by intro _; rfl) : DE X W (.ListComp elt [⟨tg, iter, ifs, 0⟩] scope pos) (eLcA κ i (own.map (·.2)) fit g t f) := by
  obtain ⟨⟨J, ja, h1⟩, h2⟩ := hi
  exact pe_weakI (pe_lc hc hN (PI.or h1 h2) ok hg ht he hs) fun σ H Q hl => lcA_core ja i (by omega)
theorem ds_setLcA {elt tg iter : Expr} {ifs : List Expr} {scope : Scope} {i : Nat} {κ fit g t f} {B : List Nat} (k : Nat) {y : Str} {py spos : Pos} (n : Nat) (own : List (Str × Nat)) (hc : X.calm = true) (hN : X.N.Nodup) (ok : BlkOk X.N X.env.scope scope own) (hi : DIA X W tg iter i κ fit)
    (hg : ∀ (s : Shared) (H : Hp) (C : Addr) (cl : List (Str × Addr)) (fp : List Addr), DG (X.blk s H scope (compEnvC scope cl C X.env) fp) (cpl n (own.map (·.2))) tg g)
    (ht : ∀ (s : Shared) (H : Hp) (C : Addr) (cl : List (Str × Addr)) (fp : List Addr), DTs (X.blk s H scope (compEnvC scope cl C X.env) fp) W0 ifs t)
    (he : ∀ (s : Shared) (H : Hp) (C : Addr) (cl : List (Str × Addr)) (fp : List Addr), DE (X.blk s H scope (compEnvC scope cl C X.env) fp) W0 elt f)
    (hsw : swapsWith (.ListComp elt [⟨tg, iter, ifs, 0⟩] scope pos) (some (.Name y py)) spos.line X.env = pure true) (hB : k ∉ B := by decide) (hy : X.N[k]? = some y := by rfl) (hyl : X.env.scope.names.lookup y = some .local := by rfl)
    (hn : X.N.length = n := by rfl) (hs : ∀ x, foldedSetIterable iter X.env x = pure x := by intro _; rfl) : DS X W B (.Assign [.Name y py] (.ListComp elt [⟨tg, iter, ifs, 0⟩] scope pos) spos) (sSet k (eLcA κ i (own.map (·.2)) fit g t f)) := by
  obtain ⟨⟨J, ja, h1⟩, h2⟩ := hi
  exact ps_weakI (ps_setLc hc hN hy hyl hsw (PI.or h1 h2) ok hg ht he hs) fun D σ H hl h => by
    have h2 := set_core (B := B) hB h
    exact lcA_core ja i (n := n) (by omega) h2
/-- a value made by itself, frozen -/
def eFz (f : Env' → R OD) : Env' → R OD := fun env => (f env).bind fun d e => match frz d with
  | some d' => .ok (.p d') e
  | none => .ok d e
theorem de_fz {e : Expr} {f} (h : DE X W e f) : DE X W e (eFz f) := pe_weak h fun σ H Q ⟨F, env, fp, rs, o, q⟩ => by
  refine ⟨F, env, fp, rs, o, ?_⟩
  unfold eFz at q
  cases e0 : f env with
  | st => rw [e0] at q; exact q.elim
  | ex C x e' => rw [e0] at q; exact q
  | ok d e' =>
    rw [e0, R.bind_ok] at q
    cases e1 : frz d with
    | none => rw [e1] at q; exact q
    | some d' =>
      rw [e1] at q
      intro v F' H' fv fp' s dj w o'
      have st := Stp.freeze s.rs dj
      refine q v (DL.fz F' H' fv) H' NoFp fp' ((s.tr st).less fun a z => z.elim False.elim fun z => z) (fun _ z => z.elim) (.p (w.fz s.rs.sub (fun _ z => z) e1)) (o'.mono st.inc fun _ _ => rfl)
end
end DL

namespace DL
variable {K : PySem.W.Frag}
open PySem PySem.Spec PyProof.Rows L2
/-! ### a method on an item of a name's list or tuple: the whole is held apart while the arguments are worked out -/
def prtO : OD → Option (List OD)
  | .l xs => some xs
  | .t xs => some xs
  | _ => none
def reOD : OD → List OD → OD
  | .l _, xs => .l xs
  | _, xs => .t xs
/-- the parts of a whole -/
def Whole (F H : Hp) (g : Fp) (x : OD) (c : Addr) (vs : List V) (gx : Fp) : Prop := ((∃ xs, x = .t xs) ∧ F c = some (.tup vs)) ∨ ((∃ xs, x = .l xs) ∧ g c ∧ H c = some (.lst vs) ∧ ¬ gx c)
theorem Ow.whole {F H : Hp} {v x xs} {g : Fp} (w : Ow K F H v x g) (e : prtO x = some xs) : ∃ c vs gx, v = .ref c ∧ Ows K F H (vs.map some) xs gx ∧ (∀ b, gx b → g b) ∧ Whole F H g x c vs gx := by
  cases w with
  | h => cases e
  | p => cases e
  | sc => cases e
  | er => cases e
  | ob => cases e
  | fo => cases e
  | dc => cases e
  | l a b c d => cases e; exact ⟨_, _, _, rfl, c, fun b z => (d b z).1, .inr ⟨⟨_, rfl⟩, a, b, fun z => (d _ z).2 rfl⟩⟩
  | t a b => cases e; exact ⟨_, _, _, rfl, b, fun _ z => z, .inl ⟨⟨_, rfl⟩, a⟩⟩
theorem Whole.re {F H H' : Hp} {g gx gx' : Fp} {x : OD} {c : Addr} {vs : List V} {xs' : List OD} (h : Whole F H g x c vs gx) (k : g c → H' c = H c) (o : Ows K F H' (vs.map some) xs' gx') (n : ∀ b, gx' b → g b) (nc : (∃ xs, x = .l xs) → ¬ gx' c) : Ow K F H' (.ref c) (reOD x xs') g := by
  rcases h with ⟨⟨xs, rfl⟩, h⟩ | ⟨⟨xs, rfl⟩, gc, h, _⟩
  · exact .t h (o.weak n)
  · exact .l gc ((k gc).trans h) o fun b z => ⟨n b z, fun e => nc ⟨_, rfl⟩ (e ▸ z)⟩
def eMutI (i : Nat) (k : Int) (g : Mu) (f : Env' → R (List OD)) : Env' → R OD := fun env => match lk env i with
  | none => .st
  | some x => match prtO x with
    | none => .st
    | some xs => match ixN xs.length k with
      | none => .st
      | some j => match xs[j]? with
        | some (.l ys) => (f (env.set i .h)).bind fun zs e => match g ys zs with
          | some (res, ys') => .ok res (e.set i (reOD x (xs.set j (.l ys'))))
          | none => .st
        | _ => .st
theorem mutI_core {W : WX} {mg : Mg} {i : Nat} {k : Int} {r g f} {tb : TE} (hs : MuS K r g) (htb : ∀ σ H Q, Q (.int k) H → tb σ H Q) {σ : L2.St} {H : Hp} {Q : VK} : dTE K mg W (eMutI i k g f) σ H Q → tBM K "list" r (tOp (rIx K) (tVar i) tb) (dTA K mg W f) σ H Q := fun ⟨F, env, fp, rs, o, h⟩ => by
  unfold eMutI at h
  cases e0 : lk env i with
  | none => rw [e0] at h; exact h.elim
  | some x =>
  rw [e0] at h
  dsimp only at h
  cases e1 : prtO x with
  | none => rw [e1] at h; exact h.elim
  | some xs =>
  rw [e1] at h
  dsimp only at h
  cases e2 : ixN xs.length k with
  | none => rw [e2] at h; exact h.elim
  | some j =>
  rw [e2] at h
  dsimp only at h
  cases e3 : xs[j]? with
  | none => rw [e3] at h; exact h.elim
  | some y =>
  rw [e3] at h
  cases y with
  | l ys =>
    dsimp only at h
    obtain ⟨n1, n2⟩ := lk_some e0
    obtain ⟨v, g1, g2, hv, w0, orest, l1, l2, dg⟩ := o.get n1 n2
    obtain ⟨c, vs, gx, rfl, ox, lx, wh⟩ := w0.whole e1
    obtain ⟨u, k1, k2, hu, wu, _, m1, _, _⟩ := ox.get e3 (fun z => nomatch z)
    have vl : vs.length = xs.length := ows_len ox
    rw [List.getElem?_map] at hu
    have hu' : vs[j]? = some u := by
      cases q : vs[j]? with
      | none => rw [q] at hu; cases hu
      | some z => rw [q] at hu; cases hu; rfl
    have at_ : atI vs k = some u := by
      unfold atI
      rw [vl, e2]; exact hu'
    cases wu with
    | l fa ha wl hd =>
      rename_i a ws0 fq0
      have own1 : ∀ b, g1 b → F b = none ∧ H b ≠ none := fun b z => rs.own b (l1 b z)
      have ix : rIx K (.ref c) (.int k) H (fun x H1 => tyV K "list" x H1 ∧ dTA K mg W f σ H1 fun xs H2 => r x xs H2 Q) := by
        have q : tyV K "list" (.ref a) H ∧ dTA K mg W f σ H fun xs H2 => r (.ref a) xs H2 Q := by
          refine ⟨.inl ⟨rfl, _, SqL.of ha⟩, ?_⟩
          have st0 : Stp F H fp F H g2 := (Stp.rfl' rs).less l2
          refine seqA st0 (fun _ q => q) orest (fun h => h) PoE.ex_ h fun zs e' vz F1 H1 fv f1 s1 dj1 w1 o1 h1 => ?_
          cases eg : g ys zs with
          | none => rw [eg] at h1; exact h1.elim
          | some p =>
            obtain ⟨res, ys'⟩ := p
            rw [eg] at h1
            dsimp only at h1
            -- the whole stands as it was
            have keep1 : ∀ b, g1 b → H1 b = H b := fun b z => (s1.keep b (dg b z) (own1 b z).2).1
            have d1 : Dj g1 (Un2 fv f1) := s1.dj dg fun b z => (own1 b z).2
            have sf := s1.frame dg own1
            have ox1 : Ows K F1 H1 (vs.map some) xs gx := ox.mono s1.inc fun b z => keep1 b (lx b z)
            have wh1 : Whole F1 H1 g1 x c vs gx := wh.imp (fun ⟨p, q⟩ => ⟨p, s1.inc _ _ q⟩) fun ⟨p, q, z, t⟩ => ⟨p, q, (keep1 c q).trans z, t⟩
            obtain ⟨u1, q1, q2, hu1, wu1, or1, m1', m2', md'⟩ := ox1.get e3 (fun z => nomatch z)
            rw [List.getElem?_map, hu'] at hu1
            cases hu1
            cases wu1 with
            | l fa1 ha1 wl1 hd1 =>
              rename_i ws fq
              have ga : g1 a := lx a (m1' a fa1)
              have dqv : Dj fq fv := fun b z z2 => d1 b (lx b (m1' b (hd1 b z).1)) (.inl z2)
              refine hs F1 H1 a ws ys vz zs fq fv res ys' Q s1.rs.sub ha1 wl1 w1 dqv eg fun ws' t f3 f4 o3 w4 d34 l3 l4 => ?_
              have na3 : ∀ b, Un2 fq fv b → b ≠ a := fun b z e => z.elim (fun z => (hd1 b z).2 e) fun z => d1 a ga (.inl (e ▸ z))
              have st := Stp.put (o := .lst ws') sf.rs (a := a) (.inr ga)
              have up : ∀ b, b ≠ a → upd H1 a (.lst ws') b = H1 b := fun b e => upd_ne e
              have o3' := o3.mono st.inc (H' := upd H1 a (.lst ws')) fun b z => up b (na3 b (l3 b z))
              have w4' := w4.mono st.inc (H' := upd H1 a (.lst ws')) fun b z => up b (na3 b (l4 b z))
              have or' := or1.mono st.inc (H' := upd H1 a (.lst ws')) fun b z => up b fun e => md' a fa1 (e ▸ z)
              have oe := o1.mono st.inc (H' := upd H1 a (.lst ws')) fun b z => up b fun e => d1 a ga (.inr (e ▸ z))
              have wn : Ow K F1 (upd H1 a (.lst ws')) (.ref a) (.l ys') (Un2 (fun b => b = a) f3) := .l (.inl rfl) upd_same o3' fun b z => ⟨.inr z, na3 b (l3 b z)⟩
              have dn : Dj (Un2 (fun b => b = a) f3) q2 := fun b z z2 => z.elim (fun e => md' a fa1 (e ▸ z2)) fun z => (l3 b z).elim (fun z => md' b (hd1 b z).1 z2) fun z => d1 b (lx b (m2' b z2)) (.inl z)
              have op := Ows.put (i := j) wn or' (by rw [List.getElem?_map, hu']; rfl) dn
              rw [List.set_set] at op
              -- the whole again: what it holds now
              let G : Fp := fun b => Un2 f3 g1 b ∧ ¬ f4 b
              have q2f4 : ∀ b, q2 b → ¬ f4 b := fun b z z4 => (l4 b z4).elim (fun z => md' b (hd1 b z).1 ‹_›) fun z => d1 b (lx b (m2' b ‹_›)) (.inl z)
              have wo : Ow K F1 (upd H1 a (.lst ws')) (.ref c) (reOD x (xs.set j (.l ys'))) G := by
                have whE : Whole F1 H1 G x c vs gx := wh1.imp (fun z => z) fun ⟨p, q, z, t⟩ => ⟨p, ⟨.inr q, fun z4 => (l4 c z4).elim (fun z => t (m1' c (hd1 c z).1)) fun z => d1 c q (.inl z)⟩, z, t⟩
                refine whE.re (fun _ => ?_) op (fun b z => ?_) fun hx z => ?_
                · rcases wh1 with ⟨_, hF⟩ | ⟨_, gc, _, nc⟩
                  · exact up c fun e => by
                      have := (s1.rs.sub _ _ hF)
                      rw [e, ha1] at this; cases this
                  · exact up c fun e => nc (e ▸ m1' a fa1)
                · rcases z with (z | z) | z
                  · exact ⟨.inr (z ▸ ga), fun z4 => na3 b (l4 b z4) z⟩
                  · exact ⟨.inl z, fun z4 => d34 b z z4⟩
                  · exact ⟨.inr (lx b (m2' b z)), q2f4 b z⟩
                · rcases wh1 with ⟨⟨_, e⟩, _⟩ | ⟨_, gc, _, nc⟩
                  · obtain ⟨_, e'⟩ := hx; rw [e] at e'; cases e'
                  · rcases z with (z | z) | z
                    · exact nc (z ▸ m1' a fa1)
                    · exact (l3 c z).elim (fun z => nc (m1' c (hd1 c z).1)) fun z => d1 c gc (.inl z)
                    · exact nc (m2' c z)
              have up2 : ∀ b, Un2 fq fv b → ¬ f1 b := fun b z z2 => z.elim (fun z => d1 b (lx b (m1' b (hd1 b z).1)) (.inr z2)) fun z => dj1 b z z2
              have dw : Dj G f1 := fun b z z2 => z.1.elim (fun z => up2 b (l3 b z) z2) fun z => d1 b z (.inr z2)
              have hold : Ows K F1 (upd H1 a (.lst ws')) σ (e'.set i (reOD x (xs.set j (.l ys')))) (Un2 G f1) := Ows.put wo oe hv dw
              have total : Stp F H fp F1 (upd H1 a (.lst ws')) (Un2 (Un2 fv f1) g1) := ((Stp.rfl' rs).less (fun b (z : Un2 g2 g1 b) => z.elim (l2 b) (l1 b))).tr (sf.tr st)
              have up3 : ∀ b, Un2 fq fv b → Un2 (Un2 fv f1) g1 b := fun b z => z.elim (fun z => .inr (lx b (m1' b (hd1 b z).1))) fun z => .inl (.inl z)
              refine h1 t F1 _ f4 (Un2 G f1) (total.less fun b z => ?_) (fun b z z2 => ?_) w4' hold
              · rcases z with z | (z | z)
                · exact up3 b (l4 b z)
                · exact z.1.elim (fun z => up3 b (l3 b z)) .inr
                · exact .inl (.inr z)
              · rcases z2 with z2 | z2
                · exact z2.2 z
                · exact up2 b (l4 b z) z2
        rcases wh with ⟨_, hF⟩ | ⟨_, _, hH, _⟩
        · exact .inr (.inl ⟨c, vs, k, .ref a, rfl, rfl, SqT.of (rs.sub _ _ hF), at_, q⟩)
        · exact .inl ⟨c, vs, k, .ref a, rfl, rfl, SqL.of hH, at_, q⟩
      exact ⟨.ref c, hv, htb _ _ _ ix⟩
  | _ => exact h.elim
section
variable {X : Cx} {W : WX} {pos : Pos}
/-- a whole number, written -/
structure Lit (X : Cx) (e : Expr) (k : Int) : Prop where
  ex : ∃ tb, PE X e tb ∧ ∀ σ H (Q : VK), Q (.int k) H ↔ tb σ H Q
  pl : PlainIx e
theorem lit_nat {k : Int} {n : Nat} {p : Pos} : Lit X (.Constant (.int k) n p) k := ⟨⟨_, pe_int, fun _ _ _ => Iff.rfl⟩, fun _ _ => rfl⟩
theorem lit_neg {k : Int} {n : Nat} {p p2 : Pos} : Lit X (.UnaryOp .USub (.Constant (.int k) n p) p2) (-k) := ⟨⟨_, pe_un un_neg pe_int, fun _ _ _ => ⟨fun h => ⟨k, rfl, h⟩, fun ⟨j, e, h⟩ => by cases e; exact h⟩⟩, fun _ _ => rfl⟩
theorem de_mutI (i : Nat) (k : Int) {x name : Str} {id : String} {r g f} {ie e : Expr} {es : List Expr} {p apos ipos cpos : Pos} (hk : Lit X ie k) (slot : Slot "list" name id) (hty : typeOf (.builtin id) = pure (.type "method_descriptor")) (hm : MtR X id r) (hs : MuS X.K r g) (ha : DA X W (e :: es) f)
    (hN : X.N[i]? = some x := by rfl) (hv : Vis X.env.scope x := by first | exact Or.inl rfl | exact Or.inr (Or.inl rfl) | exact Or.inr (Or.inr rfl)) (hd : (x == ("__debug__" : Str)) = false := by decide) (hcd : (x == ("__classdict__" : Str)) = false := by decide)
    (hbase : attributeBase (.Subscript (.Name x p) ie ipos) name X.env (eval (.Subscript (.Name x p) ie ipos) X.env) = eval (.Subscript (.Name x p) ie ipos) X.env := by rfl)
    (hfew : ((backTo cpos (starEach (e :: es) X.env)).all (fun x => !x.1) && (backToKw cpos (keywordEach [] X.env)).all (fun x => x.1.isSome)
      && decide ((e :: es).length + ([] : List Keyword).length + (if ([] : List Keyword).isEmpty then 0 else 1) < 30)) = true := by rfl)
    (hline : (apos.endLine == cpos.line) = true := by rfl) (hst : starEach (e :: es) X.env = (false, eval e X.env) :: starEach es X.env := by rfl) (hpl : (backTo cpos (starEach es X.env)).any (·.1) = false := by rfl) :
    DE X W (.Call (.Attribute (.Subscript (.Name x p) ie ipos) name apos) (e :: es) [] cpos) (eMutI i k g f) := by
  obtain ⟨⟨tb, h1, h2⟩, h3⟩ := hk
  exact pe_weak (pe_bm PySem.F.plainAttrs_list slot hty hm (pe_ix ix_seq (pe_var hN hv hd hcd) h1 h3) ha hbase hfew hline hst hpl) fun _ _ _ => mutI_core hs fun σ H Q => (h2 σ H Q).1
theorem de_mutI0 (i : Nat) (k : Int) {x name : Str} {id : String} {r g} {ie : Expr} {p apos ipos cpos : Pos} (hk : Lit X ie k) (slot : Slot "list" name id) (hty : typeOf (.builtin id) = pure (.type "method_descriptor")) (hm : MtR X id r) (hs : MuS X.K r g)
    (hN : X.N[i]? = some x := by rfl) (hv : Vis X.env.scope x := by first | exact Or.inl rfl | exact Or.inr (Or.inl rfl) | exact Or.inr (Or.inr rfl)) (hd : (x == ("__debug__" : Str)) = false := by decide) (hcd : (x == ("__classdict__" : Str)) = false := by decide)
    (hbase : attributeBase (.Subscript (.Name x p) ie ipos) name X.env (eval (.Subscript (.Name x p) ie ipos) X.env) = eval (.Subscript (.Name x p) ie ipos) X.env := by rfl) (hline : (apos.endLine == cpos.line) = true := by rfl) :
    DE X W (.Call (.Attribute (.Subscript (.Name x p) ie ipos) name apos) [] [] cpos) (eMutI i k g aNil) := by
  obtain ⟨⟨tb, h1, h2⟩, h3⟩ := hk
  refine pe_weak (pe_bm0 PySem.F.plainAttrs_list slot hty hm (pe_ix ix_seq (pe_var hN hv hd hcd) h1 h3) hbase hline) fun σ H Q h => ?_
  obtain ⟨v, hv, c⟩ := mutI_core (K := X.K) (tb := tb) hs (fun σ H Q => (h2 σ H Q).1) h
  refine ⟨v, hv, (h2 _ _ _).1 ?_⟩
  have c := (h2 _ _ _).2 c
  have go : ∀ u H1, (tyV X.K "list" u H1 ∧ dTA X.K X.mg W aNil σ H1 fun xs H2 => r u xs H2 Q) → tyV X.K "list" u H1 ∧ r u [] H1 Q := fun u H1 ⟨a, F, env, fp, rs, o, b⟩ => ⟨a, b [] F H1 NoFp fp (Stp.id0 rs) dj0 .nil o⟩
  rcases c with ⟨p, xs, n, w, a1, a2, a3, a4, a5⟩ | ⟨p, xs, n, w, a1, a2, a3, a4, a5⟩ | ⟨z, n, w, a1, a2, a3, a4, a5⟩
  · exact .inl ⟨p, xs, n, w, a1, a2, a3, a4, go _ _ a5⟩
  · exact .inr (.inl ⟨p, xs, n, w, a1, a2, a3, a4, go _ _ a5⟩)
  · exact .inr (.inr ⟨z, n, w, a1, a2, a3, a4, go _ _ a5⟩)
/-- len(x[k]) of an item that is a list of its own -/
def eLenI (i : Nat) (k : Int) : Env' → R OD := fun env => match lk env i with
  | none => .st
  | some x => match prtO x with
    | none => .st
    | some xs => match ixN xs.length k with
      | none => .st
      | some j => match xs[j]? with
        | some (.l ys) => .ok (.p (.int ys.length)) env
        | _ => .st
theorem de_lenI (i : Nat) (k : Int) {x : Str} {ie : Expr} {p p1 ip : Pos} (hk : Lit X ie k) (hg : Gl X "len") (hm : X.mg "len" = none)
    (hN : X.N[i]? = some x := by rfl) (hv : Vis X.env.scope x := by first | exact Or.inl rfl | exact Or.inr (Or.inl rfl) | exact Or.inr (Or.inr rfl)) (hd : (x == ("__debug__" : Str)) = false := by decide) (hcd : (x == ("__classdict__" : Str)) = false := by decide)
    (he : starEach [.Subscript (.Name x p1) ie ip] X.env = (false, eval (.Subscript (.Name x p1) ie ip) X.env) :: starEach [] X.env := by rfl) (hpl : (backTo pos (starEach [] X.env)).any (·.1) = false := by rfl) :
    DE X W (.Call (.Name "len" p) [.Subscript (.Name x p1) ie ip] [] pos) (eLenI i k) := by
  obtain ⟨⟨tb, h1, h2⟩, h3⟩ := hk
  refine pe_weak (pe_callB call_len hg hm PySem.boot_len (pa_cons (pe_ix ix_seq (pe_var hN hv hd hcd) h1 h3) pa_nil he) (by decide) (by decide) he hpl) fun σ H Q ⟨F, env, fp, rs, o, h⟩ => ?_
  unfold eLenI at h
  cases e0 : lk env i with
  | none => rw [e0] at h; exact h.elim
  | some x =>
  rw [e0] at h
  dsimp only at h
  cases e1 : prtO x with
  | none => rw [e1] at h; exact h.elim
  | some xs =>
  rw [e1] at h
  dsimp only at h
  cases e2 : ixN xs.length k with
  | none => rw [e2] at h; exact h.elim
  | some j =>
  rw [e2] at h
  dsimp only at h
  cases e3 : xs[j]? with
  | none => rw [e3] at h; exact h.elim
  | some y =>
  rw [e3] at h
  cases y with
  | l ys =>
    obtain ⟨n1, n2⟩ := lk_some e0
    obtain ⟨v, g1, g2, hv, w0, _, _, _, _⟩ := o.get n1 n2
    obtain ⟨c, vs, gx, rfl, ox, _, wh⟩ := w0.whole e1
    obtain ⟨u, k1, k2, hu, wu, _, _, _, _⟩ := ox.get e3 (fun z => nomatch z)
    have vl : vs.length = xs.length := ows_len ox
    rw [List.getElem?_map] at hu
    have hu' : vs[j]? = some u := by
      cases q : vs[j]? with
      | none => rw [q] at hu; cases hu
      | some z => rw [q] at hu; cases hu; rfl
    have at_ : atI vs k = some u := by
      unfold atI
      rw [vl, e2]; exact hu'
    cases wu with
    | l fa ha wl hd =>
      rename_i a ws0 fq0
      have q : Q (.int (ws0.length : Nat)) H := by
        rw [show (ws0.length : Int) = (ys.length : Int) by rw [ows_len wl]]
        exact h (.int (ys.length : Nat)) F H NoFp fp (Stp.id0 rs) dj0 (.p (.int _)) o
      refine ⟨.ref c, hv, (h2 _ _ _).1 ?_⟩
      have fin : ∃ x n, [V.ref a] = [x] ∧ LenV X.K x H n ∧ Q (.int n) H := ⟨.ref a, ws0.length, rfl, .inl ⟨_, SqL.of ha, rfl⟩, q⟩
      rcases wh with ⟨_, hF⟩ | ⟨_, _, hH, _⟩
      · exact .inr (.inl ⟨c, vs, k, .ref a, rfl, rfl, SqT.of (rs.sub _ _ hF), at_, fin⟩)
      · exact .inl ⟨c, vs, k, .ref a, rfl, rfl, SqL.of hH, at_, fin⟩
  | _ => exact h.elim
end
end DL

/-! errors: raised, caught, kept -/
namespace DL
open PySem PySem.Spec PyProof.Rows L2
section
variable {X : Cx} {pins : List (Addr × Obj)} {σ : L2.St} {H : Hp} {s : Shared} {a : Addr} {oe : Obj} {cls : Value} {d : Option Addr}
theorem erO_ok {P : Program} {w : World} {H : Hp} {h : Heap} (e : ∃ oe vs, h.get? a = some oe ∧ Zc cls d oe ∧ oe.data = .fields vs) : ObjOk P w H h a (erO a cls d) :=
  ⟨e, by obtain ⟨oe, _, h1, _⟩ := e; exact ⟨oe, h1⟩, fun h1 h2 ⟨oe, vs, e1, e2, e3⟩ k => ⟨oe, vs, k _ e1, e2, e3⟩⟩
/-- an object that nothing spoke of is told from here on -/
theorem adopt (I : Inv X pins σ H s) (he : ∃ oe vs, s.heap.get? a = some oe ∧ Zc cls d oe ∧ oe.data = .fields vs) (na : H a = none) (nL : a ≠ X.env.locals) (np : ∀ p ∈ X.pn ++ pins, p.1 ≠ a) (old : ∀ o, X.s_0.heap.get? a = some o → a ∈ X.ex) :
    Inv X pins σ (upd H a (erO a cls d)) s where
  ok := I.ok
  os := I.os
  bare := I.bare
  base := { keep := I.base.keep, slot := I.base.slot, there := I.base.there
            free := fun b o q n hx => by
              by_cases e : b = a
              · subst e; exact absurd (old o q) hx
              · rw [upd_ne e]; exact I.base.free b o q n hx
            tups := fun b xs q => by rw [upd_ne (ne_of_none (I.base.tups b xs q) na)]; exact I.base.tups b xs q
            frzs := fun b o u q => by rw [upd_ne (ne_of_none (I.base.frzs b o u q) na)]; exact I.base.frzs b o u q
            tbls := fun b ps q => by
              obtain ⟨m, z⟩ := I.base.tbls b ps q
              exact ⟨m, by rw [upd_ne (ne_of_none z na)]; exact z⟩ }
  loc := I.loc
  cell := I.cell
  free := by rw [upd_ne (Ne.symm nL)]; exact I.free
  freeC := fun x c e => by
    have ne : c ≠ a := fun z => by
      obtain ⟨v, o, ho, hd⟩ := I.cell x c e
      obtain ⟨oe, vs, h1, _, h3⟩ := he
      rw [z, h1] at ho; cases ho
      rw [hd] at h3; cases h3
    rw [upd_ne ne]; exact I.freeC x c e
  pin := fun p hp => by
    obtain ⟨h1, h2, h3⟩ := I.pin p hp
    exact ⟨h1, by rw [upd_ne (np p hp)]; exact h2, h3⟩
  hok := fun b o q => by
    by_cases e : b = a
    · subst e; rw [upd_same] at q; cases q; exact erO_ok he
    · rw [upd_ne e] at q
      exact (I.hok b o q).stay (fun c v _ z => z) (fun c hc => by rw [upd_ne (ne_of_none hc na)]; exact hc) (fun c xs hc => by rw [upd_ne (ne_of_none hc na)]; exact hc)
  len := I.len
end
/-- what 'except x as n' wishes, where the error stays to be spoken of -/
def wKept (K : PySem.W.Frag) (c : Value) (i : Nat) (ts : Addr → Value → Option Addr → TS) (Wout : WX) (D : Ends) : WX := fun cls d σ H =>
  ∃ b, PySem.W.exmOne K cls c = some b ∧ (b = true → ∀ a, H a = none → ts a cls d { nx := fun σ' H' => D.nx (σ'.set i none) (upd H' a (erO a cls d)), rt := fun _ _ => False, bk := fun _ _ => False, ct := fun _ _ => False } (σ.set i (some (.ref a))) H) ∧
    (b = false → Wout cls d σ H)
section
variable {X : Cx} {x n : Str} {c : Value} {i : Nat} {body suite : List Stmt} {b₀ : Stmt} {np pos pos' : Pos} {tb : WX → TS} {ts : Addr → Value → Option Addr → TS} {Wout : WX}
theorem ps_try_kept (hs : X.stack = X.env :: X.outer) (hf : X.env.frame = some X.env.locals) (hN : X.N.Nodup) (hi : X.N[i]? = some n) (hln : X.env.kindOf n = some .local) (hc : Names X x c) (tk : Takes X Wout)
    (hb : ∀ (W : WX) (pn : List (Addr × Obj)) (xe : Value → Shared → Prop), Takes (X.tr pn xe) W → PassesOwn (model X.prog X.w) X.A X.env xe → PSs (X.tr pn xe) body (tb W))
    (hsu : ∀ (a : Addr) (oe : Obj) (cls : Value) (d : Option Addr) (pn : List (Addr × Obj)), Zc cls d oe → (∃ vs, oe.data = .fields vs) → PSs (X.suite a ((a, oe) :: pn)) (b₀ :: suite) (ts a cls d)) :
    PS X (.Try body [.ExceptHandler (some (.Name x np)) (some n) (b₀ :: suite) pos'] [] [] pos) (fun D σ H => tb (wKept X.K c i ts Wout D) D σ H) := by
  refine ⟨fun pins s σ H D I h => ?_⟩
  have ok := I.ok
  have fr0 : X.A.frames = some (X.env :: X.outer) := by rw [ok.frames, hs]
  have lo : Loc X.env.scope n := .inl hln
  refine wpAny_Try_except ?_
  refine wpAny_mono ((hb (wKept X.K c i ts Wout D) (X.pn ++ pins)
    (fun e s₁ => wpAny (model X.prog X.w) X.A (noteFrame e X.env) (fun _ s₂ => wpAny (model X.prog X.w) X.A (setFlight e none) (fun _ s₃ => wpAny (model X.prog X.w) X.A (handleBy e X.env [.ExceptHandler (some (.Name x np)) (some n) (b₀ :: suite) pos']) (SP X pins D) X.xe s₃) X.xe s₂) X.xe s₁)
    (fun u t xx => ?_) PassesOwn.looking).run [] s σ H D (I.toTry _) h) (fun f t q => ?_) (fun _ _ z => z)
  · obtain ⟨a, B, sI, _, σ', H', cls, d, rfl, J0, nb, up, sky, na, os, ag, b, hb1, yes, no⟩ := xx
    have J : Inv X pins σ' H' sI := J0.ofTry ok
    have sky1 : Sky B (X.env :: X.outer) a (Zc cls d) X.env.locals t.heap := by rw [← hs]; exact sky
    have nB : B.get? a = none := by
      rcases sky1 with z | z | z
      · exact z.2.1
      · exact z.2.1
      · exact z.2.1
    show wpAny _ X.A (noteFrame (.ref a) X.env) _ _ _
    refine Sky.land Zc.steady fr0 hf sky1 fun h3 fl3 up3 => ?_
    have J3 : Inv X pins σ' H' { t with heap := h3 } := J.landed nb fl3.1 (up.trans up3) os ag
    have ⟨oe3, vs3, he3, hz3, hd3⟩ := fl3.there
    have nfr : a ∉ frs (X.env :: X.outer) := fun hm => by
      obtain ⟨_, o, e, q⟩ := fl3.2.2.1.mem hm
      rw [he3] at e; cases e
      exact q _ hd3
    have nL : a ≠ X.env.locals := fun z => nfr (List.mem_filterMap.mpr ⟨X.env, List.mem_cons_self, by rw [hf, z]⟩)
    have nF : a ∉ X.fs := fun hm => by
      obtain ⟨e, m1, m2⟩ := List.mem_filterMap.mp hm
      exact nfr (List.mem_filterMap.mpr ⟨e, List.mem_cons_of_mem _ m1, m2⟩)
    have nI : sI.heap.get? a = none := by
      cases e : sI.heap.get? a with
      | none => rfl
      | some o => rw [nb a o e (by rw [hs]; exact nfr)] at nB; cases nB
    have npn : ∀ p ∈ X.pn ++ pins, p.1 ≠ a := fun p hp z => by
      have := (J.pin p hp).1
      rw [z, nI] at this; cases this
    have old : ∀ o, X.s_0.heap.get? a = some o → a ∈ X.ex := fun o e => Classical.byContradiction fun z => by
      obtain ⟨o', e'⟩ := J.base.there a o e z
      rw [nI] at e'; cases e'
    have S3 := J3.suite he3 hd3 na nL nF
    refine wpAny_handleBy_cons (codeAny_handlers_test ?_) (by intro q; cases q)
    have LT : PySem.W.Looks (model X.prog X.w) h3 (typeOf (.ref a)) cls := fun A Q E s k q => wpAny_typeOf_ref (k _ _ he3) (by rw [hz3.1]; exact q)
    have LM := PySem.W.exm_one (M := model X.prog X.w) J3.kIn LT hb1
    have test : ∀ {Q E : Value → Shared → Prop}, Q c { t with heap := h3 } → wpAny (model X.prog X.w) (X.A.mark (some (.ref a))) (eval (.Name x np) X.env) Q E { t with heap := h3 } := fun {Q E} q => by
      obtain ⟨g1, g2, g3 | ⟨g3, g4, g5⟩⟩ := hc
      · exact ld_glob (X := X.suite a ((a, oe3) :: (X.pn ++ pins))) S3 g1 g3 q g2
      · exact ld_blt (X := X.suite a ((a, oe3) :: (X.pn ++ pins))) S3 g1 g3 g4 q g5 g2
    refine test (LM.here ?_)
    cases b with
    | true =>
      refine codeAny_handlers_suite_as ?_
      refine HandSPX.lands_againZ fl3 fun h4 fl4 up4 => ?_
      have J4 : Inv X pins σ' H' { t with heap := h4 } := J.landed nb fl4.1 ((up.trans up3).trans up4) os ag
      obtain ⟨oe4, vs4, he4, hz4, hd4⟩ := fl4.there
      have S4 := J4.suite he4 hd4 na nL nF
      refine store_ok (X := X.suite a ((a, oe4) :: (X.pn ++ pins))) (v := .ref a) S4 hN hi lo rfl (fun s5 S5 => ?_) (.inr hln)
      refine wpAny_mono ((hsu a oe4 cls d (X.pn ++ pins) hz4 ⟨_, hd4⟩).run [] s5 _ H' _ S5 (yes rfl a na)) (fun f s6 q => ?_) (fun _ _ z => False.elim z)
      cases f with
      | next =>
        obtain ⟨σ6, H6, S6, q6⟩ := q
        have p6 := S6.pin (a, oe4) (List.mem_append_left _ List.mem_cons_self)
        exact gone_ok (adopt (S6.unsuite ok) ⟨oe4, vs4, p6.1, hz4, hd4⟩ p6.2.1 nL npn old) hN hi hln fun s7 J7 => ⟨_, _, J7, q6⟩
      | brk => obtain ⟨_, _, _, z⟩ := q; exact z.elim
      | cont => obtain ⟨_, _, _, z⟩ := q; exact z.elim
      | ret u => obtain ⟨_, _, _, _, _, z⟩ := q; exact z.elim
    | false =>
      show wpAny _ X.A (handleBy (.ref a) X.env []) _ _ _
      refine wpAny_handleBy_nil ?_
      obtain ⟨_, _, _, oe, vs, T, oT, ts', he, hz, hd, h1, hr⟩ := id fl3
      unfold PySem.passOn
      refine wpAny_bind (wpAny_field he hd h1 ?_)
      rw [if_neg (show ¬ ((Value.ref T == Value.none) = true) from by simp)]
      have fin : wpAny (model X.prog X.w) X.A (setFlight (.ref a) X.env.frame) (fun _ u => wpAny (model X.prog X.w) X.A (throw (.ref a) : Sem Flow) (SP X pins D) X.xe u) X.xe { t with heap := h3 } := by
        rw [hf]
        exact HandSPX.setFlight_upZ fl3 fun h4 hh4 up4 => wpAny_throw (tk _ _ ⟨a, B, sI, pins, σ', H', cls, d, rfl, J, nb, (up.trans up3).trans up4, .inr (.inr (by rw [hs]; exact hh4)), na, os, ag, no rfl⟩)
      first
        | exact wpAny_bind (wpAny_pure (wpAny_bind fin))
        | exact wpAny_bind fin
  · cases f with
    | next =>
      obtain ⟨σ', H', J, q⟩ := q
      exact wpAny_execs_nil ⟨σ', H', J.ofTry ok, q⟩
    | brk =>
      obtain ⟨σ', H', J, q⟩ := q
      exact ⟨σ', H', J.ofTry ok, q⟩
    | cont =>
      obtain ⟨σ', H', J, q⟩ := q
      exact ⟨σ', H', J.ofTry ok, q⟩
    | ret u =>
      obtain ⟨v, σ', H', J, r, q⟩ := q
      exact ⟨v, σ', H', J.ofTry ok, r, q⟩
end
end DL

namespace DL
open PySem PySem.Spec PyProof.Rows L2
/-- what the written part says of a class of errors -/
structure ErC (K : PySem.W.Frag) (mg : Mg) (C : Str) (Ca : Addr) : Prop where
  g : mg C = some (.ref Ca)
  n : PySem.W.nsIn K mainGlobals C = some (some (.ref Ca))
  ga : PySem.W.findIn K (.ref Ca) "__getattribute__" = some (some (.builtin "BaseException.__getattribute__"))
  gg : PySem.W.findIn K (.ref Ca) "__getattr__" = some none
  ex : PySem.W.subIn K (.ref Ca) (.type "BaseException") = some true
  cl : PySem.W.isClsIn K Ca = true
  ac : PySem.W.findIn K (.ref Ca) "__class__" = some (some (.builtin "object.__class__"))
  mo : PySem.W.mroIn K Ca (.type "object") = some true
  ty : PySem.W.typeIn K (.ref Ca) = some (.type "type")
  hd : PySem.W.hasDictIn K Ca = true
  k : PySem.W.keepIn K (.ref Ca) = true
  sp : PySem.W.specialIn K (.builtin "object.__class__") "__get__" = some (some (.builtin "getset_descriptor.__get__"))
  tk : PySem.W.takesIn K (.builtin "object.__class__") = some true
theorem kit_of {K : PySem.W.Frag} {D T : Addr} {b : Bool} (c : PySem.W.isClsIn K T = true) (t : PySem.W.typeIn K (.ref T) = some (.type "type")) (s : PySem.W.subIn K (.ref D) (.ref T) = some b) (e : D = T → b = true) : PySem.W.kitOne K (.ref D) (.ref T) = some b := by
  unfold PySem.W.kitOne
  split
  · rename_i h
    have : D = T := Value.ref.inj (beq_iff_eq.mp h)
    rw [e this]
  · unfold PySem.W.kitCls
    have c' : (PySem.W.clsIn K T).isSome = true := c
    dsimp only
    rw [if_pos (by rw [c', t]; rfl)]; exact s
theorem exm_of {K : PySem.W.Frag} {D T : Addr} {b : Bool} (x : PySem.W.subIn K (.ref T) (.type "BaseException") = some true) (c : PySem.W.isClsIn K T = true) (t : PySem.W.typeIn K (.ref T) = some (.type "type")) (s : PySem.W.subIn K (.ref D) (.ref T) = some b) : PySem.W.exmOne K (.ref D) (.ref T) = some b := by
  unfold PySem.W.exmOne PySem.W.kitCls
  have c' : (PySem.W.clsIn K T).isSome = true := c
  rw [if_pos (by rw [x]; rfl)]
  dsimp only
  rw [if_pos (by rw [c', t]; rfl)]; exact s
theorem kit_ve {K : PySem.W.Frag} {D : Addr} {b : Bool} (s : PySem.W.subIn K (.ref D) (.type "ValueError") = some b) : PySem.W.kitOne K (.ref D) (.type "ValueError") = some b := by
  unfold PySem.W.kitOne
  rw [if_neg (by intro h; have := beq_iff_eq.mp h; cases this)]
  unfold PySem.W.kitCls
  dsimp only
  rw [if_pos (by decide +kernel)]; exact s
theorem Ows.noneAt {K : PySem.W.Frag} {F H : Hp} : ∀ {us xs} {fp : Fp} (i : Nat), Ows K F H us xs fp → Ows K F H (us.set i none) (xs.set i .h) fp
  | _, _, _, _, .nil => by simpa using Ows.nil
  | _, _, _, 0, .hole t => .hole t
  | _, _, _, i + 1, .hole t => .hole (t.noneAt i)
  | _, _, _, 0, .cons a b c d e => .hole (b.weak d)
  | _, _, _, i + 1, .cons a b c d e => .cons a (b.noneAt i) c d e
section
variable {X : Cx} {W : WX} {B : List Nat}
/-! ### raise -/
def sRaise (C : Str) : Env' → Out := fun env => .ex C none env
theorem ds_raise {x m : Str} {Ca : Addr} {j : Nat} {p p2 pos pos2 : Pos} (hc : X.calm = true) (tk : Takes X W) (T : ErC X.K X.mg x Ca) (q : PySem.W.excIn X.K Ca [.type "ValueError", .type "Exception", .type "BaseException", .type "object"] "ValueError.__new__" = true) (hg : Gl X x) (hdb : (x == ("__debug__" : Str)) = false := by decide) :
    DS X W B (.Raise (some (.Call (.Name x p) [.Constant (.str m) j p2] [] pos)) none pos2) (sRaise x) :=
  ps_weak (ps_raise hc tk (pmk_own F.excBase_ValueError q T.g T.k (raises_own T.ex T.ty) hg hdb)) fun D σ H ⟨F, env, fp, r, o, h⟩ =>
    h σ F H fp (Stp.rfl' r) o Bk.id' Ca none T.g rfl
/-- an own error made with its field -/
def tMkF (Ca : Addr) (n : Str) (ta : TA) : L2.St → Hp → XK → Prop := fun σ H Q => ta σ H fun vs H1 => ∃ v, vs = [v] ∧ ∀ d, H1 d = none → Q (.ref Ca) (some d) (upd H1 d (.xd [(n, v)]))
def sRaiseF (C n : Str) (f : Env' → R OD) : Env' → Out := fun env => (f env).out fun d e => match d with
  | .p pd => .ex C (some (n, pd)) e
  | _ => .st
theorem ds_raiseF {x n : Str} {Ca : Addr} {e mk : Expr} {f} {pos2 : Pos} (hc : X.calm = true) (tk : Takes X W) (T : ErC X.K X.mg x Ca) (hm : ∀ {ta : TA}, PA X [e] ta → PMk X mk (tMkF Ca n ta)) (he : DE X W e f) (hs : starEach [e] X.env = (false, eval e X.env) :: starEach [] X.env := by rfl) :
    DS X W B (.Raise (some mk) none pos2) (sRaiseF x n f) :=
  ps_weak (ps_raise hc tk (hm (pa_cons he pa_nil hs))) fun D σ H ⟨F, env, fp, r, o, h⟩ =>
    outE r o h fun d e' v F' H' fv fp' s dj w o' h => by
      cases d with
      | p pd =>
        refine ⟨v, rfl, fun dd hd => ?_⟩
        cases w with
        | p w =>
          have st := Stp.newPure (o := .xd [(n, v)]) s.rs hd
          have o2 := o'.mono st.inc (H' := upd H' dd (.xd [(n, v)])) fun a q => upd_ne fun z => (s.rs.own a (.inr q)).2 (z ▸ hd)
          exact h σ _ _ fp' ((s.tr st).less fun _ => .inr) o2 Bk.id' Ca (some dd) T.g ⟨dd, v, rfl, upd_same, w.inc st.inc⟩
      | _ => exact h.elim
/-! ### try: .. except X as n: y = n -/
def sTry (L : List Str) (i j : Nat) (f : Env' → Out) : Env' → Out := fun env => match f env with
  | .ex C x e => if C ∈ L then .nx ((e.set i .h).set j (.er C x)) else .st
  | o => o
theorem ds_try {L : List Str} (i j : Nat) {x n y : Str} {Cp : Addr} {body : List Stmt} {f} {np p1 p2 p3 pos pos' : Pos} (hs : X.stack = X.env :: X.outer) (hf : X.env.frame = some X.env.locals) (hN : X.N.Nodup) (hi : X.N[i]? = some n) (hj : X.N[j]? = some y) (hln : X.env.kindOf n = some .local)
    (hlj : X.env.scope.names.lookup y = some .local) (hc : Names X x (.ref Cp)) (tk : Takes X W) (hij : i ≠ j) (hiB : i ∉ B) (hjB : j ∉ B)
    (hb : ∀ (W' : WX) (pn : List (Addr × Obj)) (xe : Value → Shared → Prop), Takes (X.tr pn xe) W' → PassesOwn (model X.prog X.w) X.A X.env xe → DSs (X.tr pn xe) W' B body f)
    (hL : ∀ C ∈ L, ∃ Ca, X.mg C = some (.ref Ca) ∧ PySem.W.nsIn X.K mainGlobals C = some (some (.ref Ca)) ∧ PySem.W.exmOne X.K (.ref Ca) (.ref Cp) = some true)
    (hd : (n == ("__debug__" : Str)) = false := by decide) (hcd : (n == ("__classdict__" : Str)) = false := by decide) (hv : Vis X.env.scope n := by first | exact Or.inl rfl | exact Or.inr (Or.inl rfl) | exact Or.inr (Or.inr rfl)) :
    DS X W B (.Try body [.ExceptHandler (some (.Name x np)) (some n) [.Assign [.Name y p1] (.Name n p2) p3] pos'] [] [] pos) (sTry L i j f) := by
  refine ps_weakI (ps_try_kept (i := i) (tb := fun W' => dTS X.K X.mg W' B f) (ts := fun a cls d => tAsg (tVar i) (gName j)) hs hf hN hi hln hc tk hb fun a oe cls d pn hz hv' => pss_one (ps_set hN hj (.inl hlj) (pe_var hi hv hd hcd) rfl (.inr hlj))) fun D σ H len ⟨F, env, fp, r, o, h⟩ => ?_
  refine ⟨F, env, fp, r, o, ?_⟩
  unfold sTry at h
  cases q : f env with
  | st => rw [q] at h; exact h
  | nx e => rw [q] at h; exact h
  | rt d e => rw [q] at h; exact h
  | ex C z e =>
    rw [q] at h
    replace h : PoS X.K X.mg W B F H fp σ D (if C ∈ L then .nx ((e.set i .h).set j (.er C z)) else .st) := h
    by_cases hC : C ∈ L
    case neg => rw [if_neg hC] at h; exact h.elim
    rw [if_pos hC] at h
    obtain ⟨Ca, c1, c2, c3⟩ := hL C hC
    intro σ' F' H' fp' s o' b Ca' d m fld
    obtain rfl : Ca' = Ca := by rw [c1] at m; cases m; rfl
    refine ⟨true, c3, fun _ a na => ?_, fun z => nomatch z⟩
    have hl : i < σ'.length := by
      rw [b.1, len]; exact (List.getElem?_eq_some_iff.1 hi).1
    have st := Stp.newPure (o := erO a (.ref Ca') d) s.rs na
    have o2 := o'.mono st.inc (H' := upd H' a (erO a (.ref Ca') d)) fun b q => upd_ne fun z => (s.rs.own b q).2 (z ▸ na)
    have er : ErAt X.K (upd F' a (erO a (.ref Ca') d)) a C z := ⟨Ca', d, c2, upd_same, by
      cases z with
      | none => exact fld
      | some p => obtain ⟨dd, v, e1, e2, e3⟩ := fld; exact ⟨dd, v, e1, st.inc _ _ e2, e3.inc st.inc⟩⟩
    have o3 : Ows X.K (upd F' a (erO a (.ref Ca') d)) (upd H' a (erO a (.ref Ca') d)) ((σ'.set i none).set j (some (.ref a))) ((e.set i .h).set j (.er C z)) fp' :=
      (Ows.store (g := NoFp) (Ow.er er) j (o2.noneAt i) dj0).weak fun _ z => z.elim False.elim id
    have es : ((σ'.set i (some (.ref a))).set j (some (.ref a))).set i none = (σ'.set i none).set j (some (V.ref a)) := by
      rw [List.set_comm _ _ (Ne.symm hij), List.set_set]
    have fin := h ((σ'.set i none).set j (some (.ref a))) _ _ fp' (s.tr st) o3 ((b.tr (Bk.set hiB)).tr (Bk.set hjB))
    refine ⟨.ref a, by rw [List.getElem?_set_self hl], ?_⟩
    show D.nx (((σ'.set i (some (.ref a))).set j (some (.ref a))).set i none) _
    rw [es]; exact fin
end
end DL

namespace DL
open PySem PySem.Spec PyProof.Rows L2
/-! ### isinstance of an error kept -/
theorem er_at {P : Program} {w : World} {H : Hp} {h : Heap} {a : Addr} {cls : Value} {d : Option Addr} (hok : HOk P w H h) (e : H a = some (erO a cls d)) : ∃ oe vs, h.get? a = some oe ∧ Zc cls d oe ∧ oe.data = .fields vs := by
  have x : ObjOk P w H h a (.ext fun h => ∃ oe vs, h.get? a = some oe ∧ Zc cls d oe ∧ oe.data = .fields vs) := hok a _ e
  exact x.1
/-- the error's dict, where it has one -/
def DictE (H : Hp) (d : Option Addr) : Prop := d = none ∨ ∃ dd fs, d = some dd ∧ H dd = some (.xd fs)
def rIsK (K : PySem.W.Frag) (mg : Mg) : List V → Hp → VK → Prop := fun xs H Q => ∃ (a Ca : Addr) (d : Option Addr) (C : Str) (c : V) (cv : Value) (b : Bool), xs = [.ref a, c] ∧ H a = some (erO a (.ref Ca) d) ∧ DictE H d ∧ ErC K mg C Ca ∧ (∀ u, RelV c u → u = cv) ∧ PySem.W.kitOne K (.ref Ca) cv = some b ∧ Q (.bl b) H
theorem call_isK {X : Cx} : CallR X (.builtin "isinstance") (rIsK X.K X.mg) := by
  intro pins s σ H xs us Q I r h
  obtain ⟨a, Ca, d, C, c, cv, b, rfl, ha, hd, T, hcv, e, q⟩ := h
  cases r with
  | cons rx rr =>
    cases rr with
    | cons rt rr =>
      cases rr
      cases rx
      have ec := hcv _ rt
      subst ec
      obtain ⟨oe, vs, h1, h2, h3⟩ := er_at I.hok ha
      have fin : ∀ od, PySem.W.InstAt s.heap a oe Ca od → wpAny (model X.prog X.w) X.A (call (.builtin "isinstance") [Value.ref a, _]) (EP X pins σ Q) X.xe s := fun od J =>
        PySem.W.kia_one (PySem.W.kitx_exc (od := od) T.cl T.ga T.gg T.ex T.ac T.sp T.tk T.mo) I.kIn J e (fun z => nomatch z) fun tk => ⟨.bl b, H, I.kept (t' := tk) fun _ _ z => z, rfl, q⟩
      have nc : PySem.W.notCls oe = true := by unfold PySem.W.notCls; rw [h3] <;> rfl
      rcases hd with rfl | ⟨dd, fs, rfl, hx⟩
      · exact fin none ⟨h1, h2.1, nc, by rw [h2.2]; trivial⟩
      · obtain ⟨mA, hns, hr⟩ : ObjOk X.prog X.w H s.heap dd (.xd fs) := I.hok dd _ hx
        obtain ⟨od, ho, hl⟩ := lookIn_ns hns
        exact fin (some od) ⟨h1, h2.1, nc, by rw [h2.2]; exact ho⟩
def erSub (D T : Str) : Bool := D == T || T == "PostError" || T == "ValueError"
def gIsE (L : List Str) (T : Str) : OD → Option OD
  | .er D _ => if D ∈ L then some (oB (erSub D T)) else none
  | _ => none
def eIsE (L : List Str) (T : Str) (f : Env' → R Opd) : Env' → R OD := fun env => (f env).bind fun a e => ap1 (gIsE L T) a e
section
variable {X : Cx} {W : WX} {L : List Str} {T : Str}
theorem isE_core {c : V} {cv : Value} (hcv : ∀ u, RelV c u → u = cv) (hL : ∀ D ∈ L, ∃ Da, ErC X.K X.mg D Da ∧ PySem.W.kitOne X.K (.ref Da) cv = some (erSub D T)) {F H : Hp} {v x fx d} {fp : Fp} {Q : VK} (rs : RS F H fp) (o : Ow X.K F H v x fx) (e : gIsE L T x = some d)
    (k : ∀ v' F' H' f', Stp F H NoFp F' H' f' → Ow X.K F' H' v' d f' → Q v' H') : rIsK X.K X.mg [v, c] H Q := by
  cases x with
  | er D f =>
    by_cases hD : D ∈ L
    case neg => rw [show gIsE L T (.er D f) = none from if_neg hD] at e; cases e
    rw [show gIsE L T (.er D f) = _ from if_pos hD] at e; cases e
    obtain ⟨Da, T1, T2⟩ := hL D hD
    cases o with
    | er o =>
      obtain ⟨Ca, d, n1, n2, n3⟩ := o
      obtain rfl : Ca = Da := by rw [T1.n] at n1; cases n1; rfl
      refine ⟨_, Ca, d, D, c, cv, _, rfl, rs.sub _ _ n2, ?_, T1, hcv, T2, k0 rs k (.p (.bl _))⟩
      cases f with
      | none => exact .inl n3
      | some p => obtain ⟨dd, v, e1, e2, _⟩ := n3; exact .inr ⟨dd, _, e1, rs.sub _ _ e2⟩
  | _ => cases e
theorem isE_seq {c : V} {cv : Value} {f : Env' → R Opd} (hcv : ∀ u, RelV c u → u = cv) (hL : ∀ D ∈ L, ∃ Da, ErC X.K X.mg D Da ∧ PySem.W.kitOne X.K (.ref Da) cv = some (erSub D T)) {σ : L2.St} {H : Hp} {Q : VK} (h : dTE X.K X.mg W (eIsE L T f) σ H Q) :
    tCB (rIsK X.K X.mg) (tCons (dTV X.K X.mg W f) (tCons (tC c) tNil)) σ H Q := by
  obtain ⟨F, env, fp, rs, o, h⟩ := h
  refine seqV (Stp.rfl' rs) (fun _ q => q) o (fun h => h) PoE.ex_ h fun a e1 v F1 H1 fv f1 s1 dj1 w1 o1 h1 => ?_
  unfold ap1 at h1
  cases ea : a.at e1 with
  | none => rw [ea] at h1; exact h1.elim
  | some x =>
    rw [ea] at h1
    dsimp only at h1
    cases eg : gIsE L T x with
    | none => rw [eg] at h1; exact h1.elim
    | some d =>
      rw [eg] at h1
      obtain ⟨fx, ox, lx⟩ := w1.look o1 ea
      exact isE_core hcv hL s1.rs ox eg (h1.fin s1 (fun _ q => .inr q) o1)
variable {a : Expr} {f : Env' → R Opd} {x : Str} {p p2 pos : Pos}
theorem de_isE {Ta : Addr} (hT : X.mg T = some (.ref Ta)) (hL : ∀ D ∈ L, ∃ Da, ErC X.K X.mg D Da ∧ PySem.W.kitOne X.K (.ref Da) (.ref Ta) = some (erSub D T)) (hg2 : Gl X T) (hg : Gl X "isinstance") (hm : X.mg "isinstance" = none) (ha : DV X W a f)
    (hd : (T == ("__debug__" : Str)) = false := by decide)
    (he : starEach [a, .Name T p2] X.env = (false, eval a X.env) :: starEach [.Name T p2] X.env := by rfl) (he2 : starEach [.Name T p2] X.env = (false, eval (.Name T p2) X.env) :: starEach [] X.env := by rfl) (hpl : (backTo pos (starEach [.Name T p2] X.env)).any (·.1) = false := by rfl) :
    DE X W (.Call (.Name "isinstance" p) [a, .Name T p2] [] pos) (eIsE L T f) :=
  pe_weak (pe_callB call_isK hg hm (by decide +kernel) (pa_cons ha (pa_cons (pe_glob (v := .ref Ta) hg2 hT rfl hd) pa_nil he2) he) (by decide) (by decide) he hpl) fun _ _ _ => isE_seq (c := .ref Ta) (cv := .ref Ta) (fun u h => h) hL
theorem de_isV (hL : ∀ D ∈ L, ∃ Da, ErC X.K X.mg D Da ∧ PySem.W.kitOne X.K (.ref Da) (.type "ValueError") = some true) (hg2 : Gl X "ValueError") (hm2 : X.mg "ValueError" = none) (hg : Gl X "isinstance") (hm : X.mg "isinstance" = none) (ha : DV X W a f)
    (he : starEach [a, .Name "ValueError" p2] X.env = (false, eval a X.env) :: starEach [.Name "ValueError" p2] X.env := by rfl) (he2 : starEach [.Name "ValueError" p2] X.env = (false, eval (.Name "ValueError" p2) X.env) :: starEach [] X.env := by rfl) (hpl : (backTo pos (starEach [.Name "ValueError" p2] X.env)).any (·.1) = false := by rfl) :
    DE X W (.Call (.Name "isinstance" p) [a, .Name "ValueError" p2] [] pos) (eIsE L "ValueError" f) :=
  pe_weak (pe_callB call_isK hg hm (by decide +kernel) (pa_cons ha (pa_cons (pe_bltn (v := .ty "ValueError") hg2 hm2 (by decide +kernel) rfl (by decide) (by decide)) pa_nil he2) he) (by decide) (by decide) he hpl) fun _ _ _ =>
    isE_seq (c := .ty "ValueError") (cv := .type "ValueError") (fun u h => h) fun D hD => by
      obtain ⟨Da, h1, h2⟩ := hL D hD
      refine ⟨Da, h1, ?_⟩
      rw [h2]; unfold erSub; simp
/-! ### a field of an error kept -/
def tXfK (K : PySem.W.Frag) (mg : Mg) (n : Str) (te : TE) : TE := fun σ H Q => te σ H fun x H1 => ∃ (a Ca dd : Addr) (C : Str) (fs : List (Str × V)) (v : V), x = .ref a ∧ H1 a = some (erO a (.ref Ca) (some dd)) ∧ H1 dd = some (.xd fs) ∧ fs.lookup n = some v ∧ ErC K mg C Ca ∧ PySem.W.findIn K (.ref Ca) n = some none ∧ Q v H1
theorem pe_xfK {e : Expr} {te : TE} {n : Str} (he : PE X e te) (hb : attributeBase e n X.env (eval e X.env) = eval e X.env := by rfl) : PE X (.Attribute e n pos) (tXfK X.K X.mg n te) := by
  refine ⟨fun pins s σ H Q I h => attr_of hb (thn (he.run pins s σ H _ I h) fun u s1 hh => ?_)⟩
  obtain ⟨x, H1, I1, rx, a, Ca, dd, C, fs, v, rfl, ha, hx, l, T, hno, q⟩ := hh
  obtain rfl : u = Value.ref a := rx
  obtain ⟨oe, vs, h1, h2, h3⟩ := er_at I1.hok ha
  obtain ⟨mA, hns, hr⟩ : ObjOk X.prog X.w H1 s1.heap dd (.xd fs) := I1.hok dd _ hx
  obtain ⟨od, ho, hl⟩ := lookIn_ns hns
  obtain ⟨u, hu, ru⟩ := RelO.some_of (v := v) (o := mA n) (by rw [← l]; exact hr n)
  have J : PySem.W.InstAt s1.heap a oe Ca (some od) := ⟨h1, h2.1, by unfold PySem.W.notCls; rw [h3] <;> rfl, by rw [h2.2]; exact ho⟩
  exact HandSPX.exc_get I1.kIn J T.ga T.gg T.ex (PySem.W.findObj_own T.hd hno rfl (by rw [hl, hu])) (handed_of ru) ⟨v, H1, I1.tok _, ru, q⟩
def gFldE (L : List Str) (n : Str) : OD → Option OD
  | .er D (some (m, pd)) => if D ∈ L ∧ m = n then some (.p pd) else none
  | _ => none
def eFldE (L : List Str) (n : Str) (f : Env' → R Opd) : Env' → R OD := fun env => (f env).bind fun a e => ap1 (gFldE L n) a e
theorem de_fldE {n : Str} (hL : ∀ D ∈ L, ∃ Da, ErC X.K X.mg D Da ∧ PySem.W.findIn X.K (.ref Da) n = some none) (ha : DV X W a f) (hb : attributeBase a n X.env (eval a X.env) = eval a X.env := by rfl) : DE X W (.Attribute a n pos) (eFldE L n f) :=
  pe_weak (pe_xfK ha hb) fun σ H Q ⟨F, env, fp, rs, o, h⟩ => by
    refine seqV (Stp.rfl' rs) (fun _ q => q) o (fun h => h) PoE.ex_ h fun a e1 v F1 H1 fv f1 s1 dj1 w1 o1 h1 => ?_
    unfold ap1 at h1
    cases ea : a.at e1 with
    | none => rw [ea] at h1; exact h1.elim
    | some x =>
      rw [ea] at h1
      dsimp only at h1
      cases eg : gFldE L n x with
      | none => rw [eg] at h1; exact h1.elim
      | some d =>
        rw [eg] at h1
        obtain ⟨fx, ox, lx⟩ := w1.look o1 ea
        have k := h1.fin s1 (fun _ q => .inr q) o1
        cases x with
        | er D f =>
          cases f with
          | none => cases eg
          | some p =>
            obtain ⟨m, pd⟩ := p
            by_cases hD : D ∈ L ∧ m = n
            case neg => rw [show gFldE L n (.er D (some (m, pd))) = none from if_neg hD] at eg; cases eg
            rw [show gFldE L n (.er D (some (m, pd))) = _ from if_pos hD] at eg; cases eg
            obtain ⟨hD, rfl⟩ := hD
            obtain ⟨Da, T1, T2⟩ := hL D hD
            cases ox with
            | er ox =>
              obtain ⟨Ca, d, n1, n2, dd, u, rfl, n3, n4⟩ := ox
              obtain rfl : Ca = Da := by rw [T1.n] at n1; cases n1; rfl
              exact ⟨_, Ca, dd, D, _, u, rfl, s1.rs.sub _ _ n2, s1.rs.sub _ _ n3, by simp [List.lookup], T1, T2, k0 s1.rs k (.p n4)⟩
        | _ => cases eg
end
end DL

namespace DL
open PySem L2
/-! ### how the worths are reckoned -/
section
variable (i j : Nat) (e : Env') (f g h : Env' → Out) (a b : Env' → R OD) (t u : Env' → R Bool) (v w : Env' → R Opd)
@[simp] theorem sNil_ap : sNil e = .nx e := rfl
@[simp] theorem sSeq_ap : sSeq f g e = (f e).seq g := rfl
@[simp] theorem sSet_ap : sSet i a e = (a e).out fun d e => .nx (e.set i d) := rfl
@[simp] theorem sRet_ap : sRet a e = (a e).out fun d e => .rt d e := rfl
@[simp] theorem sExp_ap : sExp a e = (a e).out fun _ e => .nx e := rfl
@[simp] theorem sIf_ap : sIf t f g e = (t e).out fun b e => if b then f e else g e := rfl
@[simp] theorem sNever_ap : sNever e = .st := rfl
@[simp] theorem eC_ap (d : PyData) : eC d e = .ok (.p d) e := rfl
@[simp] theorem eVal_ap : eVal a e = (a e).bind fun d e => .ok (.val d) e := rfl
@[simp] theorem eBin_ap (k) : eBin k v w e = (v e).bind fun a e1 => (w e1).bind fun b e2 => ap2 k a b e2 := rfl
@[simp] theorem eUn_ap (k) : eUn k v e = (v e).bind fun a e1 => ap1 k a e1 := rfl
@[simp] theorem eIsi_ap (T) : eIsi T v e = (v e).bind fun a e1 => ap1 (gIsi T) a e1 := rfl
@[simp] theorem eB_ap : eB a e = (a e).bind fun d e => match d with
  | .p (.bool b) => .ok b e
  | _ => .st := rfl
@[simp] theorem eAnd_ap : eAnd t u e = (t e).bind fun b e => if b then u e else .ok false e := rfl
@[simp] theorem eOr_ap : eOr t u e = (t e).bind fun b e => if b then .ok true e else u e := rfl
@[simp] theorem eNot_ap : eNot t e = (t e).bind fun b e => .ok (!b) e := rfl
@[simp] theorem eAndV_ap : eAndV a b e = (eB a e).bind fun c e => if c then b e else .ok (.p (.bool false)) e := rfl
@[simp] theorem eOrV_ap : eOrV a b e = (eB a e).bind fun c e => if c then .ok (.p (.bool true)) e else b e := rfl
@[simp] theorem eNotV_ap : eNotV a e = (eB a e).bind fun b e => .ok (.p (.bool (!b))) e := rfl
@[simp] theorem aNil_ap : aNil e = .ok [] e := rfl
@[simp] theorem aCons_ap (k) : aCons a k e = (a e).bind fun x e => (k e).bind fun xs e2 => .ok (x :: xs) e2 := rfl
@[simp] theorem vNil_ap : vNil e = .ok [] e := rfl
@[simp] theorem vCons_ap (k) : vCons v k e = (v e).bind fun x e => (k e).bind fun xs e2 => .ok (x :: xs) e2 := rfl
@[simp] theorem bNil_ap : bNil e = .ok [] e := rfl
@[simp] theorem bCons_ap (f) (k) : bCons f k e = (f e).bind fun x e => (k e).bind fun xs e2 => .ok (x :: xs) e2 := rfl
@[simp] theorem bVal_ap : bVal a e = (a e).bind fun d e => .ok (d, none) e := rfl
@[simp] theorem eTup_ap (f) : eTup f e = (f e).bind fun xs e => if xs.length ≤ 1000 then .ok (mkT xs) e else .st := rfl
@[simp] theorem eLst_ap (f) : eLst f e = (f e).bind fun xs e => if xs.length ≤ 1000 then .ok (.l xs) e else .st := rfl
@[simp] theorem eCall_ap (k f) : eCall k f e = (f e).bind fun os e => apN k os e := rfl
@[simp] theorem sFgt_ap (js) : sFgt js f e = match f e with
  | .nx e => .nx (clr js e)
  | o => o := rfl
@[simp] theorem clr_nil : clr [] e = e := rfl
@[simp] theorem clr_cons (js) : clr (j :: js) e = clr js (e.set j .h) := rfl
@[simp] theorem sFor_ap (it k) : sFor it k f e = (it e).out fun ds e => forGo k f ds e := rfl
@[simp] theorem sWhile_ap (fu) : sWhile fu t f e = whGo t f (fu e) e := rfl
@[simp] theorem iSeq_ap : iSeq a e = (a e).bind fun d e => R.of (itsF d) e := rfl
@[simp] theorem iArgs_ap (k f) : iArgs k f e = (f e).bind fun os e => match ats e os with
  | some xs => R.of (k xs) e
  | none => .st := (rfl)
@[simp] theorem iEnu_ap (f) : iEnu f e = (f e).bind fun os e => R.of ((lstOf os).map (enumL 0)) e := rfl
@[simp] theorem forGo_nil (k) : forGo k f [] e = .nx e := rfl
theorem forGo_cons (k) (d ds) : forGo k f (d :: ds) e = match k (.p d) e with
  | none => .st
  | some e1 => (f e1).seq (forGo k f ds) := rfl
@[simp] theorem gNm_ap (d) : gNm i d e = some (e.set i d) := rfl
@[simp] theorem gsNil_ap : gsNil [] e = some e := rfl
@[simp] theorem gsCons_ap (k ks d ds) : gsCons k ks (d :: ds) e = (k d e).bind (ks ds) := rfl
@[simp] theorem gTp_ap (n k d) : gTp n k d e = match prts d with
  | some ds => if ds.length = n then k ds e else none
  | none => none := rfl
@[simp] theorem sAsg_ap (k) : sAsg k a e = (a e).out fun d e => match k d e with
  | some e' => .nx e'
  | none => .st := rfl
@[simp] theorem sPar_ap (f) : sPar i j f e = (f e).out fun ds e => match ds with
  | [x, y] => .nx ((e.set i x).set j y)
  | _ => .st := rfl
@[simp] theorem eFn_ap (φ : Fn) (f) : eFn φ f e = (f e).bind fun ys e => match φ (ys.map (·.1)) with
  | .st => .st
  | .ok d xs => .ok d (putBack (ys.map (·.2)) xs e)
  | .ex C x xs => .ex C x (putBack (ys.map (·.2)) xs e) := rfl
@[simp] theorem eLc_ap (js it k) : eLc js it k t a e = (it e).bind fun ds e => if hol js e = true ∧ ds.length ≤ 40000 then lcOut (lcGo js k t a ds e) else .st := rfl
@[simp] theorem tYs_ap : tYs e = .ok true e := rfl
@[simp] theorem lcGo_nil (js k) : lcGo js k t a [] e = some ([], e) := rfl
theorem lcGo_cons (js k) (d ds) : lcGo js k t a (d :: ds) e = match k (.p d) e with
  | none => none
  | some e1 => match t e1 with
    | .ok true e2 => match a e2 with
      | .ok x e3 => (lcGo js k t a ds (clr js e3)).map fun p => (x :: p.1, p.2)
      | _ => none
    | .ok false e2 => lcGo js k t a ds (clr js e2)
    | _ => none := rfl
@[simp] theorem lcOut_some (xs) : lcOut (some (xs, e)) = .ok (.l xs) e := rfl
@[simp] theorem eMut_ap (k f) : eMut i k f e = match lk e i with
  | some (.l _) => (f e).bind fun ys e => match lk e i with
    | some (.l xs) => match k xs ys with
      | some (res, xs') => .ok res (e.set i (.l xs'))
      | none => .st
    | _ => .st
  | _ => .st := rfl
@[simp] theorem sItem_ap : sItem i a b e = (a e).out fun d e1 => match lk e1 i with
  | some (.l _) => (b e1).out fun k e2 => itmOut i d k e2
  | _ => .st := rfl
@[simp] theorem oNone_ap : oNone e = .ok none e := rfl
@[simp] theorem oSome_ap : oSome a e = (a e).bind fun d e => match d with
  | .p (.int i) => .ok (some i) e
  | _ => .st := rfl
@[simp] theorem eSl_ap (fl fu) : eSl v fl fu e = (v e).bind fun a e1 => (fl e1).bind fun l e2 => (fu e2).bind fun u e3 => match a.at e3 with
  | some x => R.of (gSlice x l u) e3
  | none => .st := rfl
theorem fnOfBody_ap (n m B f ods) : fnOfBody n m B f ods = match f (ods ++ List.replicate (m - n) .h) with
  | .st => .st
  | .nx e => .ok (.p .none) (mask B e n)
  | .rt d e => .ok d (mask B e n)
  | .ex C f e => .ex C f (mask B e n) := rfl
end
/-! places of a written state -/
@[simp] theorem lk_0p (d e) : lk (.p d :: e) 0 = some (.p d) := rfl
@[simp] theorem lk_0l (d e) : lk (.l d :: e) 0 = some (.l d) := rfl
@[simp] theorem lk_0t (d e) : lk (.t d :: e) 0 = some (.t d) := rfl
@[simp] theorem lk_0s (d e) : lk (.sc d :: e) 0 = some (.sc d) := rfl
@[simp] theorem lk_0e (C f e) : lk (.er C f :: e) 0 = some (.er C f) := rfl
@[simp] theorem lk_0o (C n xs e) : lk (.ob C n xs :: e) 0 = some (.ob C n xs) := rfl
@[simp] theorem lk_0fo (C n xs e) : lk (.fo C n xs :: e) 0 = some (.fo C n xs) := rfl
@[simp] theorem lk_0dc (n xs e) : lk (.dc n xs :: e) 0 = some (.dc n xs) := rfl
@[simp] theorem lk_0h (e) : lk (.h :: e) 0 = none := rfl
@[simp] theorem lk_s (x e) (n : Nat) : lk (x :: e) (n + 1) = lk e n := rfl
@[simp] theorem eAt_ap (i e) : eAt i e = match lk e i with
  | none => .st
  | some _ => .ok (.slot i) e := rfl
@[simp] theorem eVar_ap (i e) : eVar i e = match lk e i with
  | none => .st
  | some (.p d) => .ok (.p d) e
  | some (.sc ns) => .ok (.sc ns) e
  | some (.er C f) => .ok (.er C f) e
  | some (.fo C ns ds) => .ok (.fo C ns ds) e
  | some x => match frz x with
    | some d => .ok (.p d) (e.set i (.p d))
    | none => .st := rfl
@[simp] theorem eMv_ap (i e) : eMv i e = match lk e i with
  | none => .st
  | some (.p d) => .ok (.p d) e
  | some x => .ok x (e.set i .h) := rfl
@[simp] theorem bSlot_ap (i e) : bSlot i e = match lk e i with
  | none => .st
  | some (.p d) => .ok (.p d, none) e
  | some (.sc ns) => .ok (.sc ns, none) e
  | some (.er C f) => .ok (.er C f, none) e
  | some (.fo C ns ds) => .ok (.fo C ns ds, none) e
  | some x => .ok (x, some i) (e.set i .h) := rfl
@[simp] theorem Opd.at_val (e x) : (Opd.val x).at e = some x := rfl
@[simp] theorem Opd.at_slot (e i) : (Opd.slot i).at e = lk e i := rfl
@[simp] theorem ap2_ap (g a b e) : ap2 g a b e = match a.at e, b.at e with
  | some x, some y => R.of (g x y) e
  | _, _ => .st := rfl
@[simp] theorem ap1_ap (g a e) : ap1 g a e = match a.at e with
  | some x => R.of (g x) e
  | _ => .st := rfl
@[simp] theorem apN_ap (g os e) : apN g os e = match ats e os with
  | some xs => R.of (g xs) e
  | none => .st := rfl
@[simp] theorem ats_nil (e) : ats e [] = some [] := rfl
@[simp] theorem ats_cons (e o os) : ats e (o :: os) = match o.at e, ats e os with
  | some x, some xs => some (x :: xs)
  | _, _ => none := rfl
@[simp] theorem putBack_nil (xs e) : putBack [] xs e = e := by cases xs <;> rfl
@[simp] theorem putBack_none (bs x xs e) : putBack (none :: bs) (x :: xs) e = putBack bs xs e := rfl
@[simp] theorem putBack_some (i bs x xs e) : putBack (some i :: bs) (x :: xs) e = putBack bs xs (e.set i x) := rfl
@[simp] theorem mask_0 (B e) : mask B e 0 = [] := rfl
@[simp] theorem mask_s (B e n) : mask B e (n + 1) = mask B e n ++ [if n ∈ B then (e[n]?).getD OD.h else OD.h] := rfl
@[simp] theorem frz_p (d) : frz (.p d) = some d := rfl
@[simp] theorem frz_lp (ds : List PyData) : frz (.l (ds.map .p)) = some (.list ds) := by simp [frz, frzs_p]
@[simp] theorem frz_l (xs) : frz (.l xs) = (frzs xs).map .list := by rw [frz]
@[simp] theorem frzs_nil : frzs [] = some [] := by rw [frzs]
@[simp] theorem frzs_cons (x xs) : frzs (x :: xs) = (frz x).bind fun d => (frzs xs).map (d :: ·) := by rw [frzs]
@[simp] theorem frzs_map (ds : List PyData) : frzs (ds.map .p) = some ds := frzs_p ds
@[simp] theorem mkT_ap (xs) : mkT xs = match allp xs with
  | some ds => .p (.tuple ds)
  | none => .t xs := rfl
@[simp] theorem allp_nil : allp [] = some [] := rfl
@[simp] theorem allp_cons (d xs) : allp (.p d :: xs) = (allp xs).map (d :: ·) := rfl
@[simp] theorem itsF_list (ds) : itsF (.p (.list ds)) = some ds := rfl
@[simp] theorem itsF_tuple (ds) : itsF (.p (.tuple ds)) = some ds := rfl
@[simp] theorem itsF_l (xs) : itsF (.l xs) = frzs xs := rfl
@[simp] theorem prts_tuple (ds) : prts (.p (.tuple ds)) = some (ds.map .p) := rfl
@[simp] theorem prts_list (ds) : prts (.p (.list ds)) = some (ds.map .p) := rfl
@[simp] theorem prts_l (xs) : prts (.l xs) = some xs := rfl
@[simp] theorem prts_t (xs) : prts (.t xs) = some xs := rfl
@[simp] theorem lstOf_list (ds) : lstOf [.p (.list ds)] = some ds := rfl
@[simp] theorem lstOf_l (xs) : lstOf [.l xs] = frzs xs := rfl
theorem rng1_int (n) : rng1 [.p (.int n)] = if RngOk n then some (rngL 0 n.toNat) else none := rfl
theorem rng2_int (m n) : rng2 [.p (.int m), .p (.int n)] = if RngOk m ∧ RngOk n then some (rngL m (n - m).toNat) else none := rfl
theorem rngOk {n : Int} (h : -4611686018427387904 ≤ n) (h2 : n < 4611686018427387904) : RngOk n := ⟨by omega, by omega⟩
/-! sizes -/
theorem mulOk_of {i j : Int} (a b : Nat) (hi : i.natAbs < 2 ^ a) (hj : j.natAbs < 2 ^ b) (ha : a ≤ 400000) (hb : b ≤ 400000) : MulOk i j :=
  .inl ⟨Nat.lt_of_lt_of_le hi (Nat.pow_le_pow_right (by decide) ha), Nat.lt_of_lt_of_le hj (Nat.pow_le_pow_right (by decide) hb)⟩
@[simp] theorem mulOk_r (i : Int) {j : Int} (h : -9223372036854775808 < j) (h2 : j < 9223372036854775808) : MulOk i j := .inr (.inr (by omega))
@[simp] theorem mulOk_l (j : Int) {i : Int} (h : -9223372036854775808 < i) (h2 : i < 9223372036854775808) : MulOk i j := .inr (.inl (by omega))
theorem divOk_of {j : Int} (h : 0 < j) (b : Nat) (hj : j.natAbs < 2 ^ b) (hb : b ≤ 9000) : DivOk j := ⟨h, Nat.lt_of_lt_of_le hj (Nat.pow_le_pow_right (by decide) hb)⟩
@[simp] theorem divOk_lit {j : Int} (h : 0 < j) (h2 : j < 1606938044258990275541962092341162602522202993782792835301376) : DivOk j := divOk_of h 200 (by
  have : (2 : Nat) ^ 200 = 1606938044258990275541962092341162602522202993782792835301376 := by decide +kernel
  omega) (by decide)
/-! operations on ints -/
section
variable (a b : Int)
@[simp] theorem gAdd_i : gAdd (.p (.int a)) (.p (.int b)) = some (.p (.int (a + b))) := rfl
@[simp] theorem gSub_i : gSub (.p (.int a)) (.p (.int b)) = some (.p (.int (a - b))) := rfl
@[simp] theorem gMul_i : gMul (.p (.int a)) (.p (.int b)) = if MulOk a b then some (.p (.int (a * b))) else none := rfl
@[simp] theorem gFdiv_i : gFdiv (.p (.int a)) (.p (.int b)) = if DivOk b then some (.p (.int (a / b))) else none := by
  show (if _ then _ else _ : Option PyData).map _ = _
  split <;> rfl
@[simp] theorem gMod_i : gMod (.p (.int a)) (.p (.int b)) = if 0 < b then some (.p (.int (a % b))) else none := by
  show (if _ then _ else _ : Option PyData).map _ = _
  split <;> rfl
@[simp] theorem gPow_i : gPow (.p (.int a)) (.p (.int b)) = if 0 ≤ b ∧ b ≤ 1000000 ∧ a.natAbs < 2 ^ 64 then some (.p (.int (a ^ b.toNat))) else none := by
  show (if _ then _ else _ : Option PyData).map _ = _
  split <;> rfl
@[simp] theorem gLt_i : gLt (.p (.int a)) (.p (.int b)) = some (.p (.bool (decide (a < b)))) := rfl
@[simp] theorem gLe_i : gLe (.p (.int a)) (.p (.int b)) = some (.p (.bool (decide (a ≤ b)))) := rfl
@[simp] theorem gGt_i : gGt (.p (.int a)) (.p (.int b)) = some (.p (.bool (decide (b < a)))) := rfl
@[simp] theorem gGe_i : gGe (.p (.int a)) (.p (.int b)) = some (.p (.bool (decide (b ≤ a)))) := rfl
@[simp] theorem gNeg_i : gNeg (.p (.int a)) = some (.p (.int (-a))) := rfl
@[simp] theorem gAbs_i : gAbs (.p (.int a)) = some (.p (.int (if a < 0 then -a else a))) := rfl
@[simp] theorem gMax2_i : gMax2 (.p (.int a)) (.p (.int b)) = some (.p (.int (if b > a then b else a))) := rfl
@[simp] theorem gMin2_i : gMin2 (.p (.int a)) (.p (.int b)) = some (.p (.int (if b < a then b else a))) := rfl
@[simp] theorem gInt_b (b : Bool) : gInt (.p (.bool b)) = some (.p (.int (if b then 1 else 0))) := rfl
@[simp] theorem gInt_i : gInt (.p (.int a)) = some (.p (.int a)) := rfl
end
@[simp] theorem gLen_list (ds) : gLen (.p (.list ds)) = some (.p (.int ds.length)) := rfl
@[simp] theorem gLen_tuple (ds) : gLen (.p (.tuple ds)) = some (.p (.int ds.length)) := rfl
@[simp] theorem gLen_l (ds) : gLen (.l ds) = some (.p (.int ds.length)) := rfl
@[simp] theorem gLen_sc (ds) : gLen (.sc ds) = some (.p (.int ds.length)) := rfl
@[simp] theorem gIx_list (ds i) : gIx (.p (.list ds)) (.p (.int i)) = (atI ds i).map .p := rfl
@[simp] theorem gIx_tuple (ds i) : gIx (.p (.tuple ds)) (.p (.int i)) = (atI ds i).map .p := rfl
@[simp] theorem gIx_sc (ds i) : gIx (.sc ds) (.p (.int i)) = (atI ds i).map oI := rfl
theorem gIx_l (xs i) : gIx (.l xs) (.p (.int i)) = match atI xs i with
  | some (.p d) => some (.p d)
  | _ => none := rfl
theorem atI_map {α β : Type} (f : α → β) (xs : List α) (i : Int) : atI (xs.map f) i = (atI xs i).map f := by
  unfold atI
  rw [List.length_map]
  cases ixN xs.length i with
  | none => rfl
  | some j => show (xs.map f)[j]? = _; rw [List.getElem?_map]; rfl
@[simp] theorem gIx_lp (ds : List PyData) (i) : gIx (.l (ds.map .p)) (.p (.int i)) = (atI ds i).map .p := by
  rw [gIx_l, atI_map]
  cases atI ds i <;> rfl
@[simp] theorem its_list (ds) : its (.p (.list ds)) = some ds := rfl
@[simp] theorem its_lx (xs) : its (.l xs) = allp xs := rfl
@[simp] theorem gList_ap (x) : gList x = (itsT x).map fun ds => .l (ds.map .p) := rfl
@[simp] theorem itsT_list (ds) : itsT (.p (.list ds)) = some ds := rfl
@[simp] theorem itsT_tuple (ds) : itsT (.p (.tuple ds)) = some ds := rfl
@[simp] theorem itsT_l (xs) : itsT (.l xs) = allp xs := rfl
@[simp] theorem gCat_ap (x y) : gCat x y = match its x, its y with
  | some a, some b => if a.length + b.length ≤ 100000 then some (.l ((a ++ b).map .p)) else none
  | _, _ => none := rfl
@[simp] theorem gAdd_ll (x y) : gAdd (.l x) (.l y) = gCat (.l x) (.l y) := rfl
@[simp] theorem gAdd_lp (x y) : gAdd (.l x) (.p (.list y)) = gCat (.l x) (.p (.list y)) := rfl
@[simp] theorem gAdd_pl (x y) : gAdd (.p (.list x)) (.l y) = gCat (.p (.list x)) (.l y) := rfl
@[simp] theorem gAdd_pp (x y) : gAdd (.p (.list x)) (.p (.list y)) = gCat (.p (.list x)) (.p (.list y)) := rfl
@[simp] theorem gAppend_one (xs y) : gAppend xs [y] = if xs.length < 100000 then some (.p .none, xs ++ [y]) else none := rfl
@[simp] theorem gClear_nil (xs) : gClear xs [] = some (.p .none, []) := rfl
@[simp] theorem vw_lp (ds : List PyData) : vw (.l (ds.map .p)) = some (.list ds) := by simp [vw, vws_map]
/-! loops -/
theorem forGo_fold {α β : Type} {g : Tg} {f : Env' → Out} (enc : α → PyData) (st : β → Env') (step : β → α → β) (P : β → Prop) : ∀ (l : List α) (b : β), P b → (∀ b a, P b → a ∈ l → P (step b a) ∧ ∃ e1, g (.p (enc a)) (st b) = some e1 ∧ f e1 = .nx (st (step b a))) →
    forGo g f (l.map enc) (st b) = .nx (st (l.foldl step b)) ∧ P (l.foldl step b)
  | [], b, hb, _ => ⟨rfl, hb⟩
  | a :: l, b, hb, h => by
    obtain ⟨h1, e1, h2, h3⟩ := h b a hb List.mem_cons_self
    have ih := forGo_fold enc st step P l (step b a) h1 fun b a' hb ha => h b a' hb (List.mem_cons_of_mem _ ha)
    rw [List.map_cons, forGo_cons, h2]
    show ((f e1).seq _) = _ ∧ _
    rw [h3]
    exact ih
theorem forGo_inv {α : Type} {g : Tg} {f : Env' → Out} (enc : α → PyData) (P : Nat → Env' → Prop) : ∀ (l : List α) (i : Nat) (e : Env'), P i e → (∀ a i e, a ∈ l → P i e → ∃ e1 e2, g (.p (enc a)) e = some e1 ∧ f e1 = .nx e2 ∧ P (i + 1) e2) →
    ∃ e', forGo g f (l.map enc) e = .nx e' ∧ P (i + l.length) e'
  | [], i, e, h, _ => ⟨e, rfl, h⟩
  | a :: l, i, e, h, k => by
    obtain ⟨e1, e2, h1, h2, h3⟩ := k a i e List.mem_cons_self h
    obtain ⟨e', q1, q2⟩ := forGo_inv enc P l (i + 1) e2 h3 fun a i e ha => k a i e (List.mem_cons_of_mem _ ha)
    refine ⟨e', ?_, by rw [List.length_cons, show i + (l.length + 1) = i + 1 + l.length by omega]; exact q2⟩
    rw [List.map_cons, forGo_cons, h1]
    show ((f e1).seq _) = _
    rw [h2]; exact q1
theorem lcGo_enc {α : Type} {js g t f} (enc : α → PyData) (x : α → OD) (env : Env') : ∀ l : List α, (∀ a ∈ l, ∃ e1 e2 e3, g (.p (enc a)) env = some e1 ∧ t e1 = .ok true e2 ∧ f e2 = .ok (x a) e3 ∧ clr js e3 = env) →
    lcGo js g t f (l.map enc) env = some (l.map x, env)
  | [], _ => rfl
  | a :: l, h => by
    obtain ⟨e1, e2, e3, h1, h2, h3, h4⟩ := h a List.mem_cons_self
    rw [List.map_cons, lcGo_cons, h1]
    dsimp only
    rw [h2]
    dsimp only
    rw [h3]
    dsimp only
    rw [h4, lcGo_enc enc x env l fun a ha => h a (List.mem_cons_of_mem _ ha)]
    rfl
theorem lcGo_sel {α : Type} {js g t f} (enc : α → PyData) (p : α → Bool) (x : α → OD) (env : Env') : ∀ l : List α, (∀ a ∈ l, ∃ e1 e2, g (.p (enc a)) env = some e1 ∧ t e1 = .ok (p a) e2 ∧ (p a = false → clr js e2 = env) ∧ (p a = true → ∃ e3, f e2 = .ok (x a) e3 ∧ clr js e3 = env)) →
    lcGo js g t f (l.map enc) env = some ((l.filter p).map x, env)
  | [], _ => rfl
  | a :: l, h => by
    obtain ⟨e1, e2, h1, h2, h3, h4⟩ := h a List.mem_cons_self
    have ih := lcGo_sel enc p x env l fun a ha => h a (List.mem_cons_of_mem _ ha)
    rw [List.map_cons, lcGo_cons, h1]
    dsimp only
    rw [h2]
    cases hp : p a with
    | false =>
      dsimp only
      rw [h3 hp, ih, List.filter_cons, hp]; rfl
    | true =>
      obtain ⟨e3, q1, q2⟩ := h4 hp
      dsimp only
      rw [q1]
      dsimp only
      rw [q2, ih, List.filter_cons, hp]; rfl
/-! sizes of numbers -/
def Bd (n : Nat) (x : Int) : Prop := x.natAbs < 2 ^ n
theorem Bd.mono {n m : Nat} {x : Int} (h : Bd n x) (l : n ≤ m) : Bd m x := Nat.lt_of_lt_of_le h (Nat.pow_le_pow_right (by decide) l)
theorem Bd.mul {n m : Nat} {x y : Int} (h : Bd n x) (k : Bd m y) : Bd (n + m) (x * y) := by
  unfold Bd at *
  rw [Int.natAbs_mul, Nat.pow_add]
  rcases Nat.eq_zero_or_pos (y.natAbs) with z | z
  · rw [z, Nat.mul_zero]; exact Nat.mul_pos (Nat.two_pow_pos n) (Nat.two_pow_pos m)
  · exact Nat.lt_of_lt_of_le (Nat.mul_lt_mul_of_pos_right h z) (Nat.mul_le_mul_left _ (Nat.le_of_lt k))
theorem Bd.add {n : Nat} {x y : Int} (h : Bd n x) (k : Bd n y) : Bd (n + 1) (x + y) := by
  unfold Bd at *; rw [Nat.pow_succ]; omega
theorem Bd.sub {n : Nat} {x y : Int} (h : Bd n x) (k : Bd n y) : Bd (n + 1) (x - y) := by
  unfold Bd at *; rw [Nat.pow_succ]; omega
theorem Bd.neg {n : Nat} {x : Int} (h : Bd n x) : Bd n (-x) := by unfold Bd at *; omega
theorem Bd.abs {n : Nat} {x : Int} (h : Bd n x) : Bd n (if x < 0 then -x else x) := by unfold Bd at *; split <;> omega
theorem Bd.nat {n : Nat} {x : Int} (h : Bd n x) : Bd n (x.natAbs : Int) := by unfold Bd at *; omega
theorem Bd.div {n : Nat} {x : Int} (h : Bd n x) {g : Int} (hg : 0 < g) (hd : g ∣ x) : Bd n (x / g) := by
  obtain ⟨c, rfl⟩ := hd
  rw [Int.mul_ediv_cancel_left _ (by omega)]
  unfold Bd at *
  rw [Int.natAbs_mul] at h
  exact Nat.lt_of_le_of_lt (Nat.le_mul_of_pos_left _ (by omega)) h
theorem Bd.of_le {n : Nat} {x : Int} (k : Int) (h1 : -k < x) (h2 : x < k) (hk : k ≤ (2 ^ n : Nat)) : Bd n x := by unfold Bd; omega
theorem Bd.ok {n m : Nat} {x y : Int} (h : Bd n x) (k : Bd m y) (hn : n ≤ 400000 := by decide) (hm : m ≤ 400000 := by decide) : MulOk x y := mulOk_of n m h k hn hm
theorem Bd.dv {n : Nat} {x : Int} (h : Bd n x) (p : 0 < x) (hn : n ≤ 9000 := by decide) : DivOk x := divOk_of p n h hn
/-! data of numbers: equality is equality -/
mutual
/-- made of None, truth values apart, numbers, lists and tuples; not deeper than k -/
def nm : Nat → PyData → Bool
  | _, .none => true
  | _, .int _ => true
  | k + 1, .list ds => nms k ds
  | k + 1, .tuple ds => nms k ds
  | _, _ => false
def nms : Nat → List PyData → Bool
  | _, [] => true
  | k, d :: ds => nm k d && nms k ds
end
theorem nms_iff {k : Nat} : ∀ {ds : List PyData}, nms k ds = true ↔ ∀ d ∈ ds, nm k d = true
  | [] => by simp [nms]
  | d :: ds => by simp [nms, nms_iff (ds := ds)]
mutual
theorem nm_lay : ∀ (k : Nat) (d : PyData), nm k d = true → d.canLay0 = true ∧ d.depth ≤ k
  | _, .none, _ => ⟨by simp [PyData.canLay0], by simp [PyData.depth]⟩
  | _, .int _, _ => ⟨by simp [PyData.canLay0], by simp [PyData.depth]⟩
  | k + 1, .list ds, h => by
    obtain ⟨a, b⟩ := nms_lay k ds (by rw [nm] at h; exact h)
    exact ⟨by rw [PyData.canLay0]; exact a, by rw [PyData.depth]; omega⟩
  | k + 1, .tuple ds, h => by
    obtain ⟨a, b⟩ := nms_lay k ds (by rw [nm] at h; exact h)
    exact ⟨by rw [PyData.canLay0]; exact a, by rw [PyData.depth]; omega⟩
  | 0, .list _, h => by simp [nm] at h
  | 0, .tuple _, h => by simp [nm] at h
  | 0, .bool _, h => by simp [nm] at h
  | k + 1, .bool _, h => by simp [nm] at h
  | 0, .str _, h => by simp [nm] at h
  | k + 1, .str _, h => by simp [nm] at h
  | 0, .dict _, h => by simp [nm] at h
  | k + 1, .dict _, h => by simp [nm] at h
theorem nms_lay : ∀ (k : Nat) (ds : List PyData), nms k ds = true → PyData.canLayAll0 ds = true ∧ PyData.depthAll ds ≤ k
  | _, [], _ => ⟨by simp [PyData.canLayAll0], by simp [PyData.depthAll]⟩
  | k, d :: ds, h => by
    rw [nms, Bool.and_eq_true] at h
    obtain ⟨a, b⟩ := nm_lay k d h.1
    obtain ⟨c, e⟩ := nms_lay k ds h.2
    exact ⟨by rw [PyData.canLayAll0, a, c]; rfl, by rw [PyData.depthAll]; omega⟩
end
theorem nm_sh {k : Nat} {d : PyData} (h : nm k d = true) (hk : k ≤ 64 := by decide) : SeqAt.shaped d = true := by
  obtain ⟨a, b⟩ := nm_lay k d h
  unfold SeqAt.shaped
  rw [a, Bool.true_and, decide_eq_true_eq]; omega
@[simp] theorem oB_eq (b : Bool) : oB b = .p (.bool b) := rfl
mutual
theorem eqv_nm : ∀ (a b : PyData) (k l : Nat), nm k a = true → nm l b = true → a.eqv b = true → a = b
  | .none, b, _, _, _, _, h => by cases b <;> first | rfl | (simp [PyData.eqv] at h; done)
  | .int i, b, _, l, _, hb, h => by
    cases b with
    | int j => rw [PyData.eqv] at h; rw [beq_iff_eq.mp h]
    | bool j => cases l <;> simp [nm] at hb
    | _ => simp [PyData.eqv] at h
  | .list xs, b, k, l, ha, hb, h => by
    cases b with
    | list ys =>
      cases k <;> cases l <;> first | (simp [nm] at ha; done) | (simp [nm] at hb; done) | skip
      rw [nm] at ha hb; rw [PyData.eqv] at h
      rw [eqvs_nm xs ys _ _ ha hb h]
    | _ => simp [PyData.eqv] at h
  | .tuple xs, b, k, l, ha, hb, h => by
    cases b with
    | tuple ys =>
      cases k <;> cases l <;> first | (simp [nm] at ha; done) | (simp [nm] at hb; done) | skip
      rw [nm] at ha hb; rw [PyData.eqv] at h
      rw [eqvs_nm xs ys _ _ ha hb h]
    | _ => simp [PyData.eqv] at h
  | .bool _, _, k, _, ha, _, _ => by cases k <;> simp [nm] at ha
  | .str _, _, k, _, ha, _, _ => by cases k <;> simp [nm] at ha
  | .dict _, _, k, _, ha, _, _ => by cases k <;> simp [nm] at ha
theorem eqvs_nm : ∀ (a b : List PyData) (k l : Nat), nms k a = true → nms l b = true → PyData.eqvAll a b = true → a = b
  | [], b, _, _, _, _, h => by cases b <;> first | rfl | (simp [PyData.eqvAll] at h; done)
  | x :: xs, [], _, _, _, _, h => by simp [PyData.eqvAll] at h
  | x :: xs, y :: ys, k, l, ha, hb, h => by
    rw [nms, Bool.and_eq_true] at ha hb
    rw [PyData.eqvAll, Bool.and_eq_true] at h
    rw [eqv_nm x y k l ha.1 hb.1 h.1, eqvs_nm xs ys k l ha.2 hb.2 h.2]
end
theorem eqv_iff {k l : Nat} {a b : PyData} (ha : nm k a = true) (hb : nm l b = true) : a.eqv b = true ↔ a = b :=
  ⟨eqv_nm a b k l ha hb, fun e => e ▸ SeqAt.eqv_refl a (nm_lay k a ha).1⟩
section
variable {x y : OD} {a b : PyData}
theorem gEq_nm (k l : Nat) (hx : vw x = some a) (hy : vw y = some b) (ha : nm k a = true) (hb : nm l b = true) (hk : k ≤ 64 := by decide) (hl : l ≤ 64 := by decide) : gEq x y = some (oB (PyData.eqv a b)) := by
  unfold gEq; rw [hx, hy]; exact if_pos ⟨nm_sh ha hk, nm_sh hb hl⟩
theorem gNe_nm (k l : Nat) (hx : vw x = some a) (hy : vw y = some b) (ha : nm k a = true) (hb : nm l b = true) (hk : k ≤ 64 := by decide) (hl : l ≤ 64 := by decide) : gNe x y = some (oB (!PyData.eqv a b)) := by
  unfold gNe; rw [hx, hy]; exact if_pos ⟨nm_sh ha hk, nm_sh hb hl⟩
theorem gEq_yes (k : Nat) (hx : vw x = some a) (hy : vw y = some a) (ha : nm k a = true) (hk : k ≤ 64 := by decide) : gEq x y = some (.p (.bool true)) := by
  rw [gEq_nm k k hx hy ha ha hk hk, (eqv_iff ha ha).2 rfl]; rfl
theorem gNe_no (k : Nat) (hx : vw x = some a) (hy : vw y = some a) (ha : nm k a = true) (hk : k ≤ 64 := by decide) : gNe x y = some (.p (.bool false)) := by
  rw [gNe_nm k k hx hy ha ha hk hk, (eqv_iff ha ha).2 rfl]; rfl
theorem eqv_ff {k l : Nat} (ha : nm k a = true) (hb : nm l b = true) (h : a ≠ b) : PyData.eqv a b = false := by
  cases e : PyData.eqv a b with
  | false => rfl
  | true => exact absurd (eqv_nm a b k l ha hb e) h
theorem gEq_not (k l : Nat) (hx : vw x = some a) (hy : vw y = some b) (ha : nm k a = true) (hb : nm l b = true) (h : a ≠ b) (hk : k ≤ 64 := by decide) (hl : l ≤ 64 := by decide) : gEq x y = some (.p (.bool false)) := by
  rw [gEq_nm k l hx hy ha hb hk hl, eqv_ff ha hb h]; rfl
theorem gNe_ne (k l : Nat) (hx : vw x = some a) (hy : vw y = some b) (ha : nm k a = true) (hb : nm l b = true) (h : a ≠ b) (hk : k ≤ 64 := by decide) (hl : l ≤ 64 := by decide) : gNe x y = some (.p (.bool true)) := by
  rw [gNe_nm k l hx hy ha hb hk hl, eqv_ff ha hb h]; rfl
end
@[simp] theorem gEq_i (a b : Int) : gEq (.p (.int a)) (.p (.int b)) = some (.p (.bool (decide (a = b)))) := by
  rw [gEq_nm 1 1 rfl rfl (by simp [nm]) (by simp [nm]), PyData.eqv]
  by_cases h : a = b <;> simp [h]
@[simp] theorem gNe_i (a b : Int) : gNe (.p (.int a)) (.p (.int b)) = some (.p (.bool (!decide (a = b)))) := by
  rw [gNe_nm 1 1 rfl rfl (by simp [nm]) (by simp [nm]), PyData.eqv]
  by_cases h : a = b <;> simp [h]
@[simp] theorem vw_nil : vw (.l []) = some (.list []) := by simp [vw, vws]
@[simp] theorem gEq_nil_l : gEq (.l []) (.l []) = some (.p (.bool true)) := gEq_yes 1 vw_nil vw_nil (by simp [nm, nms])
@[simp] theorem gNe_nil_l : gNe (.l []) (.l []) = some (.p (.bool false)) := gNe_no 1 vw_nil vw_nil (by simp [nm, nms])
/-! isinstance of told values -/
theorem kB_NoneType_int : kitB "NoneType" "int" = some false := by decide +kernel
theorem kB_NoneType_bool : kitB "NoneType" "bool" = some false := by decide +kernel
theorem kB_NoneType_str : kitB "NoneType" "str" = some false := by decide +kernel
theorem kB_NoneType_list : kitB "NoneType" "list" = some false := by decide +kernel
theorem kB_NoneType_tuple : kitB "NoneType" "tuple" = some false := by decide +kernel
theorem kB_bool_int : kitB "bool" "int" = some true := by decide +kernel
theorem kB_bool_bool : kitB "bool" "bool" = some true := by decide +kernel
theorem kB_bool_str : kitB "bool" "str" = some false := by decide +kernel
theorem kB_bool_list : kitB "bool" "list" = some false := by decide +kernel
theorem kB_bool_tuple : kitB "bool" "tuple" = some false := by decide +kernel
theorem kB_int_int : kitB "int" "int" = some true := by decide +kernel
theorem kB_int_bool : kitB "int" "bool" = some false := by decide +kernel
theorem kB_int_str : kitB "int" "str" = some false := by decide +kernel
theorem kB_int_list : kitB "int" "list" = some false := by decide +kernel
theorem kB_int_tuple : kitB "int" "tuple" = some false := by decide +kernel
theorem kB_list_int : kitB "list" "int" = some false := by decide +kernel
theorem kB_list_bool : kitB "list" "bool" = some false := by decide +kernel
theorem kB_list_str : kitB "list" "str" = some false := by decide +kernel
theorem kB_list_list : kitB "list" "list" = some true := by decide +kernel
theorem kB_list_tuple : kitB "list" "tuple" = some false := by decide +kernel
theorem kB_str_int : kitB "str" "int" = some false := by decide +kernel
theorem kB_str_bool : kitB "str" "bool" = some false := by decide +kernel
theorem kB_str_str : kitB "str" "str" = some true := by decide +kernel
theorem kB_str_list : kitB "str" "list" = some false := by decide +kernel
theorem kB_str_tuple : kitB "str" "tuple" = some false := by decide +kernel
theorem kB_tuple_int : kitB "tuple" "int" = some false := by decide +kernel
theorem kB_tuple_bool : kitB "tuple" "bool" = some false := by decide +kernel
theorem kB_tuple_str : kitB "tuple" "str" = some false := by decide +kernel
theorem kB_tuple_list : kitB "tuple" "list" = some false := by decide +kernel
theorem kB_tuple_tuple : kitB "tuple" "tuple" = some true := by decide +kernel
@[simp] theorem gIsi_0 : gIsi "int" (.p .none) = some (.p (.bool false)) := by show (kitB "NoneType" "int").map oB = _; rw [kB_NoneType_int]; rfl
@[simp] theorem gIsi_1 : gIsi "bool" (.p .none) = some (.p (.bool false)) := by show (kitB "NoneType" "bool").map oB = _; rw [kB_NoneType_bool]; rfl
@[simp] theorem gIsi_2 : gIsi "str" (.p .none) = some (.p (.bool false)) := by show (kitB "NoneType" "str").map oB = _; rw [kB_NoneType_str]; rfl
@[simp] theorem gIsi_3 : gIsi "list" (.p .none) = some (.p (.bool false)) := by show (kitB "NoneType" "list").map oB = _; rw [kB_NoneType_list]; rfl
@[simp] theorem gIsi_4 : gIsi "tuple" (.p .none) = some (.p (.bool false)) := by show (kitB "NoneType" "tuple").map oB = _; rw [kB_NoneType_tuple]; rfl
@[simp] theorem gIsi_5 (b : Bool) : gIsi "int" (.p (.bool b)) = some (.p (.bool true)) := by show (kitB "bool" "int").map oB = _; rw [kB_bool_int]; rfl
@[simp] theorem gIsi_6 (b : Bool) : gIsi "bool" (.p (.bool b)) = some (.p (.bool true)) := by show (kitB "bool" "bool").map oB = _; rw [kB_bool_bool]; rfl
@[simp] theorem gIsi_7 (b : Bool) : gIsi "str" (.p (.bool b)) = some (.p (.bool false)) := by show (kitB "bool" "str").map oB = _; rw [kB_bool_str]; rfl
@[simp] theorem gIsi_8 (b : Bool) : gIsi "list" (.p (.bool b)) = some (.p (.bool false)) := by show (kitB "bool" "list").map oB = _; rw [kB_bool_list]; rfl
@[simp] theorem gIsi_9 (b : Bool) : gIsi "tuple" (.p (.bool b)) = some (.p (.bool false)) := by show (kitB "bool" "tuple").map oB = _; rw [kB_bool_tuple]; rfl
@[simp] theorem gIsi_10 (i : Int) : gIsi "int" (.p (.int i)) = some (.p (.bool true)) := by show (kitB "int" "int").map oB = _; rw [kB_int_int]; rfl
@[simp] theorem gIsi_11 (i : Int) : gIsi "bool" (.p (.int i)) = some (.p (.bool false)) := by show (kitB "int" "bool").map oB = _; rw [kB_int_bool]; rfl
@[simp] theorem gIsi_12 (i : Int) : gIsi "str" (.p (.int i)) = some (.p (.bool false)) := by show (kitB "int" "str").map oB = _; rw [kB_int_str]; rfl
@[simp] theorem gIsi_13 (i : Int) : gIsi "list" (.p (.int i)) = some (.p (.bool false)) := by show (kitB "int" "list").map oB = _; rw [kB_int_list]; rfl
@[simp] theorem gIsi_14 (i : Int) : gIsi "tuple" (.p (.int i)) = some (.p (.bool false)) := by show (kitB "int" "tuple").map oB = _; rw [kB_int_tuple]; rfl
@[simp] theorem gIsi_15 (z : Str) : gIsi "int" (.p (.str z)) = some (.p (.bool false)) := by show (kitB "str" "int").map oB = _; rw [kB_str_int]; rfl
@[simp] theorem gIsi_16 (z : Str) : gIsi "bool" (.p (.str z)) = some (.p (.bool false)) := by show (kitB "str" "bool").map oB = _; rw [kB_str_bool]; rfl
@[simp] theorem gIsi_17 (z : Str) : gIsi "str" (.p (.str z)) = some (.p (.bool true)) := by show (kitB "str" "str").map oB = _; rw [kB_str_str]; rfl
@[simp] theorem gIsi_18 (z : Str) : gIsi "list" (.p (.str z)) = some (.p (.bool false)) := by show (kitB "str" "list").map oB = _; rw [kB_str_list]; rfl
@[simp] theorem gIsi_19 (z : Str) : gIsi "tuple" (.p (.str z)) = some (.p (.bool false)) := by show (kitB "str" "tuple").map oB = _; rw [kB_str_tuple]; rfl
@[simp] theorem gIsi_20 (ds : List PyData) : gIsi "int" (.p (.list ds)) = some (.p (.bool false)) := by show (kitB "list" "int").map oB = _; rw [kB_list_int]; rfl
@[simp] theorem gIsi_21 (ds : List PyData) : gIsi "bool" (.p (.list ds)) = some (.p (.bool false)) := by show (kitB "list" "bool").map oB = _; rw [kB_list_bool]; rfl
@[simp] theorem gIsi_22 (ds : List PyData) : gIsi "str" (.p (.list ds)) = some (.p (.bool false)) := by show (kitB "list" "str").map oB = _; rw [kB_list_str]; rfl
@[simp] theorem gIsi_23 (ds : List PyData) : gIsi "list" (.p (.list ds)) = some (.p (.bool true)) := by show (kitB "list" "list").map oB = _; rw [kB_list_list]; rfl
@[simp] theorem gIsi_24 (ds : List PyData) : gIsi "tuple" (.p (.list ds)) = some (.p (.bool false)) := by show (kitB "list" "tuple").map oB = _; rw [kB_list_tuple]; rfl
@[simp] theorem gIsi_25 (ds : List PyData) : gIsi "int" (.p (.tuple ds)) = some (.p (.bool false)) := by show (kitB "tuple" "int").map oB = _; rw [kB_tuple_int]; rfl
@[simp] theorem gIsi_26 (ds : List PyData) : gIsi "bool" (.p (.tuple ds)) = some (.p (.bool false)) := by show (kitB "tuple" "bool").map oB = _; rw [kB_tuple_bool]; rfl
@[simp] theorem gIsi_27 (ds : List PyData) : gIsi "str" (.p (.tuple ds)) = some (.p (.bool false)) := by show (kitB "tuple" "str").map oB = _; rw [kB_tuple_str]; rfl
@[simp] theorem gIsi_28 (ds : List PyData) : gIsi "list" (.p (.tuple ds)) = some (.p (.bool false)) := by show (kitB "tuple" "list").map oB = _; rw [kB_tuple_list]; rfl
@[simp] theorem gIsi_29 (ds : List PyData) : gIsi "tuple" (.p (.tuple ds)) = some (.p (.bool true)) := by show (kitB "tuple" "tuple").map oB = _; rw [kB_tuple_tuple]; rfl
@[simp] theorem gIsi_30 (xs : List OD) : gIsi "int" (.l xs) = some (.p (.bool false)) := by show (kitB "list" "int").map oB = _; rw [kB_list_int]; rfl
@[simp] theorem gIsi_31 (xs : List OD) : gIsi "bool" (.l xs) = some (.p (.bool false)) := by show (kitB "list" "bool").map oB = _; rw [kB_list_bool]; rfl
@[simp] theorem gIsi_32 (xs : List OD) : gIsi "str" (.l xs) = some (.p (.bool false)) := by show (kitB "list" "str").map oB = _; rw [kB_list_str]; rfl
@[simp] theorem gIsi_33 (xs : List OD) : gIsi "list" (.l xs) = some (.p (.bool true)) := by show (kitB "list" "list").map oB = _; rw [kB_list_list]; rfl
@[simp] theorem gIsi_34 (xs : List OD) : gIsi "tuple" (.l xs) = some (.p (.bool false)) := by show (kitB "list" "tuple").map oB = _; rw [kB_list_tuple]; rfl
@[simp] theorem gIsi_35 (xs : List OD) : gIsi "int" (.t xs) = some (.p (.bool false)) := by show (kitB "tuple" "int").map oB = _; rw [kB_tuple_int]; rfl
@[simp] theorem gIsi_36 (xs : List OD) : gIsi "bool" (.t xs) = some (.p (.bool false)) := by show (kitB "tuple" "bool").map oB = _; rw [kB_tuple_bool]; rfl
@[simp] theorem gIsi_37 (xs : List OD) : gIsi "str" (.t xs) = some (.p (.bool false)) := by show (kitB "tuple" "str").map oB = _; rw [kB_tuple_str]; rfl
@[simp] theorem gIsi_38 (xs : List OD) : gIsi "list" (.t xs) = some (.p (.bool false)) := by show (kitB "tuple" "list").map oB = _; rw [kB_tuple_list]; rfl
@[simp] theorem gIsi_39 (xs : List OD) : gIsi "tuple" (.t xs) = some (.p (.bool true)) := by show (kitB "tuple" "tuple").map oB = _; rw [kB_tuple_tuple]; rfl
/-! places in lists -/
theorem atI_nn {α : Type} (xs : List α) {i : Int} (h : 0 ≤ i) : atI xs i = xs[i.toNat]? := by
  unfold atI ixN
  by_cases z : i < (xs.length : Int)
  · simp [h, z]
  · have h2 : ¬ i < 0 := by omega
    simp [h, z, h2]
@[simp] theorem atI_0 {α : Type} (xs : List α) : atI xs 0 = xs[0]? := atI_nn xs (Int.le_refl 0)
@[simp] theorem atI_1 {α : Type} (xs : List α) : atI xs 1 = xs[1]? := atI_nn xs (by decide)
@[simp] theorem atI_2 {α : Type} (xs : List α) : atI xs 2 = xs[2]? := atI_nn xs (by decide)
@[simp] theorem atI_3 {α : Type} (xs : List α) : atI xs 3 = xs[3]? := atI_nn xs (by decide)
@[simp] theorem atI_n {α : Type} (xs : List α) (n : Nat) : atI xs (n : Int) = xs[n]? := atI_nn xs (by omega)
@[simp] theorem atI_m1 {α : Type} (xs : List α) : atI xs (-1) = xs.getLast? := by
  unfold atI ixN
  cases xs with
  | nil => simp
  | cons x xs =>
    have e : (-1 + ((xs.length : Int) + 1)).toNat = xs.length := by omega
    simp; rw [if_pos (by omega)]; simp [List.getLast?_eq_getElem?, e]
section
variable {r : Int} (h : 0 ≤ r)
include h
theorem pick2 (a b : Int) (k : r < 2) : gIx (.l [.p (.int a), .p (.int b)]) (.p (.int r)) = some (.p (.int (if r = 0 then a else b))) := by
  rcases (by omega : r = 0 ∨ r = 1) with e | e <;> subst e <;> rfl
theorem pick3 (a b c : Int) (k : r < 3) : gIx (.l [.p (.int a), .p (.int b), .p (.int c)]) (.p (.int r)) = some (.p (.int (if r = 0 then a else if r = 1 then b else c))) := by
  rcases (by omega : r = 0 ∨ r = 1 ∨ r = 2) with e | e | e <;> subst e <;> rfl
theorem pick4 (a b c d : Int) (k : r < 4) : gIx (.l [.p (.int a), .p (.int b), .p (.int c), .p (.int d)]) (.p (.int r)) = some (.p (.int (if r = 0 then a else if r = 1 then b else if r = 2 then c else d))) := by
  rcases (by omega : r = 0 ∨ r = 1 ∨ r = 2 ∨ r = 3) with e | e | e | e <;> subst e <;> rfl
theorem pick5 (a b c d f : Int) (k : r < 5) : gIx (.l [.p (.int a), .p (.int b), .p (.int c), .p (.int d), .p (.int f)]) (.p (.int r)) = some (.p (.int (if r = 0 then a else if r = 1 then b else if r = 2 then c else if r = 3 then d else f))) := by
  rcases (by omega : r = 0 ∨ r = 1 ∨ r = 2 ∨ r = 3 ∨ r = 4) with e | e | e | e | e <;> subst e <;> rfl
theorem pickD2 (a b : PyData) (k : r < 2) : gIx (.l [.p a, .p b]) (.p (.int r)) = some (.p (if r = 0 then a else b)) := by
  rcases (by omega : r = 0 ∨ r = 1) with e | e <;> subst e <;> rfl
theorem pickD3 (a b c : PyData) (k : r < 3) : gIx (.l [.p a, .p b, .p c]) (.p (.int r)) = some (.p (if r = 0 then a else if r = 1 then b else c)) := by
  rcases (by omega : r = 0 ∨ r = 1 ∨ r = 2) with e | e | e <;> subst e <;> rfl
end
theorem ixN_m1 (n : Nat) : ixN (n + 1) (-1) = some n := by
  unfold ixN
  have e : (-1 + ((n : Int) + 1)).toNat = n := by omega
  simp; exact ⟨by omega, e⟩
@[simp] theorem getLast_ca {α : Type} (x y : α) (xs : List α) : (x :: (xs ++ [y])).getLast? = some y := by
  rw [← List.cons_append, List.getLast?_concat]
theorem forGo_ix {g : Tg} {f : Env' → Out} : ∀ (l : List PyData) (P : Nat → Env' → Prop) (e : Env'), P 0 e → (∀ j (hj : j < l.length) e, P j e → ∃ e1 e2, g (.p l[j]) e = some e1 ∧ f e1 = .nx e2 ∧ P (j + 1) e2) →
    ∃ e', forGo g f l e = .nx e' ∧ P l.length e'
  | [], P, e, h, _ => ⟨e, rfl, h⟩
  | a :: l, P, e, h, k => by
    obtain ⟨e1, e2, h1, h2, h3⟩ := k 0 (by simp) e h
    obtain ⟨e', q1, q2⟩ := forGo_ix l (fun j => P (j + 1)) e2 h3 fun j hj e he => k (j + 1) (by simp; omega) e he
    refine ⟨e', ?_, q2⟩
    rw [forGo_cons]
    rw [show (a :: l)[0] = a from rfl] at h1
    rw [h1]
    show ((f e1).seq _) = _
    rw [h2]; exact q1
theorem forGo_rng {g : Tg} {f : Env' → Out} (lo : Int) (n : Nat) (P : Nat → Env' → Prop) (e : Env') (h0 : P 0 e) (st : ∀ j, j < n → ∀ e, P j e → ∃ e1 e2, g (.p (.int (lo + (j : Int)))) e = some e1 ∧ f e1 = .nx e2 ∧ P (j + 1) e2) :
    ∃ e', forGo g f (rngL lo n) e = .nx e' ∧ P n e' := by
  obtain ⟨e', h1, h2⟩ := forGo_ix (g := g) (f := f) (rngL lo n) P e h0 fun j hj e he => by
    have hj' : j < n := by rwa [rngL_len] at hj
    have : (rngL lo n)[j] = .int (lo + (j : Int)) := (rngL_get (List.getElem?_eq_getElem hj)).2
    rw [this]
    exact st j hj' e he
  exact ⟨e', h1, by rwa [rngL_len] at h2⟩
@[simp] theorem frzs_mapc {α : Type} (f : α → PyData) (xs : List α) : frzs (xs.map (OD.p ∘ f)) = some (xs.map f) := by rw [← List.map_map]; exact frzs_p _
@[simp] theorem allp_mapc {α : Type} (f : α → PyData) (xs : List α) : allp (xs.map (OD.p ∘ f)) = some (xs.map f) := by rw [← List.map_map]; exact allp_map _
@[simp] theorem vws_mapc {α : Type} (f : α → PyData) (xs : List α) : vws (xs.map (OD.p ∘ f)) = some (xs.map f) := by rw [← List.map_map]; exact vws_map _
/-- a list of data, frozen or owned -/
def IsL (x : OD) (ds : List PyData) : Prop := x = .p (.list ds) ∨ x = .l (ds.map .p)
theorem eVar_isL {e : Env'} {i : Nat} {x : OD} {ds : List PyData} (h : lk e i = some x) (hx : IsL x ds) : eVar i e = .ok (.p (.list ds)) (e.set i (.p (.list ds))) := by
  rcases hx with rfl | rfl
  · have h2 : e[i]? = some (.p (.list ds)) := by
      unfold lk at h
      split at h <;> simp_all
    rw [eVar_ap, h]
    have : e.set i (.p (.list ds)) = e := by
      apply List.ext_getElem?
      intro j
      rw [List.getElem?_set]
      split
      · rename_i q; subst q; split
        · exact h2.symm
        · rename_i q; rw [List.getElem?_eq_none (by omega)]
      · rfl
    rw [this]
  · rw [eVar_ap, h]
    simp
theorem lcGo_ix {js g t f} : ∀ (l : List PyData) (x : Nat → OD) (env : Nat → Env'), (∀ j (hj : j < l.length), ∃ e1 e2 e3, g (.p l[j]) (env j) = some e1 ∧ t e1 = .ok true e2 ∧ f e2 = .ok (x j) e3 ∧ clr js e3 = env (j + 1)) →
    lcGo js g t f l (env 0) = some ((List.range l.length).map x, env l.length)
  | [], _, _, _ => rfl
  | a :: l, x, env, h => by
    obtain ⟨e1, e2, e3, h1, h2, h3, h4⟩ := h 0 (by simp)
    rw [show (a :: l)[0] = a from rfl] at h1
    rw [lcGo_cons, h1]
    dsimp only
    rw [h2]
    dsimp only
    rw [h3]
    dsimp only
    rw [h4, show env (0 + 1) = (fun j => env (j + 1)) 0 from rfl, lcGo_ix l (fun j => x (j + 1)) (fun j => env (j + 1)) fun j hj => h (j + 1) (by simp; omega)]
    rw [List.length_cons, List.range_succ_eq_map]
    simp
/-- a comprehension over encoded things, the state growing still after the first round -/
theorem lcGo_enc2 {α : Type} {js g t f} (enc : α → PyData) (x : α → OD) (e0 e1 : Env') (l : List α) (h : ∀ a ∈ l, ∀ e, (e = e0 ∨ e = e1) → ∃ a1 a2 a3, g (.p (enc a)) e = some a1 ∧ t a1 = .ok true a2 ∧ f a2 = .ok (x a) a3 ∧ clr js a3 = e1) :
    lcGo js g t f (l.map enc) e0 = some (l.map x, if l = [] then e0 else e1) := by
  cases l with
  | nil => rfl
  | cons a l =>
    obtain ⟨a1, a2, a3, h1, h2, h3, h4⟩ := h a List.mem_cons_self e0 (.inl rfl)
    rw [List.map_cons, lcGo_cons, h1]
    dsimp only
    rw [h2]
    dsimp only
    rw [h3]
    dsimp only
    rw [h4, lcGo_enc enc x e1 l fun b hb => h b (List.mem_cons_of_mem _ hb) e1 (.inr rfl)]
    rfl
@[simp] theorem cut_1 {α : Type} (a : α) (l : List α) : cut (a :: l) (some 1) none = l := by
  have h1 : HT.sIx (l.length + 1) 0 (some 1) = 1 := by
    show _ = 1
    unfold HT.sIx
    simp
  have h2 : HT.sIx (l.length + 1) (l.length + 1) none = l.length + 1 := rfl
  unfold cut
  rw [List.length_cons, h1, h2]
  simp
@[simp] theorem gSlice_l (xs a b) : gSlice (.l xs) a b = (allp xs).map fun ds => .l ((cut ds a b).map .p) := rfl
@[simp] theorem gSlice_list (xs a b) : gSlice (.p (.list xs)) a b = some (.l ((cut xs a b).map .p)) := rfl
@[simp] theorem frzs_mapf {α : Type} (f : α → PyData) (xs : List α) : frzs (xs.map fun x => OD.p (f x)) = some (xs.map f) := frzs_mapc f xs
@[simp] theorem allp_mapf {α : Type} (f : α → PyData) (xs : List α) : allp (xs.map fun x => OD.p (f x)) = some (xs.map f) := allp_mapc f xs
@[simp] theorem vws_mapf {α : Type} (f : α → PyData) (xs : List α) : vws (xs.map fun x => OD.p (f x)) = some (xs.map f) := vws_mapc f xs
@[simp] theorem vw_lpc {α : Type} (f : α → PyData) (xs : List α) : vw (.l (xs.map (OD.p ∘ f))) = some (.list (xs.map f)) := by rw [← List.map_map]; exact vw_lp _
theorem IsL.vw {x : OD} {ds : List PyData} (h : IsL x ds) : vw x = some (.list ds) := by
  rcases h with rfl | rfl
  · rfl
  · exact vw_lp ds
theorem forGo_rng0 {g : Tg} {f : Env' → Out} (n : Nat) (P : Nat → Env' → Prop) (e : Env') (h0 : P 0 e) (st : ∀ j, j < n → ∀ e, P j e → ∃ e1 e2, g (.p (.int (j : Int))) e = some e1 ∧ f e1 = .nx e2 ∧ P (j + 1) e2) :
    ∃ e', forGo g f (rngL 0 n) e = .nx e' ∧ P n e' := forGo_rng 0 n P e h0 fun j hj e he => by rw [Int.zero_add]; exact st j hj e he
theorem rng1_nat {n : Nat} (h : n < 1000000) : rng1 [.p (.int (n : Int))] = some (rngL 0 n) := by
  rw [rng1_int, if_pos (rngOk (by omega) (by omega))]; rfl
theorem rng2_1 {n : Nat} (h : n < 1000000) : rng2 [.p (.int 1), .p (.int (n : Int))] = some (rngL 1 (n - 1)) := by
  rw [rng2_int, if_pos ⟨rngOk (by omega) (by omega), rngOk (by omega) (by omega)⟩, show ((n : Int) - 1).toNat = n - 1 by omega]
theorem rng1_of {n : Int} (h : -1 ≤ n) (h2 : n < 1000000) : rng1 [.p (.int n)] = some (rngL 0 n.toNat) := by
  rw [rng1_int, if_pos (rngOk (by omega) (by omega))]
@[simp] theorem cut_to1 {α : Type} (a : α) (l : List α) : cut (a :: l) none (some 1) = [a] := by
  have h1 : HT.sIx (l.length + 1) (l.length + 1) (some 1) = 1 := by
    show _ = 1
    unfold HT.sIx
    simp
  have h2 : HT.sIx (l.length + 1) 0 none = 0 := rfl
  unfold cut
  rw [List.length_cons, h1, h2]
  simp
/-! loops over a name's list -/
@[simp] theorem itsA_list (ds) : itsA (.p (.list ds)) = some ds := rfl
@[simp] theorem itsA_l (xs) : itsA (.l xs) = allp xs := rfl
@[simp] theorem itsA_tuple (ds) : itsA (.p (.tuple ds)) = none := rfl
@[simp] theorem itsA_t (xs) : itsA (.t xs) = none := rfl
@[simp] theorem sForA_ap (κ i fall g f e) : sForA κ i fall g f e = match lk e i with
  | none => .st
  | some x => match itsA x with
    | some ds => forGoA i x g f (κ ds) e
    | none => fall e := rfl
@[simp] theorem eLcA_ap (κ i js fit g t f e) : eLcA κ i js fit g t f e = match lk e i with
  | none => .st
  | some x0 => match itsA x0 with
    | some ds => if hol js e = true ∧ (κ ds).length ≤ 40000 ∧ js.contains i = false then lcOut (lcGoA i x0 js g t f (κ ds) e) else .st
    | none => eLc js fit g t f e := rfl
@[simp] theorem eFz_ap (f e) : eFz f e = (f e).bind fun d e => match frz d with
  | some d' => .ok (.p d') e
  | none => .ok d e := rfl
theorem IsL.it {x : OD} {ds : List PyData} (h : IsL x ds) : itsA x = some ds := by
  rcases h with rfl | rfl
  · rfl
  · exact allp_map ds
theorem IsL.lk {x : OD} {ds : List PyData} (h : IsL x ds) {e : Env'} {i : Nat} (q : e[i]? = some x) : lk e i = some x := by
  unfold DL.lk
  rw [q]
  rcases h with rfl | rfl <;> rfl
theorem forGoA_nil {i x g f e} (h : lk e i = some x) : forGoA i x g f [] e = .nx e := by unfold forGoA; exact if_pos h
theorem forGoA_cons {i x g f d ds e} (h : lk e i = some x) : forGoA i x g f (d :: ds) e = match g (.p d) e with
    | none => .st
    | some e1 => (f e1).seq (forGoA i x g f ds) := by rw [forGoA]; exact if_pos h
theorem forGoA_fold {α β : Type} {i : Nat} {x : OD} {g : Tg} {f : Env' → Out} (enc : α → PyData) (st : β → Env') (hk : ∀ b, lk (st b) i = some x) (step : β → α → β) (P : β → Prop) : ∀ (l : List α) (b : β), P b → (∀ b a, P b → a ∈ l → P (step b a) ∧ ∃ e1, g (.p (enc a)) (st b) = some e1 ∧ f e1 = .nx (st (step b a))) →
    forGoA i x g f (l.map enc) (st b) = .nx (st (l.foldl step b)) ∧ P (l.foldl step b)
  | [], b, hb, _ => ⟨forGoA_nil (hk b), hb⟩
  | a :: l, b, hb, h => by
    obtain ⟨h1, e1, h2, h3⟩ := h b a hb List.mem_cons_self
    have ih := forGoA_fold enc st hk step P l (step b a) h1 fun b a' hb ha => h b a' hb (List.mem_cons_of_mem _ ha)
    rw [List.map_cons, forGoA_cons (hk b), h2]
    show ((f e1).seq _) = _ ∧ _
    rw [h3]
    exact ih
theorem forGoA_ix {i : Nat} {x : OD} {g : Tg} {f : Env' → Out} : ∀ (l : List PyData) (P : Nat → Env' → Prop) (e : Env'), (∀ j e, P j e → lk e i = some x) → P 0 e → (∀ j (hj : j < l.length) e, P j e → ∃ e1 e2, g (.p l[j]) e = some e1 ∧ f e1 = .nx e2 ∧ P (j + 1) e2) →
    ∃ e', forGoA i x g f l e = .nx e' ∧ P l.length e'
  | [], P, e, hk, h, _ => ⟨e, forGoA_nil (hk 0 e h), h⟩
  | a :: l, P, e, hk, h, k => by
    obtain ⟨e1, e2, h1, h2, h3⟩ := k 0 (by simp) e h
    obtain ⟨e', q1, q2⟩ := forGoA_ix (i := i) (x := x) l (fun j => P (j + 1)) e2 (fun j => hk (j + 1)) h3 fun j hj e he => k (j + 1) (by simp; omega) e he
    refine ⟨e', ?_, q2⟩
    rw [forGoA_cons (hk 0 e h)]
    rw [show (a :: l)[0] = a from rfl] at h1
    rw [h1]
    show ((f e1).seq _) = _
    rw [h2]; exact q1
theorem lcGoA_nil {i x js g t f e} (h : lk e i = some x) : lcGoA i x js g t f [] e = some ([], e) := by unfold lcGoA; exact if_pos h
theorem lcGoA_enc {α : Type} {i : Nat} {x0 : OD} {js g t f} (enc : α → PyData) (x : α → OD) (env : Env') (hk : lk env i = some x0) : ∀ l : List α, (∀ a ∈ l, ∃ e1 e2 e3, g (.p (enc a)) env = some e1 ∧ t e1 = .ok true e2 ∧ f e2 = .ok (x a) e3 ∧ clr js e3 = env) →
    lcGoA i x0 js g t f (l.map enc) env = some (l.map x, env)
  | [], _ => lcGoA_nil hk
  | a :: l, h => by
    obtain ⟨e1, e2, e3, h1, h2, h3, h4⟩ := h a List.mem_cons_self
    rw [List.map_cons, lcGoA, if_pos hk, h1]
    dsimp only
    rw [h2]
    dsimp only
    rw [h3]
    dsimp only
    rw [h4, lcGoA_enc enc x env hk l fun a ha => h a (List.mem_cons_of_mem _ ha)]
    rfl
theorem lcGoA_sel {α : Type} {i : Nat} {x0 : OD} {js g t f} (enc : α → PyData) (p : α → Bool) (x : α → OD) (env : Env') (hk : lk env i = some x0) : ∀ l : List α, (∀ a ∈ l, ∃ e1 e2, g (.p (enc a)) env = some e1 ∧ t e1 = .ok (p a) e2 ∧ (p a = false → clr js e2 = env) ∧ (p a = true → ∃ e3, f e2 = .ok (x a) e3 ∧ clr js e3 = env)) →
    lcGoA i x0 js g t f (l.map enc) env = some ((l.filter p).map x, env)
  | [], _ => lcGoA_nil hk
  | a :: l, h => by
    obtain ⟨e1, e2, h1, h2, h3, h4⟩ := h a List.mem_cons_self
    have ih := lcGoA_sel enc p x env hk l fun a ha => h a (List.mem_cons_of_mem _ ha)
    rw [List.map_cons, lcGoA, if_pos hk, h1]
    dsimp only
    rw [h2]
    cases hp : p a with
    | false =>
      dsimp only
      rw [h3 hp, ih, List.filter_cons, hp]; rfl
    | true =>
      obtain ⟨e3, q1, q2⟩ := h4 hp
      dsimp only
      rw [q1]
      dsimp only
      rw [q2, ih, List.filter_cons, hp]; rfl
theorem IsL.ix {x : OD} {ds : List PyData} (h : IsL x ds) {k : Nat} {d : PyData} (q : ds[k]? = some d) : gIx x (.p (.int (k : Int))) = some (.p d) := by
  rcases h with rfl | rfl
  · rw [gIx_list, atI_n, q]; rfl
  · rw [gIx_lp, atI_n, q]; rfl
theorem IsL.len {x : OD} {ds : List PyData} (h : IsL x ds) : gLen x = some (.p (.int ds.length)) := by
  rcases h with rfl | rfl
  · rfl
  · rw [gLen_l, List.length_map]
theorem IsL.eqY {x y : OD} {ds : List PyData} (h : IsL x ds) (h2 : IsL y ds) (k : Nat) (hn : nms k ds = true) (hk : k + 1 ≤ 64 := by decide) : gEq x y = some (.p (.bool true)) := gEq_yes (k + 1) h.vw h2.vw (by rw [nm]; exact hn) hk
theorem IsL.neN {x y : OD} {ds : List PyData} (h : IsL x ds) (h2 : IsL y ds) (k : Nat) (hn : nms k ds = true) (hk : k + 1 ≤ 64 := by decide) : gNe x y = some (.p (.bool false)) := gNe_no (k + 1) h.vw h2.vw (by rw [nm]; exact hn) hk
theorem nil_IsL : IsL (.l []) [] := .inr rfl
theorem IsL.eq0 {x : OD} {ds : List PyData} (h : IsL x ds) (k : Nat) (hn : nms k ds = true) (hk : k + 1 ≤ 64 := by decide) : gEq x (.l []) = some (.p (.bool (decide (ds = [])))) := by
  cases ds with
  | nil => exact h.eqY nil_IsL k hn hk
  | cons d ds => exact gEq_not (k + 1) 1 h.vw vw_nil (by rw [nm]; exact hn) (by simp [nm, nms]) (by simp) hk
theorem IsL.ne0 {x : OD} {ds : List PyData} (h : IsL x ds) (k : Nat) (hn : nms k ds = true) (hk : k + 1 ≤ 64 := by decide) : gNe x (.l []) = some (.p (.bool (!decide (ds = [])))) := by
  cases ds with
  | nil => exact h.neN nil_IsL k hn hk
  | cons d ds => exact gNe_ne (k + 1) 1 h.vw vw_nil (by rw [nm]; exact hn) (by simp [nm, nms]) (by simp) hk
theorem gIn_yes {neg : Bool} {y : OD} {d : PyData} {ds : List PyData} (hy : IsL y ds) (k : Nat) (h1 : nm k d = true) (h2 : nms k ds = true) (h : d ∈ ds) (hk : k + 1 ≤ 64 := by decide) : gIn neg (.p d) y = some (.p (.bool (!neg))) := by
  unfold gIn
  rw [hy.vw, vw_p]
  have s2 : SeqAt.shaped (.list ds) = true := nm_sh (k := k + 1) (by rw [nm]; exact h2) hk
  show (if _ then _ else _) = _
  rw [if_pos ⟨nm_sh h1 (by omega), s2⟩]
  have : (ds.any fun z => PyData.eqv z d) = true := List.any_eq_true.2 ⟨d, h, (eqv_iff h1 h1).2 rfl⟩
  rw [this]; cases neg <;> rfl
theorem gIn_no {neg : Bool} {y : OD} {d : PyData} {ds : List PyData} (hy : IsL y ds) (k : Nat) (h1 : nm k d = true) (h2 : nms k ds = true) (h : d ∉ ds) (hk : k + 1 ≤ 64 := by decide) : gIn neg (.p d) y = some (.p (.bool neg)) := by
  unfold gIn
  rw [hy.vw, vw_p]
  have s2 : SeqAt.shaped (.list ds) = true := nm_sh (k := k + 1) (by rw [nm]; exact h2) hk
  show (if _ then _ else _) = _
  rw [if_pos ⟨nm_sh h1 (by omega), s2⟩]
  have : (ds.any fun z => PyData.eqv z d) = false := by
    rw [← Bool.not_eq_true, List.any_eq_true]
    rintro ⟨z, hz, e⟩
    exact h ((eqv_iff (nms_iff.1 h2 z hz) h1).1 e ▸ hz)
  rw [this]; cases neg <;> rfl
theorem gInsert_nat {xs : List OD} {k : Nat} {y : OD} (h : xs.length < 100000) (hk : k ≤ 100000) : gInsert xs [.p (.int (k : Int)), y] = some (.p .none, xs.take k ++ [y] ++ xs.drop k) := by
  show (if _ then _ else _) = _
  rw [if_pos ⟨h, by omega, by omega⟩]
  rfl
@[simp] theorem allp_cl (x xs) : allp (.l x :: xs) = none := rfl
@[simp] theorem allp_ct (x xs) : allp (.t x :: xs) = none := rfl
theorem cut_toN {α : Type} (l : List α) (k : Nat) : cut l none (some (k : Int)) = l.take k := by
  unfold cut
  rw [HT.sIx_nat, HT.sIx_none]
  simp
theorem IsL.slice {x : OD} {ds : List PyData} (h : IsL x ds) (a b : Option Int) : gSlice x a b = some (.l ((cut ds a b).map .p)) := by
  rcases h with rfl | rfl
  · rfl
  · rw [gSlice_l, allp_map]; rfl
theorem gExtend_l {xs zs : List OD} (h : xs.length + zs.length ≤ 100000) : gExtend xs [.l zs] = some (.p .none, xs ++ zs) := by
  show (if _ then _ else _) = _
  rw [if_pos h]
theorem enumL_ix (ds : List PyData) {j : Nat} (h : j < ds.length) : (enumL 0 ds)[j]? = some (.tuple [.int (j : Int), ds[j]]) := by
  have : j < (enumL 0 ds).length := by rw [enumL_len]; exact h
  obtain ⟨e, h1, h2⟩ := enumL_get ds 0 j (List.getElem?_eq_getElem this)
  rw [List.getElem?_eq_getElem this, h2]
  rw [List.getElem?_eq_getElem h] at h1
  cases h1
  simp
@[simp] theorem frz_t (xs) : frz (.t xs) = (frzs xs).map .tuple := by rw [frz]
theorem lcGo_no {α : Type} {js g t f} (enc : α → PyData) (env : Env') (l : List α) (h : ∀ a ∈ l, ∃ e1 e2, g (.p (enc a)) env = some e1 ∧ t e1 = .ok false e2 ∧ clr js e2 = env) : lcGo js g t f (l.map enc) env = some ([], env) := by
  have := lcGo_sel (js := js) (g := g) (t := t) (f := f) enc (fun _ => false) (fun _ => OD.h) env l fun a ha => by
    obtain ⟨e1, e2, h1, h2, h3⟩ := h a ha
    exact ⟨e1, e2, h1, h2, fun _ => h3, fun z => nomatch z⟩
  rw [show l.filter (fun _ => false) = [] from List.filter_eq_nil_iff.2 fun _ _ z => nomatch z] at this
  exact this
theorem lcGoA_no {α : Type} {i : Nat} {x0 : OD} {js g t f} (enc : α → PyData) (env : Env') (hk : lk env i = some x0) (l : List α) (h : ∀ a ∈ l, ∃ e1 e2, g (.p (enc a)) env = some e1 ∧ t e1 = .ok false e2 ∧ clr js e2 = env) : lcGoA i x0 js g t f (l.map enc) env = some ([], env) := by
  have := lcGoA_sel (i := i) (x0 := x0) (js := js) (g := g) (t := t) (f := f) enc (fun _ => false) (fun _ => OD.h) env hk l fun a ha => by
    obtain ⟨e1, e2, h1, h2, h3⟩ := h a ha
    exact ⟨e1, e2, h1, h2, fun _ => h3, fun z => nomatch z⟩
  rw [show l.filter (fun _ => false) = [] from List.filter_eq_nil_iff.2 fun _ _ z => nomatch z] at this
  exact this
theorem lcGo_rno {js g t f} (lo : Int) (n : Nat) (env : Env') (h : ∀ j, j < n → ∃ e1 e2, g (.p (.int (lo + (j : Int)))) env = some e1 ∧ t e1 = .ok false e2 ∧ clr js e2 = env) : lcGo js g t f (rngL lo n) env = some ([], env) :=
  lcGo_no (fun (j : Nat) => PyData.int (lo + (j : Int))) env (List.range n) fun j hj => h j (List.mem_range.1 hj)
theorem IsL.isList {x : OD} {ds : List PyData} (h : IsL x ds) : gIsi "list" x = some (.p (.bool true)) := by
  rcases h with rfl | rfl <;> simp
theorem gSorted_i (l : List Int) : gSorted (.l ((l.map PyData.int).map .p)) = some (.l (((srt l).map PyData.int).map .p)) := by
  have : intsOf (.l ((l.map PyData.int).map .p)) = some l := by
    show (its (.l ((l.map PyData.int).map .p))).bind toInts = some l
    rw [its_lx, allp_map]
    show toInts (l.map PyData.int) = some l
    induction l with
    | nil => rfl
    | cons a l ih => rw [List.map_cons, toInts, ih]; rfl
  unfold gSorted
  rw [this]
  simp [Function.comp_def]
theorem cut_toI {α : Type} (l : List α) {k : Int} (h : 0 ≤ k) : cut l none (some k) = l.take k.toNat := by
  obtain ⟨n, rfl⟩ := Int.eq_ofNat_of_zero_le h
  rw [cut_toN]; simp
@[simp] theorem prtO_l (xs) : prtO (.l xs) = some xs := rfl
@[simp] theorem prtO_t (xs) : prtO (.t xs) = some xs := rfl
@[simp] theorem reOD_l (xs ys) : reOD (.l xs) ys = .l ys := rfl
@[simp] theorem reOD_t (xs ys) : reOD (.t xs) ys = .t ys := rfl
@[simp] theorem eMutI_ap (i k g f env) : eMutI i k g f env = match lk env i with
  | none => .st
  | some x => match prtO x with
    | none => .st
    | some xs => match ixN xs.length k with
      | none => .st
      | some j => match xs[j]? with
        | some (.l ys) => (f (env.set i .h)).bind fun zs e => match g ys zs with
          | some (res, ys') => .ok res (e.set i (reOD x (xs.set j (.l ys'))))
          | none => .st
        | _ => .st := rfl
@[simp] theorem eLenI_ap (i k env) : eLenI i k env = match lk env i with
  | none => .st
  | some x => match prtO x with
    | none => .st
    | some xs => match ixN xs.length k with
      | none => .st
      | some j => match xs[j]? with
        | some (.l ys) => .ok (.p (.int ys.length)) env
        | _ => .st := rfl
@[simp] theorem gLen_t (xs) : gLen (.t xs) = some (.p (.int xs.length)) := rfl
end DL

namespace DL
open PySem PySem.Spec PyProof.Rows L2
structure TeC (K : PySem.W.Frag) (mg : Mg) (C : Str) (Ca : Addr) : Prop where
  g : mg C = some (.ref Ca)
  cl : PySem.W.isClsIn K Ca = true
  ty : PySem.W.typeIn K (.ref Ca) = some (.type "type")
theorem al_cons {α : Type} {P : α → Prop} {a : α} {l : List α} (h : P a) (t : ∀ x ∈ l, P x) : ∀ x ∈ a :: l, P x := fun x hx => (List.mem_cons.1 hx).elim (fun e => e ▸ h) (t x)
theorem ne_sub {K : PySem.W.Frag} {a b : Addr} (h : PySem.W.subIn K (.ref a) (.ref b) = some false) (h' : PySem.W.subIn K (.ref a) (.ref a) = some true) : a ≠ b := fun e => by
  rw [← e, h'] at h; cases h
/-! ### xs.index(True) -/
def ixTrue : List Bool → Option Nat
  | [] => none
  | true :: _ => some 0
  | false :: bs => (ixTrue bs).map (· + 1)
theorem ixTrue_spec : ∀ {bs : List Bool} {j : Nat}, ixTrue bs = some j → bs[j]? = some true ∧ ∀ m, m < j → bs[m]? = some false
  | [], _, h => by cases h
  | true :: bs, j, h => by cases h; exact ⟨rfl, fun m hm => absurd hm (Nat.not_lt_zero m)⟩
  | false :: bs, j, h => by
    unfold ixTrue at h
    cases q : ixTrue bs with
    | none => rw [q] at h; cases h
    | some k =>
      rw [q] at h; cases h
      obtain ⟨h1, h2⟩ := ixTrue_spec q
      exact ⟨h1, fun m hm => by
        cases m with
        | zero => rfl
        | succ m => exact h2 m (Nat.lt_of_succ_lt_succ hm)⟩
def gIxT (x : OD) : Option OD := ((its x).bind toBls).bind fun bs => (ixTrue bs).map fun j => .p (.int (j : Int))
theorem s_ixT {K : PySem.W.Frag} : UnS K (fun v H Q => tyV K "list" v H ∧ rIndex K v [.bl true] H Q) gIxT := by
  intro F H v x fx fp d Q rs lx o e k
  unfold gIxT at e
  cases q : its x with
  | none => rw [q] at e; cases e
  | some ds =>
    rw [q] at e
    cases q2 : toBls ds with
    | none => rw [show (some ds).bind toBls = toBls ds from rfl, q2] at e; cases e
    | some bs =>
      rw [show (some ds).bind toBls = toBls ds from rfl, q2] at e
      cases q3 : ixTrue bs with
      | none => rw [show (some bs).bind (fun bs => (ixTrue bs).map fun j => OD.p (.int (j : Int))) = (ixTrue bs).map fun j => OD.p (.int (j : Int)) from rfl, q3] at e; cases e
      | some j =>
        rw [show (some bs).bind (fun bs => (ixTrue bs).map fun j => OD.p (.int (j : Int))) = (ixTrue bs).map fun j => OD.p (.int (j : Int)) from rfl, q3] at e; cases e
        obtain ⟨a, vs, rfl, h, w⟩ := its_at rs.sub o q
        have := toBls_eq q2
        subst this
        rw [w.bls] at h
        obtain ⟨h1, h2⟩ := ixTrue_spec q3
        refine ⟨.inl ⟨rfl, _, SqL.of h⟩, a, _, .bl true, j, .bl true, rfl, rfl, SqL.of h, rfl, ?_, ?_, rfl, fun m z hm hz => ?_, k0 rs k (.p (.int _))⟩
        · rw [List.all_eq_true]; intro z hz
          obtain ⟨b, _, rfl⟩ := List.mem_map.1 hz
          rfl
        · rw [List.getElem?_map, h1]; rfl
        · rw [List.getElem?_map, h2 m hm] at hz; cases hz; rfl
theorem de_ixT {X : Cx} {W : WX} {o : Expr} {f : Env' → R Opd} {j : Nat} {p2 apos cpos : Pos} (ho : DV X W o f) (hbase : attributeBase o "index" X.env (eval o X.env) = eval o X.env := by rfl)
    (hfew : ((backTo cpos (starEach [Expr.Constant (.bool true) j p2] X.env)).all (fun x => !x.1) && (backToKw cpos (keywordEach [] X.env)).all (fun x => x.1.isSome)
      && decide (([Expr.Constant (.bool true) j p2] : List Expr).length + ([] : List Keyword).length + (if ([] : List Keyword).isEmpty then 0 else 1) < 30)) = true := by rfl)
    (hline : (apos.endLine == cpos.line) = true := by rfl) (hst : starEach [Expr.Constant (.bool true) j p2] X.env = (false, eval (Expr.Constant (.bool true) j p2) X.env) :: starEach [] X.env := by rfl) (hpl : (backTo cpos (starEach [] X.env)).any (·.1) = false := by rfl) :
    DE X W (.Call (.Attribute o "index" apos) [.Constant (.bool true) j p2] [] cpos) (eUn gIxT f) :=
  pe_weak (pe_bm PySem.F.plainAttrs_list PySem.F.slot_list_index PySem.F.type_list_index mt_index ho (pa_cons pe_bl pa_nil hst) hbase hfew hline hst hpl) fun σ H Q h => by
    have := un_core (K := X.K) s_ixT h
    exact this
/-! ### texts compared -/
theorem shp_s {z : Str} (h : PyData.strOk z = true) : SeqAt.shaped (.str z) = true := by unfold SeqAt.shaped; simp [PyData.canLay0, PyData.depth, h]
theorem gEq_s {a b : Str} (ha : PyData.strOk a = true) (hb : PyData.strOk b = true) : gEq (.p (.str a)) (.p (.str b)) = some (.p (.bool (decide (a = b)))) := by
  unfold gEq
  simp only [vw_p]
  rw [if_pos ⟨shp_s ha, shp_s hb⟩]
  by_cases e : a = b <;> simp [PyData.eqv, e]
theorem gNe_s {a b : Str} (ha : PyData.strOk a = true) (hb : PyData.strOk b = true) : gNe (.p (.str a)) (.p (.str b)) = some (.p (.bool (!decide (a = b)))) := by
  unfold gNe
  simp only [vw_p]
  rw [if_pos ⟨shp_s ha, shp_s hb⟩]
  by_cases e : a = b <;> simp [PyData.eqv, e]
/-! ### how the new worths are reckoned -/
section
variable (e : Env') (f : Env' → R Opd) (L : List Str) (T n C D : Str)
@[simp] theorem sRaise_ap : sRaise C e = .ex C none e := rfl
@[simp] theorem sRaiseF_ap (g) : sRaiseF C n g e = (g e).out fun d e => match d with
  | .p pd => .ex C (some (n, pd)) e
  | _ => .st := rfl
@[simp] theorem sTry_ap (i j g) : sTry L i j g e = match g e with
  | .ex C x e => if C ∈ L then .nx ((e.set i .h).set j (.er C x)) else .st
  | o => o := rfl
@[simp] theorem eIsE_ap : eIsE L T f e = (f e).bind fun a e1 => ap1 (gIsE L T) a e1 := rfl
@[simp] theorem eFldE_ap : eFldE L n f e = (f e).bind fun a e1 => ap1 (gFldE L n) a e1 := rfl
theorem gIsE_er (g) (h : D ∈ L) : gIsE L T (.er D g) = some (.p (.bool (erSub D T))) := if_pos h
theorem gFldE_er (pd) (h : D ∈ L) : gFldE L n (.er D (some (n, pd))) = some (.p pd) := if_pos ⟨h, rfl⟩
@[simp] theorem gIsN_er (b g) : gIsN b (.er D g) (.p .none) = some (.p (.bool b)) := rfl
end
end DL

namespace DL
variable {K : PySem.W.Frag}
open PySem PySem.Spec PyProof.Rows L2
/-! ### classes of one's own: fields read and stored, instances made -/
structure ClC (K : PySem.W.Frag) (mg : Mg) (C : Str) (fs : List Str) : Prop where
  ex : ∃ Ca, mg C = some (.ref Ca) ∧ PySem.W.nsIn K mainGlobals C = some (some (.ref Ca)) ∧ Cls K Ca ∧ ∀ f ∈ fs, NoAttr K Ca f
def fIx (f : Str) : List Str → Option Nat
  | [] => none
  | g :: r => if g = f then some 0 else (fIx f r).map (· + 1)
theorem zip_get {f : Str} : ∀ {ns : List Str} {vs : List V} {j : Nat}, fIx f ns = some j → (ns.zip vs).lookup f = vs[j]?
  | [], _, _, e => by cases e
  | g :: r, [], j, _ => by simp
  | g :: r, v :: vs, j, e => by
    unfold fIx at e
    rw [List.zip_cons_cons]
    by_cases h : g = f
    · rw [if_pos h] at e; cases e
      rw [List.lookup_cons, show (f == g) = true by simp [h]]; rfl
    · rw [if_neg h] at e
      cases q : fIx f r with
      | none => rw [q] at e; cases e
      | some k =>
        rw [q] at e; cases e
        rw [List.lookup_cons, show (f == g) = false by simp [Ne.symm h]]
        exact (zip_get q).trans (by simp)
theorem zip_put {f : Str} {y : V} : ∀ {ns : List Str} {vs : List V} {j : Nat}, vs.length = ns.length → fIx f ns = some j → putF f y (ns.zip vs) = ns.zip (vs.set j y)
  | [], _, _, _, e => by cases e
  | g :: r, [], j, l, _ => by cases l
  | g :: r, v :: vs, j, l, e => by
    unfold fIx at e
    rw [List.zip_cons_cons]
    unfold putF
    by_cases h : g = f
    · rw [if_pos h] at e; cases e
      rw [if_pos h]; rfl
    · rw [if_neg h] at e
      cases q : fIx f r with
      | none => rw [q] at e; cases e
      | some k =>
        rw [q] at e; cases e
        rw [if_neg h, zip_put (by simpa using l) q]; rfl
theorem zip_new {f : Str} {y : V} : ∀ {ns : List Str} {vs : List V}, vs.length = ns.length → fIx f ns = none → putF f y (ns.zip vs) = (ns ++ [f]).zip (vs ++ [y])
  | [], [], _, _ => rfl
  | [], v :: vs, l, _ => by cases l
  | g :: r, [], l, _ => by cases l
  | g :: r, v :: vs, l, e => by
    unfold fIx at e
    rw [List.zip_cons_cons]
    unfold putF
    by_cases h : g = f
    · rw [if_pos h] at e; cases e
    · rw [if_neg h] at e
      rw [if_neg h, zip_new (by simpa using l) (by cases q : fIx f r with | none => rfl | some k => rw [q] at e; cases e)]; rfl
def gFld (C f : Str) : OD → Option OD
  | .ob C' ns xs => if C' = C then (match fIx f ns with
    | some j => match xs[j]? with
      | some (.p d) => some (.p d)
      | _ => none
    | none => none) else none
  | .fo C' ns ds => if C' = C then (match fIx f ns with
    | some j => ds[j]?.map .p
    | none => none) else none
  | _ => none
theorem s_fld {mg : Mg} {C f : Str} {fs : List Str} (c : ClC K mg C fs) (hf : f ∈ fs) : UnS K (fun x H Q => ∃ a Ca dx fs v, x = .ref a ∧ H a = some (.ins Ca dx fs) ∧ Cls K Ca ∧ NoAttr K Ca f ∧ fs.lookup f = some v ∧ Q v H) (gFld C f) := by
  intro F H v x fx fp d Q rs lx ox e k
  obtain ⟨Ca, _, hn, hc, ha⟩ := c.ex
  unfold gFld at e
  split at e
  · rename_i C' ns xs
    split at e
    · rename_i eC
      subst eC
      split at e
      · rename_i j ej
        split at e
        · rename_i d' ed
          cases e
          cases ox with
          | ob a b h1 h2 h3 h4 h5 =>
            rename_i aa dx Ca' vs fq
            rw [hn] at h3
            obtain ⟨h3, hl⟩ := h3
            cases h3
            obtain ⟨u, f1, f2, hu, wu, _⟩ := h4.get ed (fun z => nomatch z)
            rw [List.getElem?_map] at hu
            refine ⟨_, _, _, _, u, rfl, h1, hc, ha _ hf, ?_, k0 rs k wu.np⟩
            rw [zip_get ej]
            cases q : vs[j]? with
            | none => rw [q] at hu; cases hu
            | some z => rw [q] at hu; cases hu; rfl
        · cases e
      · cases e
    · cases e
  · rename_i C' ns ds
    split at e
    · rename_i eC
      subst eC
      split at e
      · rename_i j ej
        cases ed : ds[j]? with
        | none => rw [ed] at e; cases e
        | some d' =>
          rw [ed] at e; cases e
          cases ox with
          | fo h1 h2 h3 h4 =>
            rename_i aa dx Ca' vs
            rw [hn] at h3
            obtain ⟨h3, hl⟩ := h3
            cases h3
            obtain ⟨u, hu, wu⟩ := h4.get ed
            exact ⟨_, _, _, _, u, rfl, rs.sub _ _ h1, hc, ha _ hf, (zip_get ej).trans hu, k0 rs k (.p wu)⟩
      · cases e
    · cases e
  · cases e
section
variable {X : Cx} {W : WX} {pos : Pos}
theorem de_fld {C f : Str} {fs : List Str} {e : Expr} {fa} (c : ClC X.K X.mg C fs) (ha : DV X W e fa) (hf : f ∈ fs := by decide) (hb : attributeBase e f X.env (eval e X.env) = eval e X.env := by rfl) : DE X W (.Attribute e f pos) (eUn (gFld C f) fa) :=
  pe_weak (pe_fld ha hb) fun σ H Q h => un_core (s_fld c hf) h
/-! ### x.f = e -/
def sFldS (i : Nat) (C f : Str) (g : Env' → R OD) : Env' → Out := fun env => (g env).out fun d e => match lk e i with
  | some (.ob C' ns xs) => if C' = C ∧ ns.length < 900 then (match fIx f ns with
    | some j => .nx (e.set i (.ob C' ns (xs.set j d)))
    | none => .nx (e.set i (.ob C' (ns ++ [f]) (xs ++ [d])))) else .st
  | _ => .st
theorem ds_fld {B : List Nat} {C f : Str} {fs : List Str} (i : Nat) {x : Str} {e : Expr} {g} {px pa : Pos} (c : ClC X.K X.mg C fs) (he : DE X W e g) (hf : f ∈ fs := by decide) (hN : X.N[i]? = some x := by rfl) (hv : Vis X.env.scope x := by first | exact Or.inl rfl | exact Or.inr (Or.inl rfl) | exact Or.inr (Or.inr rfl)) (hd : (x == ("__debug__" : Str)) = false := by decide)
    (hcd : (x == ("__classdict__" : Str)) = false := by decide) (hs : swapsWith e (some (.Attribute (.Name x px) f pa)) pos.line X.env = pure false := by rfl) : DS X W B (.Assign [.Attribute (.Name x px) f pa] e pos) (sFldS i C f g) := ps_weak (ps_fld (pe_var hN hv hd hcd) he hs) fun D σ H ⟨F, env, fp, rs, o, h⟩ => by
  obtain ⟨Ca, _, hn, hc, ha⟩ := c.ex
  refine outE rs o h fun d e1 v F1 H1 fv f1 s1 dj1 w1 o1 h1 => ?_
  cases e0 : lk e1 i with
  | none => rw [e0] at h1; exact h1.elim
  | some x0 =>
    rw [e0] at h1
    cases x0 with
    | ob C' ns xs =>
      dsimp only at h1
      obtain ⟨q1, n1⟩ := lk_some e0
      obtain ⟨u, g1, g2, hu, w0, orest, l1, l2, dk⟩ := o1.get q1 n1
      refine ⟨u, hu, ?_⟩
      split at h1
      · rename_i hC
        obtain ⟨eC, hlen⟩ := hC
        subst eC
        cases w0 with
        | ob fa fdx ha1 hdx h3 wl hd1 =>
          rename_i a dx Ca' vs fq
          rw [hn] at h3
          obtain ⟨h3, hl⟩ := h3
          cases h3
          have zl : (ns.zip vs).length < 1000 := by rw [List.length_zip]; omega
          refine ⟨a, _, dx, _, rfl, ha1, hc, ha _ hf, zl, ?_⟩
          have ai : f1 a := l1 a fa
          have rs1 : RS F1 H1 (Un2 fv f1) := s1.rs
          have nva : ∀ b, fv b → b ≠ a := fun b z e => dj1 b z (e ▸ ai)
          have nvd : ∀ b, fv b → b ≠ dx := fun b z e => dj1 b z (e ▸ l1 dx fdx)
          have ne : dx ≠ a := fun e => by
            rw [e, ha1] at hdx; cases hdx
          -- in general: any new fields' list
          have gen : ∀ (ns' : List Str) (vs' : List V) (xs' : List OD), putF f v (ns.zip vs) = ns'.zip vs' → vs'.length = ns'.length → Ows X.K F1 H1 (vs'.map some) xs' (Un2 fv fq) →
              PoS X.K X.mg W B F H fp σ D (.nx (e1.set i (.ob C' ns' xs'))) → D.nx σ (upd H1 a (.ins Ca dx (putF f v (ns.zip vs)))) := fun ns' vs' xs' ep lp ow h2 => by
            rw [ep]
            have st := Stp.put (o := .ins Ca dx (ns'.zip vs')) rs1 (a := a) (.inr ai)
            have ol' := ow.mono st.inc (H' := upd H1 a (.ins Ca dx (ns'.zip vs'))) fun b z => upd_ne (z.elim (nva b) fun z => (hd1 b z).2.1)
            have or' := orest.mono st.inc (H' := upd H1 a (.ins Ca dx (ns'.zip vs'))) fun b z => upd_ne fun e => dk a fa (e ▸ z)
            have wn : Ow X.K F1 (upd H1 a (.ins Ca dx (ns'.zip vs'))) (.ref a) (.ob C' ns' xs') (Un2 (fun b => b = a ∨ b = dx) (Un2 fv fq)) :=
              .ob (.inl (.inl rfl)) (.inl (.inr rfl)) upd_same ((upd_ne ne).trans hdx) ⟨hn, lp⟩ ol' fun b z => ⟨.inr z, z.elim (nva b) fun z => (hd1 b z).2.1, z.elim (nvd b) fun z => (hd1 b z).2.2⟩
            have dn : Dj (Un2 (fun b => b = a ∨ b = dx) (Un2 fv fq)) g2 := fun b z z2 => by
              rcases z with (rfl | rfl) | z | z
              · exact dk _ fa z2
              · exact dk _ fdx z2
              · exact dj1 b z (l2 b z2)
              · exact dk b (hd1 b z).1 z2
            have op := Ows.put wn or' hu dn
            rw [List.set_set] at op
            have sF := s1.tr st
            refine h2 σ F1 _ _ (sF.less fun b z => ?_) op Bk.id'
            rcases z with ((rfl | rfl) | z | z) | z
            · exact .inr ai
            · exact .inr (l1 _ fdx)
            · exact .inl z
            · exact .inr (l1 b (hd1 b z).1)
            · exact .inr (l2 b z)
          have dvq : Dj fv fq := fun b z z2 => dj1 b z (l1 b (hd1 b z2).1)
          split at h1
          · rename_i j ej
            refine gen ns (vs.set j v) (xs.set j d) (zip_put hl ej) (by rw [List.length_set]; exact hl) ?_ h1
            rw [List.map_set]
            exact Ows.store w1 j wl dvq
          · rename_i ej
            refine gen (ns ++ [f]) (vs ++ [v]) (xs ++ [d]) (zip_new hl ej) (by simp [hl]) ?_ h1
            rw [List.map_append]
            exact (Ows.app (Ows.one w1) wl dvq).weak fun b z => z.elim .inr .inl
      · exact h1.elim
    | _ => exact h1.elim
/-! ### an instance made -/
def tMakeS (C : Addr) (sp : Sp) (E : L2.St → XK) (t : TA) : TE := fun σ H Q => t σ H fun vs H1 => ∀ x dx, H1 x = none → H1 dx = none → dx ≠ x →
  sp (.ref x :: vs) (upd (upd H1 dx (.own x)) x (.ins C dx [])) (fun v H2 => v = .non ∧ Q (.ref x) H2) (E σ)
theorem run_makeS {CX : CXT} {k : Nat} {f C : Addr} {fd : FuncData} {ps : List Str} {sp : Sp} {E : L2.St → XK} {pins : List (Addr × Obj)} {σ : L2.St} {H : Hp} {s : Shared} {Q : VK} {us : List Value} {vs : List V} (M : Mk X.K C f) (F : FnOk X.prog X.w X.K X.mg X.base CX k f fd ps sp) (hr : Room (k + 1) X.A) (hb : Binds X.K fd ps [])
    (hx : PassesAt CX X σ (E σ)) (I : Inv X pins σ H s) (r : Vals vs us)
    (h : ∀ x dx, H x = none → H dx = none → dx ≠ x → sp (.ref x :: vs) (upd (upd H dx (.own x)) x (.ins C dx [])) (fun v H2 => v = .non ∧ Q (.ref x) H2) (E σ)) :
    wpAny (model X.prog X.w) X.A (call (.ref C) us) (EP X pins σ Q) X.xe s := by
  have hq := h (s.heap.objs.size + 1) s.heap.objs.size (I.hok.fresh (Nat.le_succ _)) (I.hok.fresh (Nat.le_refl _)) (Nat.ne_of_lt (Nat.lt_succ_self _))
  have I2 := Inv.made (C := C) I
  have r2 : Vals (V.ref (s.heap.objs.size + 1) :: vs) (Value.ref (s.heap.objs.size + 1) :: us) := .cons rfl r
  have hl : (Value.ref (s.heap.objs.size + 1) :: us).length = ps.length := by
    have e := r2.length
    rw [F.len _ _ _ _ hq] at e
    exact e.symm
  have b := hb _ (Value.ref (s.heap.objs.size + 1) :: us) I2.kIn (by rw [List.append_nil]; exact hl)
  rw [List.append_nil] at b
  refine wpAny_call (make_map (f := f) I.kIn M.makes M.init (beq_iff_eq.mp M.fn) (codeAny_mono (F.run _ X.stack _ _ ⟨Value.ref (s.heap.objs.size + 1) :: us, []⟩ (Value.ref (s.heap.objs.size + 1) :: us) _ _ (E σ) (hr.make C us [])
    (I2.env0.make C us []) b r2 hq) fun r s' hq' => ?_))
  cases r with
  | error e => exact hx pins _ _ e s' I2 hq'
  | ok fl =>
    cases fl with
    | ret u =>
      obtain ⟨v, H', I3, rv, ev, q3⟩ := I2.after hq'
      subst ev
      exact ⟨rv, ⟨V.ref (s.heap.objs.size + 1), H', I3, rfl, q3⟩⟩
    | next => exact False.elim hq'
    | brk => exact False.elim hq'
    | cont => exact False.elim hq'
theorem pe_makeS {CX : CXT} {k : Nat} {f C : Addr} {fd : FuncData} {ps : List Str} {sp : Sp} {E : L2.St → XK} {x : Str} {e : Expr} {es : List Expr} {t : TA} {p : Pos} (M : Mk X.K C f) (F : FnOk X.prog X.w X.K X.mg X.base CX k f fd ps sp) (hr : Room (k + 1) X.A) (hg : Gl X x) (hm : X.mg x = some (.ref C)) (hb : Binds X.K fd ps []) (hx : ∀ σ, PassesAt CX X σ (E σ))
    (ha : PA X (e :: es) t) (hdb : (x == ("__debug__" : Str)) = false := by decide) (he : starEach (e :: es) X.env = (false, eval e X.env) :: starEach es X.env := by rfl) (hpl : (backTo pos (starEach es X.env)).any (·.1) = false := by rfl) :
    PE X (.Call (.Name x p) (e :: es) [] pos) (tMakeS C sp E t) := by
  refine ⟨fun pins s σ H Q I h => ?_⟩
  refine wpAny_Call_Name_kw (ld_glob I hg hm ?_ hdb)
  refine PySem.W.callWith_K (h₀ := X.base) I.ok.mod.kin M.kp (thn (ha.run pos pins s σ H _ I h) fun us s1 ⟨vs, H1, I1, r, q⟩ => ⟨I1.kIn, ?_⟩) he hpl
  exact run_makeS M F hr hb (hx σ) I1 r q
theorem pe_makeS0 {CX : CXT} {k : Nat} {f C : Addr} {fd : FuncData} {ps : List Str} {sp : Sp} {E : L2.St → XK} {x : Str} {p : Pos} (M : Mk X.K C f) (F : FnOk X.prog X.w X.K X.mg X.base CX k f fd ps sp) (hr : Room (k + 1) X.A) (hg : Gl X x) (hm : X.mg x = some (.ref C)) (hb : Binds X.K fd ps []) (hx : ∀ σ, PassesAt CX X σ (E σ))
    (hdb : (x == ("__debug__" : Str)) = false := by decide) : PE X (.Call (.Name x p) [] [] pos) (tMakeS C sp E tNil) := by
  refine ⟨fun pins s σ H Q I h => ?_⟩
  refine wpAny_Call_Name_kw (ld_glob I hg hm ?_ hdb)
  exact PySem.W.callWith_K0 I.kIn M.kp (run_makeS (us := []) M F hr hb (hx σ) I .nil h)
structure DefM (P : Program) (w : World) (K : PySem.W.Frag) (mg : Mg) (base : Heap) (C : Str) (n : Nat) (φ : Fn) (k : Nat) : Prop where
  ex : ∃ Ca f fd ps, mg C = some (.ref Ca) ∧ PySem.W.nsIn K mainGlobals C = some (some (.ref Ca)) ∧ Mk K Ca f ∧ FnOk P w K mg base (L2.CX P w) k f fd ps (spD K mg (n + 1) φ) ∧ Binds K fd ps []
abbrev DefMX (X : Cx) (x : Str) (n : Nat) (φ : Fn) (k : Nat) : Prop := DefM X.prog X.w X.K X.mg X.base x n φ k
def mkOut (bs : List (Option Nat)) (e : Env') : R OD → R OD
  | .ok (.p .none) (o :: xs) => .ok o (putBack bs xs e)
  | .ex C x (_ :: xs) => .ex C x (putBack bs xs e)
  | _ => .st
def eMk (C : Str) (φ : Fn) (f : Env' → R (List BO)) : Env' → R OD := fun env => (f env).bind fun ys e => mkOut (ys.map (·.2)) e (φ (.ob C [] [] :: ys.map (·.1)))
theorem Ows.uncons {F H : Hp} {u : V} {us : List V} {x : OD} {xs : List OD} {fp : Fp} (o : Ows K F H ((u :: us).map some) (x :: xs) fp) : ∃ g1 g2 : Fp, Ow K F H u x g1 ∧ Ows K F H (us.map some) xs g2 ∧ (∀ b, g1 b → fp b) ∧ (∀ b, g2 b → fp b) ∧ Dj g1 g2 := by
  cases o with
  | hole t => exact ⟨NoFp, fp, .h, t, fun _ z => z.elim, fun _ z => z, dj0⟩
  | cons a b c d e => exact ⟨_, _, a, b, c, d, e⟩
theorem mk_core {n : Nat} {C : Str} {Ca : Addr} {φ : Fn} {f : Env' → R (List BO)} {σ : L2.St} {H : Hp} {Q : VK} {mg : Mg} (hnC : PySem.W.nsIn K mainGlobals C = some (some (.ref Ca))) (hn : ∀ env ys e, f env = .ok ys e → ys.length = n) : dTE K mg W (eMk C φ f) σ H Q → tMakeS Ca (spD K mg (n + 1) φ) (WE W) (dTBs K mg W f) σ H Q := fun ⟨F, env, fp, rs, o, h⟩ => by
  refine ⟨F, env, fp, rs, o, ?_⟩
  unfold eMk at h
  cases e : f env with
  | st => rw [e] at h; exact h.elim
  | ex C x e' => rw [e] at h; exact h
  | ok ys e1 =>
    rw [e, R.bind_ok] at h
    intro vs F1 H1 fv f1 s1 dj1 w1 bk o1 x dx hx hdx ne
    have hl := ows_len w1
    rw [List.length_map] at hl
    -- the two new objects
    have n1 := Stp.newOwn (o := HO.own x) s1.rs hdx
    have hx1 : upd H1 dx (.own x) x = none := (upd_ne (Ne.symm ne)).trans hx
    have n2 := Stp.newOwn (o := HO.ins Ca dx []) n1.rs hx1
    have s2 := (s1.tr n1).tr n2
    have nn1 : ∀ b, Un2 fv f1 b → b ≠ x ∧ b ≠ dx := fun b z => ⟨fun e => (s1.rs.own b z).2 (e ▸ hx), fun e => (s1.rs.own b z).2 (e ▸ hdx)⟩
    have kp : ∀ b, Un2 fv f1 b → upd (upd H1 dx (.own x)) x (.ins Ca dx []) b = H1 b := fun b z => (upd_ne (nn1 b z).1).trans (upd_ne (nn1 b z).2)
    have w2 := w1.mono (F' := F1) (H' := upd (upd H1 dx (.own x)) x (.ins Ca dx [])) Inc.rfl' fun b z => kp b (.inl z)
    have o2 := o1.mono (F' := F1) (H' := upd (upd H1 dx (.own x)) x (.ins Ca dx [])) Inc.rfl' fun b z => kp b (.inr z)
    let g0 : Fp := fun b => b = x ∨ b = dx
    have wn : Ow K F1 (upd (upd H1 dx (.own x)) x (.ins Ca dx [])) (.ref x) (.ob C [] []) g0 := .ob (vs := []) (fq := NoFp) (.inl rfl) (.inr rfl) upd_same ((upd_ne ne).trans upd_same) ⟨hnC, rfl⟩ .nil fun _ z => z.elim
    have d0 : Dj g0 (Un2 fv f1) := fun b z z2 => z.elim (nn1 b z2).1 (nn1 b z2).2
    have wa : Ows K F1 (upd (upd H1 dx (.own x)) x (.ins Ca dx [])) ((V.ref x :: vs).map some) (.ob C [] [] :: ys.map (·.1)) (Un2 g0 fv) := .cons (f1 := g0) (f2 := fv) wn w2 (fun _ => .inl) (fun _ => .inr) fun b z z2 => d0 b z (.inl z2)
    refine ⟨by rw [List.length_cons, hl, hn _ _ _ e], F1, _, Un2 g0 fv, (s2.less fun b z => ?_).rs, wa, ?_⟩
    · rcases z with (z | z) | z
      · exact .inl z
      · exact .inr (.inl z)
      · exact .inr (.inr (.inl z))
    have rs2 : RS F1 (upd (upd H1 dx (.own x)) x (.ins Ca dx [])) (Un2 (Un2 g0 fv) f1) := (s2.less fun b z => by
      rcases z with ((z | z) | z) | z
      · exact .inl z
      · exact .inr (.inl z)
      · exact .inr (.inr (.inl z))
      · exact .inr (.inr (.inr z))).rs
    have s2' : Stp F H fp F1 (upd (upd H1 dx (.own x)) x (.ins Ca dx [])) (Un2 (Un2 g0 fv) f1) := s2.less fun b z => by
      rcases z with ((z | z) | z) | z
      · exact .inl z
      · exact .inr (.inl z)
      · exact .inr (.inr (.inl z))
      · exact .inr (.inr (.inr z))
    have own : ∀ a, f1 a → F1 a = none ∧ upd (upd H1 dx (.own x)) x (.ins Ca dx []) a ≠ none := fun a q => rs2.own a (.inr q)
    have dja : Dj f1 (Un2 g0 fv) := fun a z z2 => z2.elim (fun z2 => d0 a z2 (.inr z)) fun z2 => dj1 a z2 z
    cases q : φ (.ob C [] [] :: ys.map (·.1)) with
    | st => rw [q] at h; exact h.elim
    | ok d xs =>
      rw [q] at h
      intro v F2 H2 fd fa s3 dj3 wd wr
      unfold mkOut at h
      split at h
      · rename_i eq; cases eq
        refine ⟨by cases wd with | p wd => cases wd; rfl, ?_⟩
        rename_i o0 xs0
        obtain ⟨h1, h2, wo, wx, l1, l2, dd⟩ := wr.uncons
        have o3 := o2.step s3 dja fun a q => (own a q).2
        have d3 := s3.dj dja fun a q => (own a q).2
        have s4 : Stp F H fp F2 H2 (Un2 (Un2 fd fa) f1) := s2'.tr (s3.frame dja own)
        have ob := Ows.back bk wx o3 fun a z z2 => d3 a z2 (.inr (l2 a z))
        exact h (.ref x) F2 H2 h1 _ (s4.less fun a z => z.elim (fun z => .inl (.inr (l1 a z))) fun z => z.elim (fun z => .inl (.inr (l2 a z))) .inr) (fun a z z2 => z2.elim (dd a z) fun z2 => d3 a z2 (.inr (l1 a z))) wo ob
      · rename_i eq; cases eq
      · exact h.elim
    | ex C2 x2 xs =>
      rw [q] at h
      intro F2 H2 fa s3 wr
      unfold mkOut at h
      split at h
      · rename_i eq; cases eq
      · rename_i eq; cases eq
        obtain ⟨h1, h2, wo, wx, l1, l2, dd⟩ := wr.uncons
        have o3 := o2.step s3 dja fun a q => (own a q).2
        have d3 := s3.dj dja fun a q => (own a q).2
        have s4 : Stp F H fp F2 H2 (Un2 fa f1) := s2'.tr (s3.frame dja own)
        have ob := Ows.back bk wx o3 fun a z z2 => d3 a z2 (l2 a z)
        exact h F2 H2 _ (s4.less fun a z => z.elim (fun z => .inl (l2 a z)) .inr) ob
      · exact h.elim
theorem de_make {C : Str} {n j k : Nat} {φ : Fn} {e : Expr} {es : List Expr} {fb} {p : Pos} (G : DefMX X C n φ j) (hr : Room k X.A) (tk : Takes X W) (ha : DBn X W (e :: es) n fb) (hj : j + 1 ≤ k := by decide) (hg : Gl X C := by rfl) (hdb : (C == ("__debug__" : Str)) = false := by decide)
    (he : starEach (e :: es) X.env = (false, eval e X.env) :: starEach es X.env := by rfl) (hpl : (backTo pos (starEach es X.env)).any (·.1) = false := by rfl) : DE X W (.Call (.Name C p) (e :: es) [] pos) (eMk C φ fb) := by
  obtain ⟨Ca, f, fd, ps, hm, hn, M, F, hb⟩ := G.ex
  exact pe_weak (pe_makeS M F (hr.mono hj) hg hm hb (fun σ => passAt tk σ) ha.pa hdb he hpl) fun _ _ _ => mk_core hn ha.ln
theorem de_make0 {C : Str} {j k : Nat} {φ : Fn} {p : Pos} (G : DefMX X C 0 φ j) (hr : Room k X.A) (tk : Takes X W) (hj : j + 1 ≤ k := by decide) (hg : Gl X C := by rfl) (hdb : (C == ("__debug__" : Str)) = false := by decide) : DE X W (.Call (.Name C p) [] [] pos) (eMk C φ bNil) := by
  obtain ⟨Ca, f, fd, ps, hm, hn, M, F, hb⟩ := G.ex
  exact pe_weak (pe_makeS0 M F (hr.mono hj) hg hm hb (fun σ => passAt tk σ) hdb) fun σ H Q h => by
    obtain ⟨F, env, fp, rs, o, h⟩ := mk_core (n := 0) hn bl_nil h
    exact h [] F H NoFp fp (Stp.id0 rs) dj0 .nil .nil o
end
end DL

namespace DL
open PySem PySem.Spec PyProof.Rows L2 RT
/-! ### list(reversed(x)), x a list -/
section
variable {prog : Program} {w : World} {A : Around} {E : Value → Shared → Prop} {s : Shared}
theorem ext_rev {it l : Addr} {items : Array Value} {R : Result → Shared → Prop} (hh : A.handled = none) (hit : s.heap.IsRevIter it l ((items.size : Int) - 1)) (hl : s.heap.IsList l items) (hne : l ≠ it) (hn : items.size ≤ sizeLine) (S : Addr) (hSi : S ≠ it) (hSl : S ≠ l) (res : Value) (c₀ : Nat) (hS : s.heap.get? S = some { cls := .type "list", data := .seq #[] c₀ })
    (hR : ∀ h' tk acc' c', (∀ b o, b ≠ S → b ≠ it → s.heap.get? b = some o → h'.get? b = some o) → h'.get? S = some { cls := .type "list", dict := none, data := .seq acc' c', slots := #[] } →
      ItemsOf (fun i v => items[items.size - 1 - i]? = some v) acc' items.size → R (.ok (.ret res)) { s with heap := h', toks := tk }) :
    wpAny (model prog w) A.in1 (Builtin.List.listExtendWith (.ref S) (.ref it) res)
      (fun fin s' => match fin with | .done f => R (.ok f) s' | .again c' => c'.quiet = true ∧ codeAny (model prog w) A c' R s') (fun e s' => R (.error e) s') s := by
  have W := (Walks.listRev (prog := prog) (w := w) (A := A.in1) hh it l hne items).toS
  have hSf : S ∉ [it, l] := by simp only [List.mem_cons, List.not_mem_nil, or_false, not_or]; exact ⟨hSi, hSl⟩
  have hT : s.TypeIs (.ref it) "list_reverseiterator" := Heap.IsRevIter.typeIs hit
  have h1 : Builtin.List.listSameRef (.ref S) (.ref it) = false := by simp [Builtin.List.listSameRef, hSi]
  unfold Builtin.List.listExtendWith
  refine wpAny_bind (wpAny_typeOf hT ?_)
  rw [if_neg (by rw [h1]; decide)]
  refine wpAny_bind (wpAny_pyIter_revIter hit ?_)
  refine wpAny_bind (wpAny_holding ?_)
  unfold Builtin.List.listLengthHint
  refine wpAny_bind (wpAny_specialOf hT nolen_lri ?_)
  show wpAny _ A.in1 (specialOf (Value.ref it) (Str.ofString "__length_hint__") >>= _) _ _ _
  refine wpAny_bind (wpAny_specialOf hT hint_lri ?_)
  generalize hid : ("list_reverseiterator.__length_hint__" : String) = id0
  wp_delta
  rw [show splitId id0 = some ("list_reverseiterator", "__length_hint__") from by subst hid; decide +kernel]
  subst hid
  refine wpAny_bind (wpAny_isInstance (b := true) hT (by rw [isSubtype_type]; kernel_rfl) ?_)
  refine wpAny_pure ?_
  rw [if_neg (by decide)]
  have e0 : ((items.size : Nat) : Int) - 1 - ((0 : Nat) : Int) = (items.size : Int) - 1 := by omega
  refine wpAny_pure ⟨plainId_quiet F.plain_extend_loop _, codeAny_extend_loopS W hn _ hSf _ items.size 0 _ _ _ rfl (Nat.zero_le _) ⟨Nat.zero_le _, by rw [e0]; exact hit, hl⟩ hS (ItemsOf.nil _) fun s' acc' c' hm hS' hacc => ?_⟩
  rw [Moved.eq_with hm]
  refine hR s'.heap s'.toks acc' c' (fun b ob hb hb2 e => hm.heap b ob (fun hmem => ?_) e) hS' hacc
  rcases List.mem_cons.mp hmem with e' | hmem
  · exact hb e'
  · exact hb2 (List.mem_singleton.mp hmem)
theorem list_init_rev {it l : Addr} {items : Array Value} {R : Result → Shared → Prop} (hh : A.handled = none) (hit : s.heap.IsRevIter it l ((items.size : Int) - 1)) (hl : s.heap.IsList l items) (hne : l ≠ it) (hn : items.size ≤ sizeLine) (S : Addr) (hSi : S ≠ it) (hSl : S ≠ l) (hS : s.heap.get? S = some { cls := .type "list", data := .seq #[] })
    (hR : ∀ h' tk acc' c', (∀ b o, b ≠ S → b ≠ it → s.heap.get? b = some o → h'.get? b = some o) → h'.get? S = some { cls := .type "list", dict := none, data := .seq acc' c', slots := #[] } →
      ItemsOf (fun i v => items[items.size - 1 - i]? = some v) acc' items.size → R (.ok (.ret .none)) { s with heap := h', toks := tk }) :
    wpAny (model prog w) A.in1 (Builtin.«list.__init__» ⟨[.ref S, .ref it], []⟩)
      (fun fin s' => match fin with | .done f => R (.ok f) s' | .again c' => c'.quiet = true ∧ codeAny (model prog w) A c' R s') (fun e s' => R (.error e) s') s := by
  show wpAny _ _ (do let old ← Builtin.List.listItems (.ref S); Builtin.List.listUpdate (.ref S) (fun _ => #[]); letGo old.toList.reverse; Builtin.List.listExtendWith (.ref S) (.ref it) .none) _ _ s
  refine wpAny_bind ?_
  unfold Builtin.List.listItems
  refine wpAny_bind (wpAny_seqItems hS rfl (wpAny_pure ?_))
  show wpAny _ _ (updateSeq S (fun _ => #[]) >>= fun _ => letGo (#[] : Array Value).toList.reverse >>= fun _ => Builtin.List.listExtendWith (.ref S) (.ref it) .none) _ _ s
  refine wpAny_bind (wpAny_updateSeq hS rfl ?_)
  have hS₂ := Heap.get?_update_self (Obj.mapSeq (fun _ => (#[] : Array Value))) hS rfl
  have oth : ∀ b o, b ≠ S → s.heap.get? b = some o → (s.heap.update S (Obj.mapSeq (fun _ => (#[] : Array Value)))).get? b = some o :=
    fun b o hb e => (Heap.get?_update_other _ _ (Ne.symm hb)).trans e
  refine wpAny_bind (wpAny_letGo ?_)
  refine ext_rev (items := items) (l := l) (it := it) hh (hit.at fun o e => oth it o (Ne.symm hSi) e) ?_ hne hn S hSi hSl .none _ hS₂ fun h' tk acc' c' hk hS' hacc => ?_
  · obtain ⟨o, ho, r⟩ := hl
    exact ⟨o, oth l o (Ne.symm hSl) ho, r⟩
  · exact hR h' tk acc' c' (fun b o hb hb2 e => hk b o hb hb2 (oth b o hb e)) hS' hacc
theorem call_list_rev {it l : Addr} {items : Array Value} {Q : Value → Shared → Prop} (hh : A.handled = none) (hit : s.heap.IsRevIter it l ((items.size : Int) - 1)) (hl : s.heap.IsList l items) (hne : l ≠ it) (hn : items.size ≤ sizeLine)
    (hQ : ∀ h' tk acc' c', (∀ b o, b ≠ it → s.heap.get? b = some o → h'.get? b = some o) →
      h'.get? s.heap.objs.size = some { cls := .type "list", dict := none, data := .seq acc' c', slots := #[] } → ItemsOf (fun i v => items[items.size - 1 - i]? = some v) acc' items.size → Q (.ref s.heap.objs.size) { s with heap := h', toks := tk }) :
    wpAny (model prog w) A (call (.type "list") [.ref it]) Q E s := by
  refine callType_codes (Q₁ := fun obj s₁ => obj = .ref s.heap.objs.size ∧ s₁ = { s with heap := s.heap.push { cls := .type "list", data := .seq #[] } }) F.called_list (F.typeCall_list_1 _) F.entry_list_init
    (code_list_new _ ⟨rfl, rfl⟩) fun obj s₁ h₁ => ?_
  obtain ⟨rfl, rfl⟩ := h₁
  have hS : (s.heap.push { cls := .type "list", data := .seq #[] }).get? s.heap.objs.size = some { cls := .type "list", data := .seq #[] } := Heap.get?_push_size _ rfl
  obtain ⟨oi, hoi, _⟩ := id hit
  obtain ⟨ol, hol, _⟩ := id hl
  refine ⟨⟨_, hS, rfl⟩, F.args_list_init_2 _ _, list_init_rev (A := A.in1) (items := items) (l := l) hh (hit.at fun o e => Heap.get?_push_of_some _ e) (hl.push _) hne hn _ (Nat.ne_of_gt (Heap.lt_size hoi)) (Nat.ne_of_gt (Heap.lt_size hol)) hS fun h' tk acc' c' hk hS' hacc => ?_⟩
  exact ⟨rfl, hQ h' tk acc' c' (fun b o hb e => hk b o (Nat.ne_of_lt (Heap.lt_size e)) hb (Heap.get?_push_of_some _ e)) hS' hacc⟩
end
section
variable {X : Cx} {W : WX}
theorem vals_revL {xs : List V} {its : List Value} {acc : Array Value} (r : Vals xs its) (h : ItemsOf (fun i v => its.toArray[its.toArray.size - 1 - i]? = some v) acc its.toArray.size) : Vals xs.reverse acc.toList := by
  have hs : its.toArray.size = its.length := List.size_toArray
  have hl : acc.toList.length = its.length := by rw [Array.length_toList, h.1, hs]
  have e : acc.toList = its.reverse := by
    apply List.ext_getElem?
    intro j
    by_cases hj : j < its.length
    · have hja : j < acc.toList.length := by omega
      have e1 : acc.toList[j]? = some acc.toList[j] := List.getElem?_eq_getElem hja
      have e2 : its.toArray[its.toArray.size - 1 - j]? = some acc.toList[j] := h.2 j _ (by rw [← Array.getElem?_toList]; exact e1)
      rw [e1, List.getElem?_reverse hj, ← e2, hs] <;> simp
    · rw [List.getElem?_eq_none (by omega), List.getElem?_eq_none (by rw [List.length_reverse]; omega)]
  rw [e]
  exact r.reverse
def rListRev (K : PySem.W.Frag) : V → Hp → VK → Prop := fun v H Q => ∃ (a : Addr) (xs : List V), v = .ref a ∧ SqL K H a xs ∧ ∀ q, H q = none → Q (.ref q) (upd H q (.lst xs.reverse))
theorem pe_listRev {e : Expr} {te : TE} {p p2 pos pos2 : Pos} (hc : X.calm = true) (hg : Gl X "list") (hm : X.mg "list" = none) (hg2 : Gl X "reversed") (hm2 : X.mg "reversed" = none) (he : PE X e te)
    (hs : starEach [e] X.env = (false, eval e X.env) :: starEach [] X.env := by rfl)
    (hs2 : starEach [.Call (.Name "reversed" p2) [e] [] pos2] X.env = (false, eval (.Call (.Name "reversed" p2) [e] [] pos2) X.env) :: starEach [] X.env := by rfl) :
    PE X (.Call (.Name "list" p) [.Call (.Name "reversed" p2) [e] [] pos2] [] pos) (tUn (rListRev X.K) te) := by
  refine ⟨fun pins s σ H Q I h => ?_⟩
  refine Call_ (ld_blt I hg hm boot_list (PyProof.Rows.callWith_type1 (args_cons (Call_ (ld_blt I hg2 hm2 PyProof.Rows.boot_reversed (PyProof.Rows.callWith_type1 (args_cons (thn (he.run pins s σ H _ I h) fun u s1 ⟨v, H1, I1, r1, q1⟩ => args_nil ?_) hs) hs rfl))) hs2) hs2 rfl))
  obtain ⟨a, xs, ev, hq, q⟩ := q1
  subst ev
  obtain rfl : u = Value.ref a := r1
  obtain ⟨its, rv, p', hz⟩ := I1.list hq
  refine call_reversed_list p'.isList (args_nil ?_)
  have k0 : ∀ b o, s1.heap.get? b = some o → (s1.heap.push (revObj a ((its.toArray.size : Int) - 1))).get? b = some o := fun b o e => Heap.get?_push_of_some _ e
  have I2 : Inv X pins σ H1 { s1 with heap := s1.heap.push (revObj a ((its.toArray.size : Int) - 1)) } := I1.kept (t' := s1.toks) k0
  obtain ⟨f0, f1, f2, f3, f4, f5⟩ := I1.fpOk (H' := H1) (b := s1.heap.objs.size) (Nat.le_refl _) (I1.hok.fresh (Nat.le_refl _))
  have hl := p'.isList
  obtain ⟨ol, hol, _⟩ := id hl
  have hne : a ≠ s1.heap.objs.size := Nat.ne_of_lt (Heap.lt_size hol)
  have hn : its.toArray.size ≤ sizeLine := by rw [List.size_toArray, ← rv.length]; exact hz
  refine call_list_rev (s := { s1 with heap := s1.heap.push (revObj a ((its.toArray.size : Int) - 1)) }) (I1.ok.hd hc) ⟨_, Heap.get?_push_size _ rfl, rfl, rfl⟩ (hl.push _) hne hn fun h' tk acc c' hk hS hi => ?_
  have hsz : (s1.heap.push (revObj a ((its.toArray.size : Int) - 1))).objs.size = s1.heap.objs.size + 1 := Heap.size_push _ _
  have fr : H1 (s1.heap.push (revObj a ((its.toArray.size : Int) - 1))).objs.size = none := I2.hok.fresh (Nat.le_refl _)
  refine ⟨.ref _, upd H1 (s1.heap.push (revObj a ((its.toArray.size : Int) - 1))).objs.size (.lst xs.reverse), ?_, rfl, q _ fr⟩
  refine I1.laid (t' := tk) (fun b o e => hk b o (Nat.ne_of_lt (Heap.lt_size e)) (k0 b o e)) (by rw [hsz]; exact Nat.le_succ _) (show ObjOk X.prog X.w _ _ _ (.lst xs.reverse) from ⟨by rw [List.length_reverse]; exact hz, acc.toList, c', vals_revL rv hi, ?_⟩)
  rw [Array.toArray_toList]
  exact hS
theorem s_listRev {K : PySem.W.Frag} : UnS K (rListRev K) gRev := by
  intro F H v x fx fp d Q rs lx o e k
  unfold gRev at e
  cases q : its x with
  | none => rw [q] at e; cases e
  | some ds =>
    rw [q] at e; cases e
    obtain ⟨a, vs, rfl, h, w⟩ := its_at rs.sub o q
    exact ⟨a, vs, rfl, SqL.of h, newL rs w.rev k⟩
theorem de_listRev {e : Expr} {f} {p p2 pos pos2 : Pos} (hc : X.calm = true) (hg : Gl X "list") (hm : X.mg "list" = none) (hg2 : Gl X "reversed") (hm2 : X.mg "reversed" = none) (he : DV X W e f)
    (hs : starEach [e] X.env = (false, eval e X.env) :: starEach [] X.env := by rfl)
    (hs2 : starEach [.Call (.Name "reversed" p2) [e] [] pos2] X.env = (false, eval (.Call (.Name "reversed" p2) [e] [] pos2) X.env) :: starEach [] X.env := by rfl) :
    DE X W (.Call (.Name "list" p) [.Call (.Name "reversed" p2) [e] [] pos2] [] pos) (eUn gRev f) :=
  pe_weak (pe_listRev hc hg hm hg2 hm2 he hs hs2) fun σ H Q h => un_core s_listRev h
/-! ### a op b op' c, of ints -/
def eChI (b1 b2 : Int → Int → Bool) (fa fb fc : Env' → R Opd) : Env' → R OD := fun env => (fa env).bind fun a e1 => (fb e1).bind fun b e2 => match a.at e2, b.at e2 with
  | some (.p (.int i)), some (.p (.int j)) => if b1 i j = true then (fc e2).bind fun c e3 => match c.at e3 with
      | some (.p (.int k)) => .ok (.p (.bool (b2 j k))) e3
      | _ => .st else .ok (.p (.bool false)) e2
  | _, _ => .st
theorem chI_core {K : PySem.W.Frag} {mg : Mg} {b1 b2 : Int → Int → Bool} {fa fb fc : Env' → R Opd} {σ : L2.St} {H : Hp} {Q : VK} : dTE K mg W (eChI b1 b2 fa fb fc) σ H Q → tChain (rI0 fun i j => .bl (b1 i j)) (rI0 fun i j => .bl (b2 i j)) (dTV K mg W fa) (dTV K mg W fb) (dTV K mg W fc) σ H Q := fun ⟨F, env, fp, rs, o, h⟩ => by
  refine seqV (Stp.rfl' rs) (fun _ q => q) o (fun h => h) PoE.ex_ h fun a e1 v F1 H1 fv f1 s1 dj1 w1 o1 h1 => ?_
  refine seqV s1 (fun _ q => .inr q) o1 (fun h => h) PoE.ex_ h1 fun b e2 u F2 H2 fu f2 s2 dj2 w2 o2 h2 => ?_
  have own : ∀ a, fv a → F1 a = none ∧ H1 a ≠ none := fun a q => s1.rs.own a (.inl q)
  have w1' := Held.step s2 dj1 (fun a q => (own a q).2) w1
  have s3 : Stp F H fp F2 H2 (Un2 (Un2 fu f2) fv) := s1.tr ((s2.frame dj1 own).from fun a q => q.elim .inr .inl)
  split at h2
  · rename_i i j ea eb
    obtain ⟨fx, ox, lx⟩ := w1'.look o2 ea
    obtain ⟨fy, oy, ly⟩ := w2.look o2 eb
    cases Ow.int ox
    cases Ow.int oy
    refine ⟨i, j, rfl, rfl, b1 i j, rfl, ?_⟩
    cases eb1 : b1 i j with
    | false =>
      rw [eb1] at h2
      rw [if_neg Bool.false_ne_true] at h2 ⊢
      exact h2.fin s3 (fun a q => .inl (.inr q)) o2 _ F2 H2 NoFp ((Stp.rfl' ⟨s3.rs.sub, fun _ z => z.elim⟩)) (.p (.bl _))
    | true =>
      rw [eb1] at h2
      rw [if_pos rfl] at h2 ⊢
      refine seqV s3 (fun _ q => .inl (.inr q)) o2 (fun h => h) PoE.ex_ h2 fun c e3 t F3 H3 ft f3 s4 dj3 w3 o3 h3 => ?_
      split at h3
      · rename_i k ec
        obtain ⟨fz, oz, lz⟩ := w3.look o3 ec
        cases Ow.int oz
        have s5 : Stp F H fp F3 H3 (Un2 ft f3) := s3.tr (s4.from fun a q => .inl (.inr q))
        exact ⟨j, k, rfl, rfl, h3.fin s5 (fun a q => .inr q) o3 _ F3 H3 NoFp (Stp.rfl' ⟨s5.rs.sub, fun _ z => z.elim⟩) (.p (.bl _))⟩
      · exact h3.elim
  · exact h2.elim
theorem de_chI {op op' : CmpOp} {b1 b2 : Int → Int → Bool} {a b c : Expr} {fa fb fc} {pos : Pos} (ho : OpR X (compareOp op) (rI0 fun i j => .bl (b1 i j))) (ho' : OpR X (compareOp op') (rI0 fun i j => .bl (b2 i j))) (ha : DV X W a fa) (hb : DV X W b fb) (hc : DV X W c fc)
    (hm : lastMarks [op, op'] [b, c] = false := by with_unfolding_all rfl) : DE X W (.Compare a [op, op'] [b, c] pos) (eChI b1 b2 fa fb fc) := pe_weak (pe_chain ho ho' ha hb hc hm) fun _ _ _ => chI_core
theorem dt_chI {op op' : CmpOp} {b1 b2 : Int → Int → Bool} {a b c : Expr} {fa fb fc} {pos : Pos} (ho : OpR X (compareOp op) (rI0 fun i j => .bl (b1 i j))) (ho' : OpR X (compareOp op') (rI0 fun i j => .bl (b2 i j))) (ha : DV X W a fa) (hb : DV X W b fb) (hc : DV X W c fc)
    (hm : lastMarks [op, op'] [b, c] = false := by with_unfolding_all rfl) : DT X W (.Compare a [op, op'] [b, c] pos) (eB (eChI b1 b2 fa fb fc)) := pt_weak (pt_chain ho ho' ha hb hc hm) fun _ _ _ h => chI_core (bool_core h)
/-! ### range with a step; zip -/
def rngS (lo c : Int) (n : Nat) : List PyData := (List.range n).map fun (i : Nat) => PyData.int (lo + (i : Int) * c)
theorem jok_rngS {F : Hp} {lo c : Int} {n : Nat} : JOk F (Itc lo c n) (rngS lo c n) := fun F1 H1 i1 i2 i => by
  have hl : (rngS lo c n).length = n := by unfold rngS; simp
  rw [hl]
  refine ⟨fun h => h, fun h => h, fun d hd x H' hy => ?_⟩
  obtain ⟨rfl, rfl⟩ := hy
  unfold rngS at hd
  rw [List.getElem?_map] at hd
  by_cases hi : i < n
  · rw [List.getElem?_range hi] at hd; cases hd
    exact ⟨F1, Stp.rfl' ⟨i2, fun _ z => z.elim⟩, .int _⟩
  · rw [List.getElem?_eq_none (by simpa using hi)] at hd; cases hd
open Classical in
noncomputable def rng3 : List OD → Option (List PyData)
  | [.p (.int i), .p (.int j), .p (.int c)] => if h : ∃ n, RgC i j c n then some (rngS i c h.choose) else none
  | _ => none
theorem rng3_eq {i j c : Int} {n : Nat} (h : RgC i j c n) : rng3 [.p (.int i), .p (.int j), .p (.int c)] = some (rngS i c n) := by
  have e : ∃ n, RgC i j c n := ⟨n, h⟩
  classical
  show (if h : ∃ n, RgC i j c n then some (rngS i c h.choose) else none) = _
  rw [dif_pos e]
  have := e.choose_spec
  have e2 : e.choose = n := by
    have := this.2.2.2.symm.trans h.2.2.2
    omega
  rw [e2]
theorem di_rng3 {tg a b c : Expr} {f} {p pos : Pos} (hg : Gl X "range") (hm : X.mg "range" = none) (ha : DVs X W [a, b, c] f) (hs : starEach [a, b, c] X.env = (false, eval a X.env) :: starEach [b, c] X.env := by rfl) (hpl : (backTo pos (starEach [b, c] X.env)).any (·.1) = false := by rfl) :
    DI X W tg (.Call (.Name "range" p) [a, b, c] [] pos) (iArgs rng3 f) :=
  pi_weak (pi_range3 hg hm ha hs hpl) fun σ H Q h => rng_core (fun vs H1 Q => ∃ (i j c : Int) (n : Nat), vs = [.int i, .int j, .int c] ∧ RgC i j c n ∧ Q (Itc i c n) H1) (fun F H vs xs ds Q i pr e k => by
    unfold rng3 at e
    split at e
    · split at e
      · rename_i q
        cases e
        cases pr with
        | cons a b =>
          cases b with
          | cons b c =>
            cases c with
            | cons c d =>
              cases d
              obtain ⟨_, _, w⟩ := a
              obtain ⟨_, _, w2⟩ := b
              obtain ⟨_, _, w3⟩ := c
              exact ⟨_, _, _, _, by rw [Ow.int w, Ow.int w2, Ow.int w3], q.choose_spec, k _ jok_rngS⟩
      · cases e
    · cases e) h
def zipL (xs ys : List PyData) : List PyData := (xs.zip ys).map fun p => .tuple [p.1, p.2]
theorem jok_zip {K : PySem.W.Frag} {F : Hp} {a b : Addr} {vs us : List V} {ds es : List PyData} (h : F a = some (.lst vs)) (w : DdL F vs ds) (h2 : F b = some (.lst us)) (w2 : DdL F us es) : JOk F (Itz K a b) (zipL ds es) := fun F1 H1 i1 i2 i => by
  have hH : SqL K H1 a vs := SqL.of (i2 _ _ (i1 _ _ h))
  have hH2 : SqL K H1 b us := SqL.of (i2 _ _ (i1 _ _ h2))
  have hl : (zipL ds es).length = min ds.length es.length := by unfold zipL; simp
  rw [hl]
  refine ⟨fun hi => ?_, fun hi => ⟨vs, us, hH, hH2, ?_⟩, fun d hd x H' hy => ?_⟩
  · obtain ⟨v, hv, _⟩ := w.get (List.getElem?_eq_getElem (show i < ds.length by omega))
    obtain ⟨u, hu, _⟩ := w2.get (List.getElem?_eq_getElem (show i < es.length by omega))
    exact ⟨vs, us, v, u, hH, hH2, hv, hu⟩
  · rw [w.len, w2.len]; omega
  · unfold zipL at hd
    rw [List.getElem?_map] at hd
    cases q : (ds.zip es)[i]? with
    | none => rw [q] at hd; cases hd
    | some p =>
      rw [q] at hd; cases hd
      obtain ⟨d1, d2⟩ := p
      rw [List.getElem?_zip_eq_some] at q
      obtain ⟨T, y, z, rfl, hT, rfl, hx, hz⟩ := hy
      obtain ⟨v, hv, q1⟩ := w.get q.1
      obtain ⟨u, hu, q2⟩ := w2.get q.2
      have ev : v = y := Option.some.inj (hv.symm.trans (hx vs hH))
      have eu : u = z := Option.some.inj (hu.symm.trans (hz us hH2))
      subst ev eu
      have st := Stp.newPure (o := .tup [v, u]) (fp := NoFp) ⟨i2, fun _ z => z.elim⟩ hT
      exact ⟨_, st, .tup upd_same (.cons ((q1.inc i1).inc st.inc) (.cons ((q2.inc i1).inc st.inc) .nil))⟩
def zips : List OD → Option (List PyData)
  | [.p (.list xs), .p (.list ys)] => some (zipL xs ys)
  | _ => none
theorem di_zip {elts : List Expr} {kk : Nat} {a b : Expr} {f} {p pos tpos : Pos} (hg : Gl X "zip") (hm : X.mg "zip" = none) (ha : DVs X W [a, b] f) (hs : starEach [a, b] X.env = (false, eval a X.env) :: starEach [b] X.env := by rfl) (hpl : (backTo pos (starEach [b] X.env)).any (·.1) = false := by rfl) :
    DI X W (.Tuple elts kk tpos) (.Call (.Name "zip" p) [a, b] [] pos) (iArgs zips f) := pi_weak (pi_zip hg hm ha hs hpl) fun σ H Q ⟨F, env, fp, rs, o, h⟩ => by
  refine seqVs (Stp.rfl' rs) (fun _ q => q) o (fun h => h) PoI.ex_ h fun os e1 vs F1 H1 fv f1 s1 dj1 w1 o1 h1 => ?_
  cases ea : ats e1 os with
  | none => rw [ea] at h1; exact h1.elim
  | some xs =>
    rw [ea] at h1
    dsimp only at h1
    cases eg : zips xs with
    | none => rw [eg] at h1; exact h1.elim
    | some ds =>
      rw [eg] at h1
      have lk := Helds.looks o1 w1 ea
      unfold zips at eg
      split at eg
      · rename_i dx dy
        cases eg
        cases lk with
        | cons a b =>
          cases b with
          | cons b c =>
            cases c
            obtain ⟨_, _, wa⟩ := a
            obtain ⟨_, _, wb⟩ := b
            cases wa with | p wa => cases wb with | p wb =>
              cases wa with | lst ha da => cases wb with | lst hb db =>
                exact ⟨_, _, _, _, rfl, SqL.of (s1.rs.sub _ _ ha), SqL.of (s1.rs.sub _ _ hb), h1 _ F1 H1 f1 (s1.less fun _ => .inr) (jok_zip ha da hb db) o1⟩
      · cases eg
/-! ### a call that only looks: what it is handed stands still meanwhile -/
mutual
/-- no list in it -/
def nlD : PyData → Bool
  | .none => true
  | .bool _ => true
  | .int _ => true
  | .str _ => true
  | .tuple ds => nlDs ds
  | _ => false
def nlDs : List PyData → Bool
  | [] => true
  | d :: ds => nlD d && nlDs ds
end
def allPn : List OD → Bool
  | [] => true
  | .p d :: xs => nlD d && allPn xs
  | _ => false
def nlO : OD → Bool
  | .p d => nlD d
  | .ob _ _ xs => allPn xs
  | _ => false
def isLst (H : Hp) : Fp := fun a => ∃ vs, H a = some (.lst vs)
open Classical in
noncomputable def sub (F : Hp) (G : Fp) : Hp := fun a => if G a then none else F a
theorem sub_in {F : Hp} {G : Fp} {a : Addr} (q : G a) : sub F G a = none := if_pos q
theorem sub_out {F : Hp} {G : Fp} {a : Addr} (q : ¬ G a) : sub F G a = F a := if_neg q
mutual
theorem Dd.thaw {F : Hp} {G : Fp} (g : ∀ a, G a → isLst F a) : ∀ {v d}, Dd F v d → nlD d = true → Dd (sub F G) v d
  | _, _, .non, _ => .non
  | _, _, .bl b, _ => .bl b
  | _, _, .int i, _ => .int i
  | _, _, .str x, _ => .str x
  | _, _, .lst h t, n => by simp [nlD] at n
  | _, _, .tup h t, n => .tup ((sub_out fun z => by
      obtain ⟨vs, e⟩ := g _ z
      rw [h] at e; cases e).trans h) (t.thaw g (by simpa [nlD] using n))
theorem DdL.thaw {F : Hp} {G : Fp} (g : ∀ a, G a → isLst F a) : ∀ {v d}, DdL F v d → nlDs d = true → DdL (sub F G) v d
  | _, _, .nil, _ => .nil
  | _, _, .cons h t, n => by
    simp [nlDs] at n
    exact .cons (h.thaw g n.1) (t.thaw g n.2)
end
theorem Ows.thaw {K : PySem.W.Frag} {F H : Hp} {G : Fp} (g : ∀ a, G a → isLst F a) : ∀ {us xs fp}, Ows K F H us xs fp → allPn xs = true → Ows K (sub F G) H us xs fp
  | _, _, _, .nil, _ => .nil
  | _, _, _, .hole _, n => by simp [allPn] at n
  | _, _, _, .cons (x := .p d) (.p a) b c d' e, n => by
    simp [allPn] at n
    exact .cons (.p (a.thaw g n.1)) (b.thaw g n.2) c d' e
  | _, _, _, .cons (x := .l _) _ _ _ _ _, n => by simp [allPn] at n
  | _, _, _, .cons (x := .t _) _ _ _ _ _, n => by simp [allPn] at n
  | _, _, _, .cons (x := .h) _ _ _ _ _, n => by simp [allPn] at n
  | _, _, _, .cons (x := .sc _) _ _ _ _ _, n => by simp [allPn] at n
  | _, _, _, .cons (x := .er _ _) _ _ _ _ _, n => by simp [allPn] at n
  | _, _, _, .cons (x := .ob _ _ _) _ _ _ _ _, n => by simp [allPn] at n
  | _, _, _, .cons (x := .fo _ _ _) _ _ _ _ _, n => by simp [allPn] at n
  | _, _, _, .cons (x := .dc _ _) _ _ _ _ _, n => by simp [allPn] at n
theorem Ow.thaw {K : PySem.W.Frag} {F H : Hp} {G : Fp} (g : ∀ a, G a → isLst F a) {v x fp} (w : Ow K F H v x fp) (n : nlO x = true) : Ow K (sub F G) H v x fp := by
  cases w with
  | p w => exact .p (w.thaw g n)
  | ob a b c d e f q => exact .ob a b c d e (f.thaw g n) q
  | h => cases n
  | l => cases n
  | t => cases n
  | sc => cases n
  | er => cases n
  | fo => cases n
  | dc => cases n
mutual
/-- only the lists are held -/
theorem Ow.lsts {K : PySem.W.Frag} {F H : Hp} : ∀ {v x fp}, Ow K F H v x fp → frz x ≠ none → Ow K F H v x (fun a => fp a ∧ isLst H a)
  | _, _, _, .h, n => absurd rfl n
  | _, _, _, .p d, _ => .p d
  | _, .l xs, fp, .l (fq := fq) a b c d, n => .l (fq := fun a => fq a ∧ isLst H a) ⟨a, _, b⟩ b (c.lsts (by
      cases q : frzs xs with
      | none => exact absurd (show frz (.l xs) = none by unfold frz; rw [q]; rfl) n
      | some ds => exact fun z => nomatch z)) fun b z => ⟨⟨(d b z.1).1, z.2⟩, (d b z.1).2⟩
  | _, .t xs, fp, .t a b, n => .t a (b.lsts (by
      cases q : frzs xs with
      | none => exact absurd (show frz (.t xs) = none by unfold frz; rw [q]; rfl) n
      | some ds => exact fun z => nomatch z))
  | _, _, _, .sc _, n => absurd rfl n
  | _, _, _, .er _, n => absurd rfl n
  | _, _, _, .ob _ _ _ _ _ _ _, n => absurd rfl n
  | _, _, _, .fo _ _ _ _, n => absurd rfl n
  | _, _, _, .dc _ _ _ _, n => absurd rfl n
theorem Ows.lsts {K : PySem.W.Frag} {F H : Hp} : ∀ {us xs fp}, Ows K F H us xs fp → frzs xs ≠ none → Ows K F H us xs (fun a => fp a ∧ isLst H a)
  | _, _, _, .nil, _ => .nil
  | _, _, _, .hole _, n => absurd rfl n
  | _, x :: xs, _, .cons (f1 := f1) (f2 := f2) a b c d e, n => by
    have n1 : frz x ≠ none := fun q => n (by unfold frzs; rw [q]; rfl)
    have n2 : frzs xs ≠ none := fun q => n (by
      unfold frzs; rw [q]
      cases frz x <;> rfl)
    exact .cons (f1 := fun a => f1 a ∧ isLst H a) (f2 := fun a => f2 a ∧ isLst H a) (a.lsts n1) (b.lsts n2) (fun b z => ⟨c b z.1, z.2⟩) (fun b z => ⟨d b z.1, z.2⟩) fun b z z2 => e b z.1 z2.1
end
structure Thawed (K : PySem.W.Frag) (F1 H1 F' H' : Hp) (fv f1 f' : Fp) (vs : List V) (xs : List OD) (G : Fp) : Prop where
  st : Stp F1 H1 (Un2 fv f1) (sub F' G) H' (Un2 G f')
  gl : ∀ a, G a → isLst F' a
  ow : Ows K (sub F' G) H' (vs.map some) xs G
  dj : Dj G f'
  lf : ∀ a, G a → fv a
theorem thaw {K : PySem.W.Frag} {F1 H1 F' H' : Hp} {fv f1 f' : Fp} {vs : List V} {xs : List OD} (rs : RS F1 H1 (Un2 fv f1)) (dj : Dj fv f1) (w : Ows K F1 H1 (vs.map some) xs fv) (n : frzs xs ≠ none) (S : Stp (fz F1 H1 fv) H1 f1 F' H' f') :
    ∃ G, Thawed K F1 H1 F' H' fv f1 f' vs xs G := by
  have hk : ∀ a, (fv a ∧ isLst H1 a) → H' a = H1 a ∧ F' a = H1 a := fun a z => by
    have k := S.keep a (fun q => dj a z.1 q) (rs.own a (.inl z.1)).2
    exact ⟨k.1, k.2.trans (fz_in z.1)⟩
  have gl : ∀ a, (fv a ∧ isLst H1 a) → isLst F' a := fun a z => by
    obtain ⟨us, e⟩ := z.2
    exact ⟨us, (hk a z).2.trans e⟩
  have i13 : Inc F1 (sub F' fun a => fv a ∧ isLst H1 a) := fun a ob z => by
    have nf : ¬ fv a := fun t => by rw [(rs.own a (.inl t)).1] at z; cases z
    rw [sub_out fun t => nf t.1]
    exact S.inc _ _ (fz_inc rs.sub _ _ z)
  refine ⟨fun a => fv a ∧ isLst H1 a, ⟨⟨i13, fun a nz z => ?_, fun a z => ?_, ⟨fun a ob z => ?_, fun a z => ?_⟩⟩, gl, ?_, fun a z z2 => ?_, fun a z => z.1⟩⟩
  · have k := S.keep a (fun q => nz (.inr q)) z
    exact ⟨k.1, by rw [sub_out fun t => nz (.inl t.1), k.2, fz_out fun t => nz (.inl t)]⟩
  · exact z.elim (fun z => .inl (.inl z.1)) fun z => (S.new a z).imp_left .inr
  · by_cases t : fv a ∧ isLst H1 a
    · rw [sub_in t] at z; cases z
    · rw [sub_out t] at z; exact S.rs.sub _ _ z
  · rcases z with z | z
    · exact ⟨sub_in z, by rw [(hk a z).1]; exact (rs.own a (.inl z.1)).2⟩
    · have k := S.rs.own a z
      refine ⟨?_, k.2⟩
      by_cases t : fv a ∧ isLst H1 a
      · exact sub_in t
      · rw [sub_out t]; exact k.1
  · exact (w.lsts n).mono i13 fun a z => (hk a z).1
  · have k := (S.rs.own a z2).1
    rw [(hk a z).2] at k
    exact (rs.own a (.inl z.1)).2 k
def lookOut (bs : List (Option Nat)) (xs : List OD) (e : Env') : R OD → R OD
  | .ok d _ => if nlO d = true then .ok d (putBack bs xs e) else .st
  | _ => .st
def eFnT (φ : Fn) (f : Env' → R (List BO)) : Env' → R OD := fun env => (f env).bind fun ys e => match frzs (ys.map (·.1)) with
  | none => .st
  | some ds => lookOut (ys.map (·.2)) (ys.map (·.1)) e (φ (ds.map .p))
theorem fnT_core {K : PySem.W.Frag} {n : Nat} {φ : Fn} {f : Env' → R (List BO)} {σ : L2.St} {H : Hp} {Q : VK} {mg : Mg} (hn : ∀ env ys e, f env = .ok ys e → ys.length = n) : dTE K mg W (eFnT φ f) σ H Q → tCallS (spD K mg n φ) (WE W) (dTBs K mg W f) σ H Q := fun ⟨F, env, fp, rs, o, h⟩ => by
  refine ⟨F, env, fp, rs, o, ?_⟩
  unfold eFnT at h
  cases e : f env with
  | st => rw [e] at h; exact h.elim
  | ex C x e' => rw [e] at h; exact h
  | ok ys e1 =>
    rw [e, R.bind_ok] at h
    intro vs F1 H1 fv f1 s1 dj1 w1 bk o1
    have hl := ows_len w1
    rw [List.length_map] at hl
    cases ez : frzs (ys.map (·.1)) with
    | none => rw [ez] at h; exact h.elim
    | some ds =>
      rw [ez] at h
      dsimp only at h
      have wz : DdL (fz F1 H1 fv) vs ds := w1.fz s1.rs.sub (fun _ z => z) ez
      have st := Stp.freeze s1.rs dj1
      refine ⟨hl.trans (hn _ _ _ e), fz F1 H1 fv, ds.map .p, NoFp, ⟨st.rs.sub, fun _ z => z.elim⟩, Ows.of_pure wz, ?_⟩
      cases q : φ (ds.map .p) with
      | st => rw [q] at h; exact h.elim
      | ex C x xs => rw [q] at h; exact h.elim
      | ok d xs =>
        rw [q] at h
        dsimp only [lookOut] at h
        · by_cases hs : nlO d = true
          · rw [if_pos hs] at h
            intro v F2 H2 fd fa s2 dj2 wd wa
            have s2f := (s2.frame (g := f1) dj0' st.rs.own).from (fq := f1) fun a z => z.elim False.elim id
            have d3 := s2.dj (g := f1) dj0' fun a z => (st.rs.own a z).2
            obtain ⟨G, T⟩ := thaw s1.rs dj1 w1 (by rw [ez]; exact fun z => nomatch z) s2f
            have o3 := o1.mono (F' := sub F2 G) (H' := H2) (fun a ob z => T.st.inc a ob z) fun a z => (s2.keep a (fun t => t) (st.rs.own a z).2).1
            have ob := Ows.back bk T.ow o3 fun a z z2 => T.dj a z (.inr z2)
            have sF := s1.tr T.st
            refine h v (sub F2 G) H2 fd _ (sF.less fun a z => ?_) (fun a z z2 => ?_) (wd.thaw T.gl hs) ob
            · rcases z with z | z | z
              · exact .inr (.inl (.inl z))
              · exact .inl z
              · exact .inr (.inr z)
            · rcases z2 with z2 | z2
              · exact T.dj a z2 (.inl (.inl z))
              · exact d3 a z2 (.inl z)
          · rw [if_neg hs] at h; exact h.elim
/-- an instance made of what is only looked at -/
def mkLook (bs : List (Option Nat)) (xs : List OD) (e : Env') : R OD → R OD
  | .ok (.p .none) (o :: _) => if nlO o = true then .ok o (putBack bs xs e) else .st
  | _ => .st
def eMkT (C : Str) (φ : Fn) (f : Env' → R (List BO)) : Env' → R OD := fun env => (f env).bind fun ys e => match frzs (ys.map (·.1)) with
  | none => .st
  | some ds => mkLook (ys.map (·.2)) (ys.map (·.1)) e (φ (.ob C [] [] :: ds.map .p))
theorem mkT_core {K : PySem.W.Frag} {n : Nat} {C : Str} {Ca : Addr} {φ : Fn} {f : Env' → R (List BO)} {σ : L2.St} {H : Hp} {Q : VK} {mg : Mg} (hnC : PySem.W.nsIn K mainGlobals C = some (some (.ref Ca))) (hn : ∀ env ys e, f env = .ok ys e → ys.length = n) : dTE K mg W (eMkT C φ f) σ H Q → tMakeS Ca (spD K mg (n + 1) φ) (WE W) (dTBs K mg W f) σ H Q := fun ⟨F, env, fp, rs, o, h⟩ => by
  refine ⟨F, env, fp, rs, o, ?_⟩
  unfold eMkT at h
  cases e : f env with
  | st => rw [e] at h; exact h.elim
  | ex C x e' => rw [e] at h; exact h
  | ok ys e1 =>
    rw [e, R.bind_ok] at h
    intro vs F1 H1 fv f1 s1 dj1 w1 bk o1 x dx hx hdx ne
    have hl := ows_len w1
    rw [List.length_map] at hl
    cases ez : frzs (ys.map (·.1)) with
    | none => rw [ez] at h; exact h.elim
    | some ds =>
      rw [ez] at h
      dsimp only at h
      have wz : DdL (fz F1 H1 fv) vs ds := w1.fz s1.rs.sub (fun _ z => z) ez
      have st := Stp.freeze s1.rs dj1
      have n1 := Stp.newOwn (o := HO.own x) st.rs hdx
      have hx1 : upd H1 dx (.own x) x = none := (upd_ne (Ne.symm ne)).trans hx
      have n2 := Stp.newOwn (o := HO.ins Ca dx []) n1.rs hx1
      let g0 : Fp := fun b => b = x ∨ b = dx
      have s0 : Stp (fz F1 H1 fv) H1 f1 (fz F1 H1 fv) (upd (upd H1 dx (.own x)) x (.ins Ca dx [])) (Un2 g0 f1) := (n1.tr n2).less fun b z => by
        rcases z with (z | z) | z
        · exact .inl z
        · exact .inr (.inl z)
        · exact .inr (.inr z)
      have wn : Ow K (fz F1 H1 fv) (upd (upd H1 dx (.own x)) x (.ins Ca dx [])) (.ref x) (.ob C [] []) g0 := .ob (vs := []) (fq := NoFp) (.inl rfl) (.inr rfl) upd_same ((upd_ne ne).trans upd_same) ⟨hnC, rfl⟩ .nil fun _ z => z.elim
      have wa : Ows K (fz F1 H1 fv) (upd (upd H1 dx (.own x)) x (.ins Ca dx [])) ((V.ref x :: vs).map some) (.ob C [] [] :: ds.map .p) g0 := .cons (f1 := g0) (f2 := NoFp) wn (Ows.of_pure wz) (fun _ z => z) (fun _ z => z.elim) fun _ _ z => z
      refine ⟨by rw [List.length_cons, hl, hn _ _ _ e], fz F1 H1 fv, _, g0, ⟨s0.rs.sub, fun a z => s0.rs.own a (.inl z)⟩, wa, ?_⟩
      cases q : φ (.ob C [] [] :: ds.map .p) with
      | st => rw [q] at h; exact h.elim
      | ex C x xs => rw [q] at h; exact h.elim
      | ok d xs =>
        rw [q] at h
        unfold mkLook at h
        split at h
        · rename_i o0 xs0 eq
          cases eq
          by_cases hs : nlO o0 = true
          · rw [if_pos hs] at h
            intro v F2 H2 fd fa s2 dj2 wd wr
            refine ⟨by cases wd with | p wd => cases wd; rfl, ?_⟩
            obtain ⟨h1, h2, wo, wx, l1, l2, dd⟩ := wr.uncons
            have d0 : Dj f1 g0 := fun b z z2 => z2.elim (fun e => (st.rs.own b z).2 (e ▸ hx)) fun e => (st.rs.own b z).2 (e ▸ hdx)
            have own0 : ∀ a, f1 a → fz F1 H1 fv a = none ∧ upd (upd H1 dx (.own x)) x (.ins Ca dx []) a ≠ none := fun a z => s0.rs.own a (.inr z)
            have s2f : Stp (fz F1 H1 fv) H1 f1 F2 H2 (Un2 (Un2 fd fa) f1) := s0.tr (s2.frame d0 own0)
            have d3 := s2.dj d0 fun a z => (own0 a z).2
            obtain ⟨G, T⟩ := thaw s1.rs dj1 w1 (by rw [ez]; exact fun z => nomatch z) s2f
            have kp : ∀ a, f1 a → H2 a = H1 a := fun a z => ((s2.keep a (d0 a z) (own0 a z).2).1).trans ((upd_ne fun e => d0 a z (.inl e)).trans (upd_ne fun e => d0 a z (.inr e)))
            have o3 := o1.mono (F' := sub F2 G) (H' := H2) (fun a ob z => T.st.inc a ob z) kp
            have ob := Ows.back bk T.ow o3 fun a z z2 => T.dj a z (.inr z2)
            have sF := s1.tr T.st
            refine h (.ref x) (sub F2 G) H2 h1 _ (sF.less fun a z => ?_) (fun a z z2 => ?_) (wo.thaw T.gl hs) ob
            · rcases z with z | z | z
              · exact .inr (.inl (.inr (l1 a z)))
              · exact .inl z
              · exact .inr (.inr z)
            · rcases z2 with z2 | z2
              · exact T.dj a z2 (.inl (.inr (l1 a z)))
              · exact d3 a z2 (.inr (l1 a z))
          · rw [if_neg hs] at h; exact h.elim
        · exact h.elim
theorem de_makeT {C : Str} {n j k : Nat} {φ : Fn} {e : Expr} {es : List Expr} {fb} {p pos : Pos} (G : DefMX X C n φ j) (hr : Room k X.A) (tk : Takes X W) (ha : DBn X W (e :: es) n fb) (hj : j + 1 ≤ k := by decide) (hg : Gl X C := by rfl) (hdb : (C == ("__debug__" : Str)) = false := by decide)
    (he : starEach (e :: es) X.env = (false, eval e X.env) :: starEach es X.env := by rfl) (hpl : (backTo pos (starEach es X.env)).any (·.1) = false := by rfl) : DE X W (.Call (.Name C p) (e :: es) [] pos) (eMkT C φ fb) := by
  obtain ⟨Ca, f, fd, ps, hm, hn, M, F, hb⟩ := G.ex
  exact pe_weak (pe_makeS M F (hr.mono hj) hg hm hb (fun σ => passAt tk σ) ha.pa hdb he hpl) fun _ _ _ => mkT_core hn ha.ln
theorem de_callLk {x : Str} {n j k : Nat} {φ : Fn} {e : Expr} {es : List Expr} {fb} {p pos : Pos} (G : DefX X x n φ j) (hr : Room k X.A) (tk : Takes X W) (ha : DBn X W (e :: es) n fb) (hj : j ≤ k := by decide) (hg : Gl X x := by rfl) (hdb : (x == ("__debug__" : Str)) = false := by decide)
    (he : starEach (e :: es) X.env = (false, eval e X.env) :: starEach es X.env := by rfl) (hpl : (backTo pos (starEach es X.env)).any (·.1) = false := by rfl) : DE X W (.Call (.Name x p) (e :: es) [] pos) (eFnT φ fb) := by
  obtain ⟨f, fd, ps, hm, F, hb, hk⟩ := G.ex
  exact pe_weak (pe_callS F (hr.mono hj) hg hm hk hb (fun σ => passAt tk σ) ha.pa hdb he hpl) fun _ _ _ => fnT_core ha.ln
end
end DL

namespace DL
open PySem PySem.Spec PyProof.Rows L2
section
variable {X : Cx} {W : WX} {pos : Pos}
/-! ### an index that is a name's number or a written one -/
structure Atm (X : Cx) (e : Expr) (n : Env' → Option Int) : Prop where
  ex : ∃ t, PE X e t ∧ ∀ σ H (Q : VK) F env fp m, RS F H fp → Ows X.K F H σ env fp → n env = some m → Q (.int m) H → t σ H Q
  pl : PlainIx e
def nAt (i : Nat) : Env' → Option Int := fun env => match lk env i with
  | some (.p (.int m)) => some m
  | _ => none
def nC (k : Int) : Env' → Option Int := fun _ => some k
theorem at_name (i : Nat) {x : Str} {p : Pos} (hN : X.N[i]? = some x := by rfl) (hv : Vis X.env.scope x := by first | exact Or.inl rfl | exact Or.inr (Or.inl rfl) | exact Or.inr (Or.inr rfl)) (hd : (x == ("__debug__" : Str)) = false := by decide)
    (hcd : (x == ("__classdict__" : Str)) = false := by decide) : Atm X (.Name x p) (nAt i) := ⟨⟨_, pe_var hN hv hd hcd, fun σ H Q F env fp m rs o e q => by
  unfold nAt at e
  split at e
  · rename_i m' el
    cases e
    obtain ⟨n1, n2⟩ := lk_some el
    obtain ⟨v, g1, g2, hv, w0, _⟩ := o.get n1 n2
    cases Ow.int w0
    exact ⟨_, hv, q⟩
  · cases e⟩, fun _ _ => rfl⟩
theorem at_lit {k : Int} {e : Expr} (h : Lit X e k) : Atm X e (nC k) := by
  obtain ⟨⟨t, h1, h2⟩, h3⟩ := h
  exact ⟨⟨t, h1, fun σ H Q F env fp m rs o e q => (h2 σ H Q).1 (by cases e; exact q)⟩, h3⟩
/-! ### x[a][b] -/
def ix2 (x : OD) (a b : Int) : Option OD := match gIx x (.p (.int a)) with
  | some y => gIx y (.p (.int b))
  | none => match prtO x with
    | some xs => match atI xs a with
      | some .h => none
      | some y => gIx y (.p (.int b))
      | none => none
    | none => none
def eIx2 (i : Nat) (na nb : Env' → Option Int) : Env' → R OD := fun env => match lk env i, na env, nb env with
  | some x, some a, some b => R.of (ix2 x a b) env
  | _, _, _ => .st
theorem de_ix2 (i : Nat) {x : Str} {ea eb : Expr} {na nb} {p p2 : Pos} (ha : Atm X ea na) (hb : Atm X eb nb) (hN : X.N[i]? = some x := by rfl) (hv : Vis X.env.scope x := by first | exact Or.inl rfl | exact Or.inr (Or.inl rfl) | exact Or.inr (Or.inr rfl)) (hd : (x == ("__debug__" : Str)) = false := by decide)
    (hcd : (x == ("__classdict__" : Str)) = false := by decide) : DE X W (.Subscript (.Subscript (.Name x p) ea p2) eb pos) (eIx2 i na nb) := by
  obtain ⟨⟨ta, pa, qa⟩, la⟩ := ha
  obtain ⟨⟨tb, pb, qb⟩, lb⟩ := hb
  refine pe_weak (pe_ix ix_seq (pe_ix ix_seq (pe_var hN hv hd hcd) pa la) pb lb) fun σ H Q ⟨F, env, fp, rs, o, h⟩ => ?_
  unfold eIx2 at h
  split at h
  · rename_i x a b ex ena enb
    obtain ⟨n1, n2⟩ := lk_some ex
    obtain ⟨v, g1, g2, hv, w0, orest, l1, l2, dg⟩ := o.get n1 n2
    refine ⟨v, hv, qa _ _ _ _ _ _ _ rs o ena ?_⟩
    cases e2 : ix2 x a b with
    | none => rw [e2] at h; exact h.elim
    | some d =>
      rw [e2] at h
      have h := h.fin (Stp.rfl' rs) (fun _ z => z) o
      unfold ix2 at e2
      cases e1 : gIx x (.p (.int a)) with
      | some y =>
        rw [e1] at e2
        refine s_ix F H v (.int a) x (.p (.int a)) g1 NoFp fp y _ rs l1 (fun _ z => z.elim) w0 (.p (.int _)) e1 fun v' F' H' f' s' w' => ?_
        have own : ∀ a, fp a → F a = none ∧ H a ≠ none := rs.own
        have o' := o.step s' dj0' fun a q => (own a q).2
        have sf := s'.frame (g := fp) dj0' own
        have rs' : RS F' H' (Un2 f' fp) := sf.rs
        refine qb _ _ _ F' env fp _ ⟨rs'.sub, fun a z => rs'.own a (.inr z)⟩ o' enb ?_
        refine s_ix F' H' v' (.int b) y (.p (.int b)) f' NoFp (Un2 f' fp) d _ rs' (fun _ => .inl) (fun _ z => z.elim) w' (.p (.int _)) e2 fun v3 F3 H3 f3 s3 w3 => ?_
        exact h v3 F3 H3 f3 ((s'.less fun _ z => z.elim).tr s3) w3
      | none =>
        rw [e1] at e2
        dsimp only at e2
        cases ep : prtO x with
        | none => rw [ep] at e2; cases e2
        | some xs =>
          rw [ep] at e2
          dsimp only at e2
          cases ea : atI xs a with
          | none => rw [ea] at e2; cases e2
          | some y =>
            rw [ea] at e2
            have ny : y ≠ .h := fun z => by subst z; cases e2
            have e2 : gIx y (.p (.int b)) = some d := by cases y <;> first | exact e2 | exact absurd rfl ny
            obtain ⟨c, vs, gx, rfl, ox, lx, wh⟩ := w0.whole ep
            obtain ⟨j, h1, h2⟩ := atI_inv (ows_len ox) ea
            obtain ⟨u, k1, k2, hu, wu, _, m1, _, _⟩ := ox.get h1 ny
            rw [List.getElem?_map] at hu
            have hu' : vs[j]? = some u := by
              cases q : vs[j]? with
              | none => rw [q] at hu; cases hu
              | some z => rw [q] at hu; cases hu; rfl
            have last : tb σ H fun y H2 => rIx X.K u y H2 Q := by
              refine qb _ _ _ F env fp _ rs o enb ?_
              exact s_ix F H u (.int b) y (.p (.int b)) k1 NoFp fp d _ rs (fun b z => l1 b (lx b (m1 b z))) (fun _ z => z.elim) wu (.p (.int _)) e2 h
            rcases wh with ⟨_, hF⟩ | ⟨_, _, hH, _⟩
            · exact .inr (.inl ⟨c, vs, a, u, rfl, rfl, SqT.of (rs.sub _ _ hF), h2.trans hu', last⟩)
            · exact .inl ⟨c, vs, a, u, rfl, rfl, SqL.of hH, h2.trans hu', last⟩
  · exact h.elim
/-! ### x[a][b] = e -/
def itm2 (i : Nat) (d : OD) (a b : Int) (xs : List OD) (e : Env') : Out := match ixN xs.length a with
  | some j => match xs[j]? with
    | some (.l ys) => match ixN ys.length b with
      | some m => .nx (e.set i (.l (xs.set j (.l (ys.set m d)))))
      | none => .st
    | _ => .st
  | none => .st
def sItem2 (i : Nat) (na nb : Env' → Option Int) (f : Env' → R OD) : Env' → Out := fun env => (f env).out fun d e1 => match lk e1 i, na e1, nb e1 with
  | some (.l xs), some a, some b => itm2 i d a b xs e1
  | _, _, _ => .st
theorem ds_item2 {B : List Nat} (i : Nat) {x : Str} {e ea eb : Expr} {f na nb} {px ps p2 : Pos} (ha : Atm X ea na) (hb : Atm X eb nb) (he : DE X W e f) (hN : X.N[i]? = some x := by rfl) (hv : Vis X.env.scope x := by first | exact Or.inl rfl | exact Or.inr (Or.inl rfl) | exact Or.inr (Or.inr rfl)) (hd : (x == ("__debug__" : Str)) = false := by decide)
    (hcd : (x == ("__classdict__" : Str)) = false := by decide) (has : ∀ v, assign (.Subscript (.Subscript (.Name x px) ea p2) eb ps) X.env v = (do
      let ov ← holding [v] (eval (.Subscript (.Name x px) ea p2) X.env)
      let iv ← holding [v, ov] (eval eb X.env)
      standAt ps
      holding [v, ov, iv] (setItem ov iv v)
      release [v, ov, iv] []) := by intro _; rfl)
    (hs : swapsWithSole [.Subscript (.Subscript (.Name x px) ea p2) eb ps] e pos.line X.env = pure false := by rfl) (hw : swappedStores [.Subscript (.Subscript (.Name x px) ea p2) eb ps] e X.env = pure none := by rfl)
    (h1 : (assignEach [.Subscript (.Subscript (.Name x px) ea p2) eb ps] X.env).map (·.2) = [assign (.Subscript (.Subscript (.Name x px) ea p2) eb ps) X.env] := by rfl) :
    DS X W B (.Assign [.Subscript (.Subscript (.Name x px) ea p2) eb ps] e pos) (sItem2 i na nb f) := by
  obtain ⟨⟨ta, pa, qa⟩, la⟩ := ha
  obtain ⟨⟨tb, pb, qb⟩, lb⟩ := hb
  refine ps_weak (ps_asg he (pg_sub (pe_ix ix_seq (pe_var hN hv hd hcd) pa la) pb set_list has) hs hw h1) fun D σ H ⟨F, env, fp, rs, o, h⟩ => ?_
  refine outE rs o h fun d e1 v F1 H1 fv f1 s1 dj1 w1 o1 h1 => ?_
  have own : ∀ a, fv a → F1 a = none ∧ H1 a ≠ none := fun a q => s1.rs.own a (.inl q)
  have rs1 : RS F1 H1 f1 := ⟨s1.rs.sub, fun a z => s1.rs.own a (.inr z)⟩
  split at h1
  · rename_i xs a b ex ena enb
    obtain ⟨n1, n2⟩ := lk_some ex
    obtain ⟨u, g1, g2, hu, w0, orest, l1, l2, dg⟩ := o1.get n1 n2
    refine ⟨u, hu, qa _ _ _ _ _ _ _ rs1 o1 ena ?_⟩
    unfold itm2 at h1
    split at h1
    · rename_i j ej
      split at h1
      · rename_i ys ey
        split at h1
        · rename_i m em
          cases w0 with
          | l fa ha wl hd1 =>
            rename_i a1 vs fq
            obtain ⟨u2, k1, k2, hu2, wu, orest2, m1, m2, md⟩ := wl.get ey (fun z => nomatch z)
            have hu2' : vs[j]? = some u2 := by
              rw [List.getElem?_map] at hu2
              cases q : vs[j]? with
              | none => rw [q] at hu2; cases hu2
              | some z => rw [q] at hu2; cases hu2; rfl
            have vl : vs.length = xs.length := ows_len wl
            have at_ : atI vs a = some u2 := by
              unfold atI
              rw [vl, ej]; exact hu2'
            cases wu with
            | l fa2 ha2 wl2 hd2 =>
              rename_i a2 ws fq2
              refine .inl ⟨a1, vs, a, _, rfl, rfl, SqL.of ha, at_, ?_⟩
              refine qb _ _ _ _ _ _ _ rs1 o1 enb ?_
              have q2 : fq a2 := m1 a2 fa2
              have g2a : g1 a2 := (hd1 a2 q2).1
              have ne12 : a1 ≠ a2 := fun e => (hd1 a2 q2).2 e.symm
              have dv1 : ∀ c, fv c → ¬ g1 c := fun c z z2 => dj1 c z (l1 c z2)
              have dvq : Dj fv fq2 := fun c z z2 => dv1 c z (hd1 c (m1 c (hd2 c z2).1)).1
              have ol := Ows.store w1 m wl2 dvq
              rw [← List.map_set] at ol
              refine ⟨a2, ws, b, m, rfl, rfl, ha2, by rw [ows_len wl2]; exact em, ?_⟩
              have rs3 : RS F1 H1 (Un2 fv f1) := s1.rs
              have st := Stp.put (o := .lst (ws.set m v)) rs3 (a := a2) (.inr (l1 a2 g2a))
              have up : ∀ c, c ≠ a2 → upd H1 a2 (.lst (ws.set m v)) c = H1 c := fun c e => upd_ne e
              have nv : ∀ c, fv c → c ≠ a2 := fun c z e => dv1 c z (e ▸ g2a)
              have ol' := ol.mono st.inc (H' := upd H1 a2 (.lst (ws.set m v))) fun c z => up c (z.elim (nv c) fun z => (hd2 c z).2)
              have wn2 : Ow X.K F1 (upd H1 a2 (.lst (ws.set m v))) (.ref a2) (.l (ys.set m d)) (Un2 (fun c => c = a2) (Un2 fv fq2)) := .l (.inl rfl) upd_same ol' fun c z => ⟨.inr z, z.elim (nv c) fun z => (hd2 c z).2⟩
              have or2 := orest2.mono st.inc (H' := upd H1 a2 (.lst (ws.set m v))) fun c z => up c fun e => md a2 fa2 (e ▸ z)
              have dn2 : Dj (Un2 (fun c => c = a2) (Un2 fv fq2)) k2 := fun c z z2 => by
                rcases z with rfl | z | z
                · exact md _ fa2 z2
                · exact dv1 c z (hd1 c (m2 c z2)).1
                · exact md c (hd2 c z).1 z2
              have op2 := Ows.put wn2 or2 hu2 dn2
              rw [List.set_set] at op2
              have sub2 : ∀ c, Un2 (Un2 (fun c => c = a2) (Un2 fv fq2)) k2 c → c ≠ a1 ∧ (fv c ∨ g1 c) := fun c z => by
                rcases z with (rfl | z | z) | z
                · exact ⟨Ne.symm ne12, .inr g2a⟩
                · exact ⟨fun e => dv1 c z (e ▸ fa), .inl z⟩
                · exact ⟨(hd1 c (m1 c (hd2 c z).1)).2, .inr (hd1 c (m1 c (hd2 c z).1)).1⟩
                · exact ⟨(hd1 c (m2 c z)).2, .inr (hd1 c (m2 c z)).1⟩
              have wn1 : Ow X.K F1 (upd H1 a2 (.lst (ws.set m v))) (.ref a1) (.l (xs.set j (.l (ys.set m d)))) (Un2 (fun c => c = a1) (Un2 (Un2 (fun c => c = a2) (Un2 fv fq2)) k2)) :=
                .l (.inl rfl) ((up a1 ne12).trans ha) op2 fun c z => ⟨.inr z, (sub2 c z).1⟩
              have or' := orest.mono st.inc (H' := upd H1 a2 (.lst (ws.set m v))) fun c z => up c fun e => dg a2 g2a (e ▸ z)
              have dn : Dj (Un2 (fun c => c = a1) (Un2 (Un2 (fun c => c = a2) (Un2 fv fq2)) k2)) g2 := fun c z z2 => by
                rcases z with rfl | z
                · exact dg _ fa z2
                · rcases (sub2 c z).2 with z | z
                  · exact dj1 c z (l2 c z2)
                  · exact dg c z z2
              have op := Ows.put wn1 or' hu dn
              rw [List.set_set] at op
              have sF := s1.tr st
              refine h1 σ F1 _ _ (sF.less fun c z => ?_) op Bk.id'
              rcases z with (rfl | z) | z
              · exact .inr (l1 _ fa)
              · exact (sub2 c z).2.imp id (l1 c)
              · exact .inr (l2 c z)
        · exact h1.elim
      · exact h1.elim
    · exact h1.elim
  · exact h1.elim
/-! ### x.count(True), x a list of truth values -/
def rCntT (K : PySem.W.Frag) : V → List V → Hp → VK → Prop := fun x xs H Q => ∃ (p : Addr) (bs : List Bool), x = .ref p ∧ xs = [.bl true] ∧ SqL K H p (bs.map V.bl) ∧ Q (.int (bs.count true : Nat)) H
theorem mt_cntT (hu : X.A.units + 65 < cLine) : MtR X "list.count" (rCntT X.K) := by
  intro pins s σ H x xs v us Q I rx rxs h
  obtain ⟨p, bs, rfl, rfl, hs, q⟩ := h
  cases rx
  cases rxs with
  | cons ry rt =>
    rename_i uy ut
    cases rt
    have dp : Dp X.K H (.ref p) (.list (bs.map .bool)) := .lst hs (by
      clear hs q
      induction bs with
      | nil => exact .nil
      | cons b bs ih => exact .cons (.bl b) ih)
    cases dp with
    | lst hs' ha =>
      obtain ⟨its, rv, pl, hlen⟩ := I.list hs'
      obtain ⟨as, h4⟩ := Dp.readsAll I _ _ its ha rv
      obtain ⟨rb, r1⟩ := Dp.reads I (.bool true) (.bl true) uy (.bl true) ry
      have pa : ∀ l : List Bool, PyData.plainAll (l.map .bool) = true := fun l => by
        induction l with
        | nil => rfl
        | cons b l ih => show (PyData.plain (.bool b) && PyData.plainAll (l.map .bool)) = true; rw [ih]; rfl
      refine PySem.SeqAt.count_list_data (l := p) (vs := its.toArray) pl.isList (by simpa using h4) r1 (pa bs) rfl ?_ ?_
      · have : PyData.depth (.bool true) = 0 := rfl
        rw [this]; omega
      · have e : (bs.map PyData.bool).countP (fun y => PyData.eqv y (.bool true)) = bs.count true := by
          rw [List.countP_map]
          rfl
        rw [e]
        exact ⟨.int (bs.count true : Nat), H, I.tok _, ⟨_, rfl⟩, q⟩
def gCntT (x : OD) : Option OD := ((its x).bind toBls).map fun bs => .p (.int (bs.count true : Nat))
theorem s_cntT {K : PySem.W.Frag} : UnS K (fun v H Q => tyV K "list" v H ∧ rCntT K v [.bl true] H Q) gCntT := by
  intro F H v x fx fp d Q rs lx o e k
  unfold gCntT at e
  cases q : its x with
  | none => rw [q] at e; cases e
  | some ds =>
    rw [q] at e
    cases q2 : toBls ds with
    | none =>
      rw [show (some ds).bind toBls = toBls ds from rfl, q2] at e; cases e
    | some bs =>
      rw [show (some ds).bind toBls = toBls ds from rfl, q2] at e
      cases e
      obtain ⟨a, vs, rfl, h, w⟩ := its_at rs.sub o q
      have := toBls_eq q2
      subst this
      rw [w.bls] at h
      exact ⟨.inl ⟨rfl, _, SqL.of h⟩, a, bs, rfl, rfl, SqL.of h, k0 rs k (.p (.int _))⟩
theorem de_cntT {o : Expr} {f : Env' → R Opd} {j : Nat} {p2 apos cpos : Pos} (hu : X.A.units + 65 < cLine) (ho : DV X W o f) (hbase : attributeBase o "count" X.env (eval o X.env) = eval o X.env := by rfl)
    (hfew : ((backTo cpos (starEach [Expr.Constant (.bool true) j p2] X.env)).all (fun x => !x.1) && (backToKw cpos (keywordEach [] X.env)).all (fun x => x.1.isSome)
      && decide (([Expr.Constant (.bool true) j p2] : List Expr).length + ([] : List Keyword).length + (if ([] : List Keyword).isEmpty then 0 else 1) < 30)) = true := by rfl)
    (hline : (apos.endLine == cpos.line) = true := by rfl) (hst : starEach [Expr.Constant (.bool true) j p2] X.env = (false, eval (Expr.Constant (.bool true) j p2) X.env) :: starEach [] X.env := by rfl) (hpl : (backTo cpos (starEach [] X.env)).any (·.1) = false := by rfl) :
    DE X W (.Call (.Attribute o "count" apos) [.Constant (.bool true) j p2] [] cpos) (eUn gCntT f) :=
  pe_weak (pe_bm PySem.F.plainAttrs_list PySem.F.slot_list_count PySem.F.type_list_count (mt_cntT hu) ho (pa_cons pe_bl pa_nil hst) hbase hfew hline hst hpl) fun σ H Q h => by
    have := un_core (K := X.K) s_cntT h
    exact this
end
end DL

namespace DL
open PySem PySem.Spec PyProof.Rows L2
section
variable {e : Env'} {i : Nat}
@[simp] theorem eChI_ap (b1 b2 fa fb fc) : eChI b1 b2 fa fb fc e = (fa e).bind fun a e1 => (fb e1).bind fun b e2 => match a.at e2, b.at e2 with
  | some (.p (.int i)), some (.p (.int j)) => if b1 i j = true then (fc e2).bind fun c e3 => match c.at e3 with
      | some (.p (.int k)) => .ok (.p (.bool (b2 j k))) e3
      | _ => .st else .ok (.p (.bool false)) e2
  | _, _ => .st := rfl
@[simp] theorem eFnT_ap (φ : Fn) (f) : eFnT φ f e = (f e).bind fun ys e => match frzs (ys.map (·.1)) with
  | none => .st
  | some ds => lookOut (ys.map (·.2)) (ys.map (·.1)) e (φ (ds.map .p)) := rfl
@[simp] theorem lookOut_ok (bs xs d us) : lookOut bs xs e (.ok d us) = if nlO d = true then .ok d (putBack bs xs e) else .st := rfl
@[simp] theorem eMk_ap (C φ f) : eMk C φ f e = (f e).bind fun ys e => mkOut (ys.map (·.2)) e (φ (.ob C [] [] :: ys.map (·.1))) := rfl
@[simp] theorem mkOut_ok (bs o xs) : mkOut bs e (.ok (.p .none) (o :: xs)) = .ok o (putBack bs xs e) := rfl
@[simp] theorem mkOut_ex (bs C x o xs) : mkOut bs e (.ex C x (o :: xs)) = .ex C x (putBack bs xs e) := rfl
@[simp] theorem eMkT_ap (C φ f) : eMkT C φ f e = (f e).bind fun ys e => match frzs (ys.map (·.1)) with
  | none => .st
  | some ds => mkLook (ys.map (·.2)) (ys.map (·.1)) e (φ (.ob C [] [] :: ds.map .p)) := rfl
@[simp] theorem mkLook_ok (bs ys o xs) : mkLook bs ys e (.ok (.p .none) (o :: xs)) = if nlO o = true then .ok o (putBack bs ys e) else .st := rfl
@[simp] theorem nlO_b (b : Bool) : nlO (.p (.bool b)) = true := by simp [nlO, nlD]
@[simp] theorem nlO_i (b : Int) : nlO (.p (.int b)) = true := by simp [nlO, nlD]
@[simp] theorem nlO_n : nlO (.p .none) = true := by simp [nlO, nlD]
@[simp] theorem eIx2_ap (na nb) : eIx2 i na nb e = match lk e i, na e, nb e with
  | some x, some a, some b => R.of (ix2 x a b) e
  | _, _, _ => .st := rfl
@[simp] theorem nAt_ap : nAt i e = match lk e i with
  | some (.p (.int m)) => some m
  | _ => none := rfl
@[simp] theorem nC_ap (k : Int) : nC k e = some k := rfl
@[simp] theorem sItem2_ap (na nb f) : sItem2 i na nb f e = (f e).out fun d e1 => match lk e1 i, na e1, nb e1 with
  | some (.l xs), some a, some b => itm2 i d a b xs e1
  | _, _, _ => .st := rfl
@[simp] theorem sFldS_ap (C f g) : sFldS i C f g e = (g e).out fun d e => match lk e i with
  | some (.ob C' ns xs) => if C' = C ∧ ns.length < 900 then (match fIx f ns with
    | some j => .nx (e.set i (.ob C' ns (xs.set j d)))
    | none => .nx (e.set i (.ob C' (ns ++ [f]) (xs ++ [d])))) else .st
  | _ => .st := rfl
@[simp] theorem fIx_nil (f : Str) : fIx f [] = none := rfl
@[simp] theorem fIx_cons (f g : Str) (r) : fIx f (g :: r) = if g = f then some 0 else (fIx f r).map (· + 1) := rfl
@[simp] theorem gFld_ap (C f : Str) (C' ns xs) : gFld C f (.ob C' ns xs) = if C' = C then (match fIx f ns with
    | some j => match xs[j]? with
      | some (.p d) => some (.p d)
      | _ => none
    | none => none) else none := rfl
end
end DL

namespace DL
open PySem PySem.Spec PyProof.Rows L2
section
variable {X : Cx} {W : WX} {pos : Pos}
/-! ### list(range(a, b)) -/
open Classical in
noncomputable def gRng : OD → OD → Option OD
  | .p (.int i), .p (.int j) => if RgOk i j then some (.l ((rngL i (j - i).toNat).map .p)) else none
  | _, _ => none
def rRng : R2 := fun x y H Q => ∃ i j, x = .int i ∧ y = .int j ∧ RgOk i j ∧ ∀ q, H q = none → Q (.ref q) (upd H q (.lst (rgV i j)))
theorem DdL.rg {F : Hp} (a b : Int) : DdL F (rgV a b) (rngL a (b - a).toNat) := by
  unfold rgV rngL
  generalize List.range (b - a).toNat = l
  induction l with
  | nil => exact .nil
  | cons k l ih => exact .cons (.int _) ih
theorem s_rng {K : PySem.W.Frag} : OpS K rRng gRng := by
  intro F H v u x y fx fy fp d Q rs lx ly ox oy e k
  unfold gRng at e
  split at e
  · rename_i i j
    split at e
    · rename_i ok
      cases e
      exact ⟨i, j, Ow.int ox, Ow.int oy, ok, newL rs (DdL.rg i j) k⟩
    · cases e
  · cases e
theorem de_listRg {a b : Expr} {fa fb} {p p2 pos2 : Pos} (hc : X.calm = true) (hg : Gl X "list") (hm : X.mg "list" = none) (hg2 : Gl X "range") (hm2 : X.mg "range" = none) (ha : DV X W a fa) (hb : DV X W b fb)
    (na : starEach [a, b] X.env = (false, eval a X.env) :: starEach [b] X.env := by rfl) (nb : starEach [b] X.env = (false, eval b X.env) :: starEach [] X.env := by rfl) (hp : (backTo pos2 (starEach [b] X.env)).any (·.1) = false := by rfl)
    (ns : starEach [.Call (.Name "range" p2) [a, b] [] pos2] X.env = (false, eval (.Call (.Name "range" p2) [a, b] [] pos2) X.env) :: starEach [] X.env := by rfl) : DE X W (.Call (.Name "list" p) [.Call (.Name "range" p2) [a, b] [] pos2] [] pos) (eBin gRng fa fb) :=
  pe_weak (pe_listRg hc hg hm (prg_2 hg2 hm2 ha hb na nb hp) ns) fun σ H Q h => bin_core (r := rRng) s_rng h
theorem gRng_i {i j : Int} (h : RgOk i j) : gRng (.p (.int i)) (.p (.int j)) = some (.l ((rngL i (j - i).toNat).map .p)) := if_pos h
/-! ### x.index(e), x a name's list of numbers -/
def ixOf (k : Int) : List Int → Option Nat
  | [] => none
  | n :: ns => if n = k then some 0 else (ixOf k ns).map (· + 1)
theorem ixOf_spec {k : Int} : ∀ {ns : List Int} {j : Nat}, ixOf k ns = some j → ns[j]? = some k ∧ ∀ m z, m < j → ns[m]? = some z → z ≠ k
  | [], _, h => by cases h
  | n :: ns, j, h => by
    unfold ixOf at h
    by_cases e : n = k
    · rw [if_pos e] at h; cases h
      exact ⟨by rw [e]; rfl, fun m z hm => absurd hm (Nat.not_lt_zero m)⟩
    · rw [if_neg e] at h
      cases q : ixOf k ns with
      | none => rw [q] at h; cases h
      | some i =>
        rw [q] at h; cases h
        obtain ⟨h1, h2⟩ := ixOf_spec q
        refine ⟨by simpa using h1, fun m z hm hz => ?_⟩
        cases m with
        | zero => simp at hz; subst hz; exact e
        | succ m =>
          have hm : m + 1 < i + 1 := hm
          exact h2 m z (by omega) (by simpa using hz)
def eIxI (i : Nat) (fb : Env' → R OD) : Env' → R OD := fun env => match (lk env i).bind intsOf with
  | none => .st
  | some _ => (fb env).bind fun b e => match (lk e i).bind intsOf, b with
    | some ns, .p (.int k) => match ixOf k ns with
      | some j => .ok (.p (.int (j : Int))) e
      | none => .st
    | _, _ => .st
theorem de_ixI (i : Nat) {x : Str} {e : Expr} {fb} {p apos cpos : Pos} (hb : DE X W e fb) (hN : X.N[i]? = some x := by rfl) (hv : Vis X.env.scope x := by first | exact Or.inl rfl | exact Or.inr (Or.inl rfl) | exact Or.inr (Or.inr rfl)) (hd : (x == ("__debug__" : Str)) = false := by decide)
    (hcd : (x == ("__classdict__" : Str)) = false := by decide) (hbase : attributeBase (.Name x p) "index" X.env (eval (.Name x p) X.env) = eval (.Name x p) X.env := by rfl)
    (hfew : ((backTo cpos (starEach [e] X.env)).all (fun x => !x.1) && (backToKw cpos (keywordEach [] X.env)).all (fun x => x.1.isSome)
      && decide (([e] : List Expr).length + ([] : List Keyword).length + (if ([] : List Keyword).isEmpty then 0 else 1) < 30)) = true := by rfl)
    (hline : (apos.endLine == cpos.line) = true := by rfl) (hst : starEach [e] X.env = (false, eval e X.env) :: starEach [] X.env := by rfl) (hpl : (backTo cpos (starEach [] X.env)).any (·.1) = false := by rfl) :
    DE X W (.Call (.Attribute (.Name x p) "index" apos) [e] [] cpos) (eIxI i fb) :=
  pe_weak (pe_bm PySem.F.plainAttrs_list PySem.F.slot_list_index PySem.F.type_list_index mt_index (pe_var hN hv hd hcd) (pa_cons hb pa_nil hst) hbase hfew hline hst hpl) fun σ H Q ⟨F, env, fp, rs, o, h⟩ => by
    unfold eIxI at h
    cases e0 : lk env i with
    | none => rw [e0] at h; exact h.elim
    | some x0 =>
      cases e1 : intsOf x0 with
      | none =>
        rw [e0, show (some x0).bind intsOf = intsOf x0 from rfl, e1] at h; exact h.elim
      | some ns =>
        rw [e0, show (some x0).bind intsOf = intsOf x0 from rfl, e1] at h
        dsimp only at h
        obtain ⟨n1, n2⟩ := lk_some e0
        obtain ⟨v, g1, g2, hv0, w0, _⟩ := o.get n1 n2
        obtain ⟨a, rfl, sq⟩ := intsOf_at rs.sub w0 e1
        refine ⟨_, hv0, .inl ⟨rfl, _, sq⟩, ?_⟩
        refine seqE (Stp.rfl' rs) (fun _ q => q) o (fun h => h) PoE.ex_ h fun b e' u F' H' fv fp' s dj w o' h1 => ?_
        cases e2 : lk e' i with
        | none => rw [e2] at h1; exact h1.elim
        | some x1 =>
          rw [e2, show (some x1).bind intsOf = intsOf x1 from rfl] at h1
          cases e3 : intsOf x1 with
          | none => rw [e3] at h1; exact h1.elim
          | some ms =>
            rw [e3] at h1
            split at h1
            · rename_i ns' k eq1
              have eq1 := Option.some.inj eq1
              subst eq1
              split at h1
              · rename_i j ej
                obtain ⟨m1, m2⟩ := lk_some e2
                obtain ⟨v', k1, k2, hv1, w1, _⟩ := o'.get m1 m2
                rw [hv0] at hv1
                cases hv1
                obtain ⟨a', ea, sq'⟩ := intsOf_at s.rs.sub w1 e3
                cases ea
                cases Ow.int w
                obtain ⟨q1, q2⟩ := ixOf_spec ej
                refine ⟨a, ms.map V.int, .int k, j, .int k, rfl, rfl, sq', rfl, ?_, ?_, ?_, fun m z hm hz => ?_, h1.fin s (fun _ => .inr) o' _ F' H' NoFp (Stp.rfl' ⟨s.rs.sub, fun _ z => z.elim⟩) (.p (.int _))⟩
                · rw [List.all_eq_true]; intro z hz
                  obtain ⟨b, _, rfl⟩ := List.mem_map.1 hz
                  rfl
                · rw [List.getElem?_map, q1]; rfl
                · simp [eqV]
                · rw [List.getElem?_map] at hz
                  cases q : ms[m]? with
                  | none => rw [q] at hz; cases hz
                  | some z' =>
                    rw [q] at hz; cases hz
                    have := q2 m z' hm q
                    simp [eqV, this]
              · exact h1.elim
            · exact h1.elim
@[simp] theorem eIxI_ap (i : Nat) (fb) (env : Env') : eIxI i fb env = match (lk env i).bind intsOf with
  | none => .st
  | some _ => (fb env).bind fun b e => match (lk e i).bind intsOf, b with
    | some ns, .p (.int k) => match ixOf k ns with
      | some j => .ok (.p (.int (j : Int))) e
      | none => .st
    | _, _ => .st := rfl
end
end DL

namespace DL
open PySem PySem.Spec PyProof.Rows L2
/-! ### a walk over a list of lists that is nobody else's: each item is handed over -/
def forGoO (g : Tg) (f : Env' → Out) : List OD → Env' → Out
  | [], e => .nx e
  | x :: xs, e => match g x e with
    | none => .st
    | some e1 => (f e1).seq (forGoO g f xs)
def sForO (fe : Env' → R OD) (g : Tg) (f : Env' → Out) : Env' → Out := fun env => (fe env).out fun d e => match d with
  | .l xs => forGoO g f xs e
  | _ => .st
section
variable {X : Cx} {W : WX} {B : List Nat} {pos : Pos}
theorem Ows.unc {K : PySem.W.Frag} {F H : Hp} {u : V} {us : List V} {x : OD} {xs : List OD} {fp : Fp} (o : Ows K F H ((u :: us).map some) (x :: xs) fp) : ∃ g1 g2 : Fp, Ow K F H u x g1 ∧ Ows K F H (us.map some) xs g2 ∧ (∀ b, g1 b → fp b) ∧ (∀ b, g2 b → fp b) ∧ Dj g1 g2 := Ows.uncons o
theorem forO_core {K : PySem.W.Frag} {mg : Mg} {fe g f} {D : Ends} {σ : L2.St} {H : Hp} : dTS K mg W B (sForO fe g f) D σ H → tFor (iList K (dTE K mg W fe)) (dTG K B g) (dTS K mg W B f) D σ H := fun ⟨F, env, fp, rs, o, h⟩ => by
  unfold sForO at h
  refine outE rs o h fun d e0 v F0 H0 fv f0 s0 dj0 w0 o0 h => ?_
  cases d with
  | l xs =>
    dsimp only at h
    cases w0 with
    | l fa ha wl hd =>
      rename_i p vs fq
      refine ⟨p, rfl, ⟨vs, SqL.of ha⟩, ?_⟩
      have hlen : vs.length = xs.length := ows_len wl
      have rs0 : RS F0 H0 (Un2 f0 (Un2 (fun b => b = p) fq)) := ⟨s0.rs.sub, fun a z => by
        rcases z with z | z | z
        · exact s0.rs.own a (.inr z)
        · exact s0.rs.own a (.inl (z ▸ fa))
        · exact s0.rs.own a (.inl (hd a z).1)⟩
      have hp0 : PoS K mg W B F0 H0 (Un2 f0 (Un2 (fun b => b = p) fq)) σ D (forGoO g f xs e0) := h.step s0 (fun a z => by
        rcases z with z | z | z
        · exact .inr z
        · exact .inl (z ▸ fa)
        · exact .inl (hd a z).1) Bk.id'
      have dj00 : Dj f0 (Un2 (fun b => b = p) fq) := fun a z z2 => z2.elim (fun e => dj0 a (e ▸ fa) z) fun z2 => dj0 a (hd a z2).1 z
      refine ⟨fun i m σ1 H1 => m = xs.length - i ∧ ∃ F1 e1 f1 fr, RS F1 H1 (Un2 f1 (Un2 (fun b => b = p) fr)) ∧ H1 p = some (.lst vs) ∧ Ows K F1 H1 ((vs.drop i).map some) (xs.drop i) fr ∧ ¬ fr p ∧ Dj f1 (Un2 (fun b => b = p) fr) ∧ Ows K F1 H1 σ1 e1 f1 ∧ PoS K mg W B F1 H1 (Un2 f1 (Un2 (fun b => b = p) fr)) σ1 D (forGoO g f (xs.drop i) e1),
        ⟨_, rfl, F0, e0, f0, fq, rs0, ha, by simpa using wl, fun z => (hd p z).2 rfl, dj00, o0, by simpa using hp0⟩, fun i m σ1 H1 ⟨hm, F1, e1, f1, fr, r1, hp1, wr, np, dj1, o1, h1⟩ => ?_⟩
      by_cases hi : i < xs.length
      · have hv : i < vs.length := by omega
        refine .inr ⟨⟨vs, vs[i], SqL.of hp1, List.getElem?_eq_getElem hv⟩, ?_⟩
        have ed : xs.drop i = xs[i] :: xs.drop (i + 1) := List.drop_eq_getElem_cons hi
        have ev : vs.drop i = vs[i] :: vs.drop (i + 1) := List.drop_eq_getElem_cons hv
        rw [ed, ev] at wr
        rw [ed] at h1
        obtain ⟨g1, g2, wx, wr2, l1, l2, dg⟩ := wr.unc
        unfold forGoO at h1
        cases q : g xs[i] e1 with
        | none => rw [q] at h1; exact h1.elim
        | some e2 =>
          rw [q] at h1
          dsimp only at h1
          refine ⟨fun σ2 H2 => ∃ F1 e1 f1 fr, RS F1 H2 (Un2 f1 (Un2 (fun b => b = p) fr)) ∧ H2 p = some (.lst vs) ∧ Ows K F1 H2 ((vs.drop (i + 1)).map some) (xs.drop (i + 1)) fr ∧ ¬ fr p ∧ Dj f1 (Un2 (fun b => b = p) fr) ∧ Ows K F1 H2 σ2 e1 f1 ∧ PoS K mg W B F1 H2 (Un2 f1 (Un2 (fun b => b = p) fr)) σ2 D (forGoO g f (xs.drop (i + 1)) e1),
            fun σ2 H2 h2 => ⟨xs.length - (i + 1), by omega, rfl, h2⟩, fun x H' hy => ?_⟩
          obtain ⟨rfl, hx⟩ := hy
          have ex : x = vs[i] := by
            have := hx vs (SqL.of hp1)
            rw [List.getElem?_eq_getElem hv] at this
            exact (Option.some.inj this).symm
          subst ex
          have dgf : Dj g1 f1 := fun a z z2 => dj1 a z2 (.inr (l1 a z))
          refine ⟨F1, e1, g1, f1, xs[i], e2, ⟨r1.sub, fun a z => r1.own a (z.elim (fun z => .inr (.inr (l1 a z))) .inl)⟩, dgf, wx, o1, q, fun σ2 f3 l3 o3 b3 => ?_⟩
          -- the rest beside it
          have sub3 : ∀ a, f3 a → Un2 f1 (Un2 (fun b => b = p) fr) a := fun a z => (l3 a z).elim (fun z => .inr (.inr (l1 a z))) .inl
          have d3 : Dj (Un2 (fun b => b = p) g2) f3 := fun a z z3 => by
            rcases l3 a z3 with z4 | z4
            · rcases z with z | z
              · exact np (z ▸ l1 a z4)
              · exact dg a z4 z
            · exact dj1 a z4 (z.imp id (l2 a))
          have ownR : ∀ a, Un2 (fun b => b = p) g2 a → F1 a = none ∧ H' a ≠ none := fun a z => r1.own a (.inr (z.imp id (l2 a)))
          refine ⟨F1, e2, f3, ⟨r1.sub, fun a z => r1.own a (sub3 a z)⟩, o3, ?_⟩
          have r3 : RS F1 H' (Un2 f3 (Un2 (fun b => b = p) g2)) := ⟨r1.sub, fun a z => z.elim (fun z => r1.own a (sub3 a z)) (ownR a)⟩
          have h2 : PoS K mg W B F1 H' (Un2 f3 (Un2 (fun b => b = p) g2)) σ2 D ((f e2).seq (forGoO g f (xs.drop (i + 1)))) := h1.step (Stp.rfl' r1) (fun a z => z.elim (sub3 a) fun z => .inr (z.imp id (l2 a))) b3
          cases q2 : f e2 with
          | st => rw [q2] at h2; exact h2.elim
          | nx e4 =>
            rw [q2] at h2
            intro σ4 F4 H4 f4 s4 o4 b4
            have s5 := s4.frame d3 ownR
            have d5 := s4.dj d3 fun a z => (ownR a z).2
            have nf3 : ¬ f3 p := fun z => d3 p (.inl rfl) z
            refine ⟨F4, e4, f4, g2, s5.rs, ((s4.keep p nf3 (ownR p (.inl rfl)).2).1).trans hp1, wr2.step s4 (fun a z z2 => d3 a (.inr z) z2) (fun a z => (ownR a (.inr z)).2), fun z => np (l2 p z), fun a z z2 => d5 a z2 z, o4, ?_⟩
            exact PoS.step (fp := Un2 f3 (Un2 (fun b => b = p) g2)) s5 (fun _ z => z) b4 h2
          | rt d e4 =>
            rw [q2] at h2
            exact fun v2 σ' F' H2' fv2 fp' s dj w o' b' => h2 v2 σ' F' H2' fv2 fp' (s.from fun a z => .inl z) dj w o' b'
          | ex C y e4 =>
            rw [q2] at h2
            exact fun σ' F' H2' fp' s o' b' => h2 σ' F' H2' fp' (s.from fun a z => .inl z) o' b'
      · refine .inl ⟨⟨vs, SqL.of hp1, by omega⟩, ?_⟩
        rw [List.drop_eq_nil_of_le (by omega)] at h1
        exact h1 σ1 F1 H1 f1 ((Stp.rfl' r1).less fun _ z => .inl z) o1 Bk.id'
  | _ => exact h.elim
theorem ds_forO {tg iter : Expr} {body : List Stmt} {fe g f} (hp : PassesOwn (model X.prog X.w) X.A X.env X.xe) (hc : X.calm = true) (hi : DE X W iter fe) (hg : DG X B tg g) (hb : DSs X W B body f) (hs : ∀ x, foldedSetIterable iter X.env x = pure x := by intro _; rfl) :
    DS X W B (.For tg iter body [] pos) (sForO fe g f) := ps_weak (ps_for hp hc (pi_list hi) hg hb hs) fun _ _ _ => forO_core
@[simp] theorem sForO_ap (fe : Env' → R OD) (g : Tg) (f : Env' → Out) (env : Env') : sForO fe g f env = (fe env).out fun d e => match d with
  | .l xs => forGoO g f xs e
  | _ => .st := rfl
theorem forGoO_cons (g : Tg) (f : Env' → Out) (x : OD) (xs : List OD) (e : Env') : forGoO g f (x :: xs) e = match g x e with
    | none => .st
    | some e1 => (f e1).seq (forGoO g f xs) := rfl
end
end DL

namespace DL
open PySem PySem.Spec PyProof.Rows L2
section
variable {X : Cx} {W : WX} {pos : Pos}
/-! ### x[k] is (not) None, the item left where it is -/
def nnI (neg : Bool) (x : OD) (k : Int) : Option OD := match prtO x with
  | none => none
  | some xs => match ixN xs.length k with
    | none => none
    | some j => match xs[j]? with
      | none => none
      | some y => gIsN neg y (.p .none)
def eNnI (i : Nat) (k : Int) (neg : Bool) : Env' → R OD := fun env => match lk env i with
  | none => .st
  | some x => R.of (nnI neg x k) env
@[simp] theorem eNnI_ap (i : Nat) (k : Int) (neg : Bool) (env : Env') : eNnI i k neg env = match lk env i with
  | none => .st
  | some x => R.of (nnI neg x k) env := rfl
abbrev NnR (r : R2) (neg : Bool) : Prop := ∀ (v : V) (H : Hp) (Q : VK), Q (.bl (xor neg (decide (v = .non)))) H → r v .non H Q
theorem hr_notN : NnR (fun x y H Q => y = .non ∧ Q (.bl (!decide (x = .non))) H) true := fun v H Q q => ⟨rfl, by rw [← Bool.true_xor]; exact q⟩
theorem nnI_core {mg : Mg} {i : Nat} {k : Int} {neg : Bool} {r : R2} {tb : TE} (hr : NnR r neg) (htb : ∀ σ H (Q : VK), Q (.int k) H → tb σ H Q) {σ : L2.St} {H : Hp} {Q : VK} : dTE X.K mg W (eNnI i k neg) σ H Q → tOp r (tOp (rIx X.K) (tVar i) tb) (tC .non) σ H Q := fun ⟨F, env, fp, rs, o, h⟩ => by
  unfold eNnI at h
  cases e0 : lk env i with
  | none => rw [e0] at h; exact h.elim
  | some x =>
  rw [e0] at h
  dsimp only at h
  unfold nnI at h
  cases e1 : prtO x with
  | none => rw [e1] at h; exact h.elim
  | some xs =>
  rw [e1] at h
  dsimp only at h
  cases e2 : ixN xs.length k with
  | none => rw [e2] at h; exact h.elim
  | some j =>
  rw [e2] at h
  dsimp only at h
  cases e3 : xs[j]? with
  | none => rw [e3] at h; exact h.elim
  | some y =>
  rw [e3] at h
  dsimp only at h
  cases e4 : gIsN neg y (.p .none) with
  | none => rw [e4] at h; exact h.elim
  | some d =>
  rw [e4] at h
  have h : PoE X.K mg W F H fp σ Q (.ok d env) := h
  obtain ⟨n1, n2⟩ := lk_some e0
  obtain ⟨v, g1, g2, hv, w0, _, _, _, _⟩ := o.get n1 n2
  obtain ⟨c, vs, gx, rfl, ox, _, wh⟩ := w0.whole e1
  have ny : y ≠ .h := fun z => by subst z; cases e4
  obtain ⟨u, k1, k2, hu, wu, _, _, _, _⟩ := ox.get e3 ny
  have vl : vs.length = xs.length := ows_len ox
  rw [List.getElem?_map] at hu
  have hu' : vs[j]? = some u := by
    cases q : vs[j]? with
    | none => rw [q] at hu; cases hu
    | some z => rw [q] at hu; cases hu; rfl
  have at_ : atI vs k = some u := by
    unfold atI
    rw [vl, e2]; exact hu'
  obtain ⟨_, rfl⟩ := isN_val wu (.p .non : Ow X.K F H .non (.p .none) NoFp) e4
  have q : tC .non σ H fun y H2 => r u y H2 Q := hr u H Q (h (.bl _) F H NoFp fp (Stp.id0 rs) dj0 (.p (.bl _)) o)
  refine ⟨.ref c, hv, htb _ _ _ ?_⟩
  rcases wh with ⟨_, hF⟩ | ⟨_, _, hH, _⟩
  · exact .inr (.inl ⟨c, vs, k, u, rfl, rfl, SqT.of (rs.sub _ _ hF), at_, q⟩)
  · exact .inl ⟨c, vs, k, u, rfl, rfl, SqL.of hH, at_, q⟩
theorem de_nnI (i : Nat) (k : Int) (neg : Bool) {op : CmpOp} {r : R2} {x : Str} {ie : Expr} {p ip np : Pos} {nn : Nat} (ho : OpR X (compareOp op) r) (hr : NnR r neg) (hk : Lit X ie k)
    (hN : X.N[i]? = some x := by rfl) (hv : Vis X.env.scope x := by first | exact Or.inl rfl | exact Or.inr (Or.inl rfl) | exact Or.inr (Or.inr rfl)) (hd : (x == ("__debug__" : Str)) = false := by decide) (hcd : (x == ("__classdict__" : Str)) = false := by decide)
    (hm : behindInMarks op (.Constant .none nn np) = false := by exact nomark _) : DE X W (.Compare (.Subscript (.Name x p) ie ip) [op] [.Constant .none nn np] pos) (eNnI i k neg) := by
  obtain ⟨⟨tb, h1, h2⟩, h3⟩ := hk
  exact pe_weak (pe_cmpR ho (pe_ix ix_seq (pe_var hN hv hd hcd) h1 h3) pe_non hm) fun _ _ _ => nnI_core hr fun σ H Q => (h2 σ H Q).1
theorem dt_nnI (i : Nat) (k : Int) (neg : Bool) {op : CmpOp} {r : R2} {x : Str} {ie : Expr} {p ip np : Pos} {nn : Nat} (ho : OpR X (compareOp op) r) (hr : NnR r neg) (hk : Lit X ie k)
    (hN : X.N[i]? = some x := by rfl) (hv : Vis X.env.scope x := by first | exact Or.inl rfl | exact Or.inr (Or.inl rfl) | exact Or.inr (Or.inr rfl)) (hd : (x == ("__debug__" : Str)) = false := by decide) (hcd : (x == ("__classdict__" : Str)) = false := by decide)
    (hm : behindInMarks op (.Constant .none nn np) = false := by exact nomark _) : DT X W (.Compare (.Subscript (.Name x p) ie ip) [op] [.Constant .none nn np] pos) (eB (eNnI i k neg)) := by
  obtain ⟨⟨tb, h1, h2⟩, h3⟩ := hk
  exact pt_weak (pt_cmpR ho (pe_ix ix_seq (pe_var hN hv hd hcd) h1 h3) pe_non hm) fun _ _ _ h => nnI_core hr (fun σ H Q => (h2 σ H Q).1) (bool_core h)
/-! ### a name's list among arguments that look at it further on: taken last -/
def aLate (i : Nat) (g : Env' → R (List OD)) : Env' → R (List OD) := fun env => match lk env i with
  | none => .st
  | some _ => (g env).bind fun xs e => match lk e i with
    | none => .st
    | some (.p d) => .ok (.p d :: xs) e
    | some x => .ok (x :: xs) (e.set i .h)
@[simp] theorem aLate_ap (i : Nat) (g : Env' → R (List OD)) (env : Env') : aLate i g env = match lk env i with
  | none => .st
  | some _ => (g env).bind fun xs e => match lk e i with
    | none => .st
    | some (.p d) => .ok (.p d :: xs) e
    | some x => .ok (x :: xs) (e.set i .h) := rfl
theorem late_core {K : PySem.W.Frag} {mg : Mg} {σ : L2.St} {H : Hp} {Q : List V → Hp → Prop} {i : Nat} {g : Env' → R (List OD)} : dTA K mg W (aLate i g) σ H Q → tCons (tVar i) (dTA K mg W g) σ H Q := fun ⟨F, env, fp, rs, o, h⟩ => by
  unfold aLate at h
  cases e0 : lk env i with
  | none => rw [e0] at h; exact h.elim
  | some x =>
  rw [e0] at h
  dsimp only at h
  obtain ⟨n1, n2⟩ := lk_some e0
  obtain ⟨v, _, _, hv, _⟩ := o.get n1 n2
  refine ⟨v, hv, ?_⟩
  refine seqA (Stp.rfl' rs) (fun _ q => q) o (fun h => h) (fun C f e h => h) h fun xs e1 u F1 H1 fu f1 s1 dj1 w1 o1 h1 => ?_
  cases e2 : lk e1 i with
  | none => rw [e2] at h1; exact h1.elim
  | some y =>
  rw [e2] at h1
  obtain ⟨m1, m2⟩ := lk_some e2
  obtain ⟨v', g1, g2, hv', wv, or, l1, l2, dg⟩ := o1.get m1 m2
  rw [hv] at hv'
  cases hv'
  have mvd : PoA K mg W F H fp σ Q (.ok (y :: xs) (e1.set i .h)) → Q (v :: u) H1 := fun h => h (v :: u) F1 H1 (Un2 g1 fu) g2 (s1.less fun a q => q.elim (fun q => q.elim (fun q => .inr (l1 a q)) .inl) fun q => .inr (l2 a q))
    (fun a q z => q.elim (fun q => dg a q z) fun q => dj1 a q (l2 a z))
    (.cons (f1 := g1) (f2 := fu) wv w1 (fun _ => .inl) (fun _ => .inr) fun a q z => dj1 a z (l1 a q)) or
  cases y with
  | p d =>
    exact h1 (v :: u) F1 H1 fu f1 s1 dj1 (.cons (f1 := NoFp) (f2 := fu) wv.np w1 (fun _ z => z.elim) (fun _ z => z) dj0) o1
  | h => exact (m2 rfl).elim
  | sc ns => exact mvd h1
  | er C f => exact mvd h1
  | ob C ns xs => exact mvd h1
  | fo C ns xs => exact mvd h1
  | dc ks xs => exact mvd h1
  | l xs => exact mvd h1
  | t xs => exact mvd h1
theorem da_late (i : Nat) {x : Str} {es : List Expr} {g} {p : Pos} (hr : DA X W es g) (hN : X.N[i]? = some x := by rfl) (hv : Vis X.env.scope x := by first | exact Or.inl rfl | exact Or.inr (Or.inl rfl) | exact Or.inr (Or.inr rfl)) (hd : (x == ("__debug__" : Str)) = false := by decide)
    (hcd : (x == ("__classdict__" : Str)) = false := by decide) (hs : starEach (.Name x p :: es) X.env = (false, eval (.Name x p) X.env) :: starEach es X.env := by rfl) : DA X W (.Name x p :: es) (aLate i g) :=
  pa_weak (pa_cons (pe_var hN hv hd hcd) hr hs) fun _ _ _ => late_core
/-! ### len(x[a]) of an item that is a list of its own, a a name's number -/
def lenX (x : OD) (a : Int) : Option OD := match prtO x with
  | none => none
  | some xs => match ixN xs.length a with
    | none => none
    | some j => match xs[j]? with
      | some (.l ys) => some (.p (.int ys.length))
      | _ => none
def eLenX (i : Nat) (na : Env' → Option Int) : Env' → R OD := fun env => match lk env i, na env with
  | some x, some a => R.of (lenX x a) env
  | _, _ => .st
@[simp] theorem eLenX_ap (i : Nat) (na : Env' → Option Int) (env : Env') : eLenX i na env = match lk env i, na env with
  | some x, some a => R.of (lenX x a) env
  | _, _ => .st := rfl
theorem de_lenX (i : Nat) {x : Str} {ie : Expr} {na} {p p1 ip : Pos} (hk : Atm X ie na) (hg : Gl X "len") (hm : X.mg "len" = none)
    (hN : X.N[i]? = some x := by rfl) (hv : Vis X.env.scope x := by first | exact Or.inl rfl | exact Or.inr (Or.inl rfl) | exact Or.inr (Or.inr rfl)) (hd : (x == ("__debug__" : Str)) = false := by decide) (hcd : (x == ("__classdict__" : Str)) = false := by decide)
    (he : starEach [.Subscript (.Name x p1) ie ip] X.env = (false, eval (.Subscript (.Name x p1) ie ip) X.env) :: starEach [] X.env := by rfl) (hpl : (backTo pos (starEach [] X.env)).any (·.1) = false := by rfl) :
    DE X W (.Call (.Name "len" p) [.Subscript (.Name x p1) ie ip] [] pos) (eLenX i na) := by
  obtain ⟨⟨tb, h1, h2⟩, h3⟩ := hk
  refine pe_weak (pe_callB call_len hg hm PySem.boot_len (pa_cons (pe_ix ix_seq (pe_var hN hv hd hcd) h1 h3) pa_nil he) (by decide) (by decide) he hpl) fun σ H Q ⟨F, env, fp, rs, o, h⟩ => ?_
  unfold eLenX at h
  split at h
  · rename_i x a e0 ena
    unfold lenX at h
    cases e1 : prtO x with
    | none => rw [e1] at h; exact h.elim
    | some xs =>
    rw [e1] at h
    dsimp only at h
    cases e2 : ixN xs.length a with
    | none => rw [e2] at h; exact h.elim
    | some j =>
    rw [e2] at h
    dsimp only at h
    cases e3 : xs[j]? with
    | none => rw [e3] at h; exact h.elim
    | some y =>
    rw [e3] at h
    cases y with
    | l ys =>
      have h : PoE X.K X.mg W F H fp σ Q (.ok (.p (.int ys.length)) env) := h
      obtain ⟨n1, n2⟩ := lk_some e0
      obtain ⟨v, g1, g2, hv, w0, _, _, _, _⟩ := o.get n1 n2
      obtain ⟨c, vs, gx, rfl, ox, _, wh⟩ := w0.whole e1
      obtain ⟨u, k1, k2, hu, wu, _, _, _, _⟩ := ox.get e3 (fun z => nomatch z)
      have vl : vs.length = xs.length := ows_len ox
      rw [List.getElem?_map] at hu
      have hu' : vs[j]? = some u := by
        cases q : vs[j]? with
        | none => rw [q] at hu; cases hu
        | some z => rw [q] at hu; cases hu; rfl
      have at_ : atI vs a = some u := by
        unfold atI
        rw [vl, e2]; exact hu'
      cases wu with
      | l fa ha wl hd =>
        rename_i b ws0 fq0
        have q : Q (.int (ws0.length : Nat)) H := by
          rw [show (ws0.length : Int) = (ys.length : Int) by rw [ows_len wl]]
          exact h (.int (ys.length : Nat)) F H NoFp fp (Stp.id0 rs) dj0 (.p (.int _)) o
        refine ⟨.ref c, hv, h2 _ _ _ F env fp _ rs o ena ?_⟩
        have fin : ∃ x n, [V.ref b] = [x] ∧ LenV X.K x H n ∧ Q (.int n) H := ⟨.ref b, ws0.length, rfl, .inl ⟨_, SqL.of ha, rfl⟩, q⟩
        rcases wh with ⟨_, hF⟩ | ⟨_, _, hH, _⟩
        · exact .inr (.inl ⟨c, vs, a, .ref b, rfl, rfl, SqT.of (rs.sub _ _ hF), at_, fin⟩)
        · exact .inl ⟨c, vs, a, .ref b, rfl, rfl, SqL.of hH, at_, fin⟩
    | _ => exact h.elim
  · exact h.elim
end
end DL

namespace DL
open PySem PySem.Spec PyProof.Rows L2
section
variable {X : Cx} {W : WX} {pos : Pos}
/-! ### a name handed to a call whose further arguments use it: lent last -/
def bLate (i : Nat) (g : Env' → R (List BO)) : Env' → R (List BO) := fun env => match lk env i with
  | none => .st
  | some _ => (g env).bind fun ys e => match lk e i with
    | none => .st
    | some x => .ok ((x, some i) :: ys) (e.set i .h)
@[simp] theorem bLate_ap (i : Nat) (g : Env' → R (List BO)) (env : Env') : bLate i g env = match lk env i with
  | none => .st
  | some _ => (g env).bind fun ys e => match lk e i with
    | none => .st
    | some x => .ok ((x, some i) :: ys) (e.set i .h) := rfl
theorem blate_core {K : PySem.W.Frag} {mg : Mg} {σ : L2.St} {H : Hp} {Q : List V → Hp → Prop} {i : Nat} {g : Env' → R (List BO)} : dTBs K mg W (bLate i g) σ H Q → tCons (tVar i) (dTBs K mg W g) σ H Q := fun ⟨F, env, fp, rs, o, h⟩ => by
  unfold bLate at h
  cases e0 : lk env i with
  | none => rw [e0] at h; exact h.elim
  | some x =>
  rw [e0] at h
  dsimp only at h
  obtain ⟨n1, n2⟩ := lk_some e0
  obtain ⟨v, _, _, hv, _⟩ := o.get n1 n2
  refine ⟨v, hv, F, env, fp, rs, o, ?_⟩
  cases eg : g env with
  | st => rw [eg] at h; exact h.elim
  | ex C x e' => rw [eg] at h; exact h
  | ok ys e1 =>
    rw [eg, R.bind_ok] at h
    intro u F1 H1 fu f1 s1 dj1 w1 bk1 o1
    cases e2 : lk e1 i with
    | none => rw [e2] at h; exact h.elim
    | some y =>
    rw [e2] at h
    obtain ⟨m1, m2⟩ := lk_some e2
    obtain ⟨v', g1, g2, hv', wv, or, l1, l2, dg⟩ := o1.get m1 m2
    have hvv : v' = v := Option.some.inj (Option.some.inj (hv'.symm.trans hv))
    subst hvv
    exact h (v' :: u) F1 H1 (Un2 g1 fu) g2 (s1.less fun a q => q.elim (fun q => q.elim (fun q => .inr (l1 a q)) .inl) fun q => .inr (l2 a q))
      (fun a q z => q.elim (fun q => dg a q z) fun q => dj1 a q (l2 a z))
      (.cons (f1 := g1) (f2 := fu) wv w1 (fun _ => .inl) (fun _ => .inr) fun a q z => dj1 a z (l1 a q)) (.cons (fun j z => by cases z; exact hv) bk1) or
theorem bl_late {i : Nat} {g : Env' → R (List BO)} {n : Nat} (h : ∀ env ys e, g env = .ok ys e → ys.length = n) : ∀ env ys e, bLate i g env = .ok ys e → ys.length = n + 1 := fun env ys e q => by
  unfold bLate at q
  split at q
  · cases q
  · cases b : g env with
    | st => rw [b] at q; cases q
    | ex => rw [b] at q; cases q
    | ok xs e2 =>
      rw [b, R.bind_ok] at q
      split at q
      · cases q
      · cases q; rw [List.length_cons, h _ _ _ b]
theorem db_late (i : Nat) {x : Str} {es : List Expr} {g} {n : Nat} {p : Pos} (hr : DBn X W es n g) (hN : X.N[i]? = some x := by rfl) (hv : Vis X.env.scope x := by first | exact Or.inl rfl | exact Or.inr (Or.inl rfl) | exact Or.inr (Or.inr rfl)) (hd : (x == ("__debug__" : Str)) = false := by decide)
    (hcd : (x == ("__classdict__" : Str)) = false := by decide) (hs : starEach (.Name x p :: es) X.env = (false, eval (.Name x p) X.env) :: starEach es X.env := by rfl) : DBn X W (.Name x p :: es) (n + 1) (bLate i g) :=
  ⟨pa_weak (pa_cons (pe_var hN hv hd hcd) hr.pa hs) fun _ _ _ => blate_core, bl_late hr.ln⟩
end
end DL

namespace DL
open PySem PySem.Spec PyProof.Rows L2 HT TL
/-! ### texts -/
def toStrs : List PyData → Option (List Str)
  | [] => some []
  | .str z :: ds => (toStrs ds).map (z :: ·)
  | _ => none
theorem toStrs_eq : ∀ {ds ns}, toStrs ds = some ns → ds = ns.map .str
  | [], ns, h => by cases h; rfl
  | .str z :: ds, ns, h => by
    unfold toStrs at h
    cases q : toStrs ds with
    | none => rw [q] at h; cases h
    | some es => rw [q] at h; cases h; rw [toStrs_eq q]; rfl
  | .none :: _, _, h => nomatch h
  | .bool _ :: _, _, h => nomatch h
  | .int _ :: _, _, h => nomatch h
  | .list _ :: _, _, h => nomatch h
  | .tuple _ :: _, _, h => nomatch h
  | .dict _ :: _, _, h => nomatch h
@[simp] theorem toStrs_map (ns : List Str) : toStrs (ns.map .str) = some ns := by
  induction ns with
  | nil => rfl
  | cons z ns ih => rw [List.map_cons, toStrs, ih]; rfl
/-! a method of a text, with one argument -/
def eTM (g : Str → OD → Option OD) (fo : Env' → R OD) (fe : Env' → R Opd) : Env' → R OD := fun env => (fo env).bind fun a e1 => match a with
  | .p (.str s) => (fe e1).bind fun b e2 => match b.at e2 with
    | some y => R.of (g s y) e2
    | none => .st
  | _ => .st
@[simp] theorem eTM_ap (g fo fe) (env : Env') : eTM g fo fe env = (fo env).bind fun a e1 => match a with
  | .p (.str s) => (fe e1).bind fun b e2 => match b.at e2 with
    | some y => R.of (g s y) e2
    | none => .st
  | _ => .st := rfl
def TmS (K : PySem.W.Frag) (r : V → List V → Hp → VK → Prop) (g : Str → OD → Option OD) : Prop := ∀ F H s u y fy fp d (Q : VK), RS F H fp → (∀ a, fy a → fp a) → Ow K F H u y fy → g s y = some d →
  (∀ v' F' H' f', Stp F H NoFp F' H' f' → Ow K F' H' v' d f' → Q v' H') → r (.str s) [u] H Q
section
variable {X : Cx} {W : WX} {pos : Pos}
theorem tm_core {K : PySem.W.Frag} {mg : Mg} {r : V → List V → Hp → VK → Prop} {g : Str → OD → Option OD} (hs : TmS K r g) {fo : Env' → R OD} {fe : Env' → R Opd} {σ : L2.St} {H : Hp} {Q : VK} : dTE K mg W (eTM g fo fe) σ H Q → tM1 r (dTE K mg W fo) (dTV K mg W fe) σ H Q := fun ⟨F, env, fp, rs, o, h⟩ => by
  unfold eTM at h
  refine seqE (Stp.rfl' rs) (fun _ q => q) o (fun h => h) PoE.ex_ h fun a e1 v F1 H1 fv f1 s1 dj1 w1 o1 h1 => ?_
  split at h1
  · rename_i s
    have ev : v = .str s := Ow.str w1
    subst ev
    refine ⟨⟨s, rfl⟩, ?_⟩
    refine seqV s1 (fun _ q => .inr q) o1 (fun h => h) PoE.ex_ h1 fun b e2 u F2 H2 fu f2 s2 dj2 w2 o2 h2 => ?_
    have own : ∀ a, fv a → F1 a = none ∧ H1 a ≠ none := fun a q => s1.rs.own a (.inl q)
    have s3 : Stp F H fp F2 H2 (Un2 (Un2 fu f2) fv) := s1.tr ((s2.frame dj1 own).from fun a q => q.elim .inr .inl)
    cases eb : b.at e2 with
    | none => rw [eb] at h2; exact h2.elim
    | some y =>
      rw [eb] at h2
      dsimp only at h2
      cases eg : g s y with
      | none => rw [eg] at h2; exact h2.elim
      | some d =>
        rw [eg] at h2
        obtain ⟨fy, oy, ly⟩ := w2.look o2 eb
        exact hs F2 H2 s u y fy (Un2 (Un2 fu f2) fv) d Q s3.rs (fun a q => .inl (ly a q)) oy eg (h2.fin s3 (fun a q => .inl (.inr q)) o2)
  · exact h1.elim
def gJoin (s : Str) (y : OD) : Option OD := match (its y).bind toStrs with
  | some ys => if (ys.map (·.length)).sum + ys.length * s.length ≤ 100000 then some (oS (Txt.join s ys)) else none
  | none => none
theorem s_join {K : PySem.W.Frag} : TmS K (fun x xs H Q => ∃ a p, ∃ ys : List Str, x = .str a ∧ xs = [.ref p] ∧ (SqL K H p (ys.map V.str) ∨ SqT K H p (ys.map V.str)) ∧
    (ys.map (·.length)).sum + ys.length * a.length ≤ 16777216 ∧ Q (.str (Txt.join a ys)) H) gJoin := by
  intro F H s u y fy fp d Q rs lx o e k
  unfold gJoin at e
  cases q : its y with
  | none => rw [q] at e; cases e
  | some ds =>
    rw [q, show (some ds).bind toStrs = toStrs ds from rfl] at e
    cases q2 : toStrs ds with
    | none => rw [q2] at e; cases e
    | some ys =>
      rw [q2] at e
      dsimp only at e
      split at e
      · rename_i hl
        cases e
        obtain ⟨a, vs, rfl, h, w⟩ := its_at rs.sub o q
        have := toStrs_eq q2
        subst this
        rw [w.strs] at h
        exact ⟨s, a, ys, rfl, rfl, .inl (SqL.of h), by omega, k0 rs k (.p (.str _))⟩
      · cases e
theorem de_join {o e : Expr} {fo fe} {apos : Pos} (ho : DE X W o fo) (he : DV X W e fe) (hs : starEach [e] X.env = [(false, eval e X.env)] := by rfl) (hbase : attributeBase o "join" X.env (eval o X.env) = eval o X.env := by rfl) (hline : (apos.endLine == pos.line) = true := by rfl) :
    DE X W (.Call (.Attribute o "join" apos) [e] [] pos) (eTM gJoin fo fe) := pe_weak (pe_join ho he hs hbase hline) fun _ _ _ => tm_core s_join
def gSplit (s : Str) (y : OD) : Option OD := match y with
  | .p (.str b) => if (b.length == 0) = false ∧ s.length ≤ 100000 then some (.l (((Txt.split s b).map PyData.str).map .p)) else none
  | _ => none
theorem s_split {K : PySem.W.Frag} : TmS K (fun x xs H Q => ∃ a b, x = .str a ∧ xs = [.str b] ∧ (b.length == 0) = false ∧ a.length + 2 ≤ sizeLine ∧ rNewStrs (Txt.split a b) H Q) gSplit := by
  intro F H s u y fy fp d Q rs lx o e k
  unfold gSplit at e
  split at e
  · rename_i b
    split at e
    · rename_i q
      cases e
      cases Ow.str o
      refine ⟨s, b, rfl, rfl, q.1, Nat.le_trans (Nat.add_le_add_right q.2 2) (by decide), ?_⟩
      exact newL rs DdL.of_strs k
    · cases e
  · cases e
theorem de_split {o e : Expr} {fo fe} {apos : Pos} (ho : DE X W o fo) (he : DV X W e fe) (hs : starEach [e] X.env = [(false, eval e X.env)] := by rfl) (hbase : attributeBase o "split" X.env (eval o X.env) = eval o X.env := by rfl) (hline : (apos.endLine == pos.line) = true := by rfl) :
    DE X W (.Call (.Attribute o "split" apos) [e] [] pos) (eTM gSplit fo fe) := pe_weak (pe_split ho he hs hbase hline) fun _ _ _ => tm_core s_split
def gStarts (s : Str) (y : OD) : Option OD := match y with
  | .p (.str b) => some (.p (.bool (Txt.startswith s b)))
  | _ => none
theorem s_starts {K : PySem.W.Frag} : TmS K (fun x xs H Q => ∃ a b, x = .str a ∧ xs = [.str b] ∧ Q (.bl (Txt.startswith a b)) H) gStarts := by
  intro F H s u y fy fp d Q rs lx o e k
  unfold gStarts at e
  split at e
  · rename_i b
    cases e
    cases Ow.str o
    exact ⟨s, b, rfl, rfl, k0 rs k (.p (.bl _))⟩
  · cases e
theorem de_starts {o e : Expr} {fo fe} {apos : Pos} (ho : DE X W o fo) (he : DV X W e fe) (hs : starEach [e] X.env = [(false, eval e X.env)] := by rfl) (hbase : attributeBase o "startswith" X.env (eval o X.env) = eval o X.env := by rfl) (hline : (apos.endLine == pos.line) = true := by rfl) :
    DE X W (.Call (.Attribute o "startswith" apos) [e] [] pos) (eTM gStarts fo fe) := pe_weak (pe_m1 F.slot_str_startswith F.type_str_startswith mt_startswith ho he hs hbase hline) fun _ _ _ => tm_core s_starts
/-! a sign in a text -/
def gInS (x y : OD) : Option OD := match x, y with
  | .p (.str a), .p (.str z) => match tl a with
    | [c] => some (oB (decide (c ∈ tl z)))
    | _ => none
  | _, _ => none
theorem s_inS {K : PySem.W.Frag} : OpS K (fun x y H Q => ∃ (c : Nat) (z : Str), x = .str ⟨#[c]⟩ ∧ y = .str z ∧ Q (.bl (decide (c ∈ z.cps.toList))) H) gInS := by
  intro F H v u x y fx fy fp d Q rs lx ly ox oy e k
  unfold gInS at e
  split at e
  · rename_i a z
    split at e
    · rename_i c hc
      cases e
      cases Ow.str ox
      cases Ow.str oy
      have ea : a = ⟨#[c]⟩ := ext_tl hc
      exact ⟨c, z, by rw [ea], rfl, k0 rs k (.p (.bl _))⟩
    · cases e
  · cases e
/-! int of a text -/
def gIntT : OD → Option OD
  | .p (.str a) => match intText? a with
    | some n => if a.length ≤ 640 then some (.p (.int n)) else none
    | none => none
  | _ => none
theorem c_intT {K : PySem.W.Frag} : CaS K (fun xs H Q => ∃ a n, xs = [.str a] ∧ PySem.intText? a = some n ∧ a.length ≤ 640 ∧ Q (.int n) H) (c1 gIntT) := CaS.one fun F H v x fx fp d Q rs o e k => by
  unfold gIntT at e
  split at e
  · rename_i a
    split at e
    · rename_i n hn
      split at e
      · rename_i hl
        cases e
        cases Ow.str o
        exact ⟨a, n, rfl, hn, hl, k0 rs k (.p (.int _))⟩
      · cases e
    · cases e
  · cases e
/-! the signs of a text, one by one -/
def chrs (s : Str) : List PyData := (tl s).map fun c => PyData.str ⟨#[c]⟩
theorem jok_txt {F : Hp} (s : Str) : JOk F (Its s) (chrs s) := fun F1 H1 i1 i2 i => by
  have hl : (chrs s).length = s.cps.size := by unfold chrs; rw [List.length_map]; exact Array.length_toList
  refine ⟨fun hi => ?_, fun hi => ?_, fun d hd x H' hy => ?_⟩
  · rw [hl] at hi; exact hi
  · rw [hl] at hi; exact hi
  · obtain ⟨rfl, c, hc, rfl⟩ := hy
    unfold chrs at hd
    rw [List.getElem?_map, show (tl s)[i]? = s.cps[i]? from Array.getElem?_toList, hc] at hd
    cases hd
    exact ⟨F1, Stp.rfl' ⟨i2, fun _ z => z.elim⟩, .str _⟩
def iTxt (f : Env' → R OD) : Env' → R (List PyData) := fun env => (f env).bind fun d e => match d with
  | .p (.str s) => .ok (chrs s) e
  | _ => .st
@[simp] theorem iTxt_ap (f) (env : Env') : iTxt f env = (f env).bind fun d e => match d with
  | .p (.str s) => .ok (chrs s) e
  | _ => .st := rfl
theorem di_txt {tg e : Expr} {f} (h : DE X W e f) : DI X W tg e (iTxt f) := pi_weak (pi_str h) fun σ H Q ⟨F, env, fp, rs, o, h⟩ => by
  refine seqE (Stp.rfl' rs) (fun _ q => q) o (fun h => h) PoI.ex_ h fun d e' v F' H' fv fp' s dj w o' h => ?_
  split at h
  · rename_i z
    cases Ow.str w
    exact ⟨z, rfl, h (Its z) F' H' fp' (s.less fun a q => .inr q) (jok_txt z) o'⟩
  · exact h.elim
theorem de_globStrE {x : Str} {z : Str} (hg : Gl X x) (hm : ∃ t, X.mg x = some (.str z t)) (hd : (x == ("__debug__" : Str)) = false := by decide) : DE X W (.Name x pos) (eC (.str z)) := by
  obtain ⟨t, hm⟩ := hm
  exact de_globStr hg hm hd
end
end DL

namespace DL
variable {K : PySem.W.Frag}
open PySem PySem.Spec PyProof.Rows L2
/-! ### a part of a tree, and the tree around it -/
structure Lens (K : PySem.W.Frag) (x y : OD) (re : OD → OD) (R : Hp → V → V → Prop) : Prop where
  go : ∀ F H v g, Inc F H → Ow K F H v x g → ∃ (u : V) (g1 g2 : Fp), R H v u ∧ Ow K F H u y g1 ∧ (∀ b, g1 b → g b) ∧ (∀ b, g2 b → g b) ∧ Dj g1 g2 ∧
    ∀ F' H' y' g', Inc F F' → (∀ b, g2 b → H' b = H b) → Ow K F' H' u y' g' → Dj g' g2 → Ow K F' H' v (re y') (Un2 g' g2)
theorem Lens.id' {x : OD} : Lens K x x id (fun _ v u => u = v) := ⟨fun F H v g i w => ⟨v, g, NoFp, rfl, w, fun _ z => z, fun _ z => z.elim, dj0', fun F' H' y' g' _ _ w' _ => Ow.weak w' fun _ => .inl⟩⟩
theorem Lens.comp {x y z : OD} {r1 r2 : OD → OD} {R1 R2 : Hp → V → V → Prop} (a : Lens K x y r1 R1) (b : Lens K y z r2 R2) : Lens K x z (fun w => r1 (r2 w)) (fun H v u => ∃ w, R1 H v w ∧ R2 H w u) := ⟨fun F H v g i w => by
  obtain ⟨u, g1, g2, r, wu, l1, l2, d, k⟩ := a.go F H v g i w
  obtain ⟨u', h1, h2, r', wu', m1, m2, d', k'⟩ := b.go F H u g1 i wu
  refine ⟨u', h1, Un2 h2 g2, ⟨u, r, r'⟩, wu', fun b z => l1 b (m1 b z), fun b z => z.elim (fun z => l1 b (m2 b z)) (l2 b), fun b z z2 => z2.elim (d' b z) (d b (m1 b z)), fun F' H' y' g' ii hh w' dd => ?_⟩
  have q := k' F' H' y' g' ii (fun b z => hh b (.inl z)) w' (fun b z z2 => dd b z (.inl z2))
  have q2 := k F' H' _ _ ii (fun b z => hh b (.inr z)) q (fun b z z2 => z.elim (fun z => dd b z (.inr z2)) fun z => d b (m2 b z) z2)
  exact Ow.weak q2 fun b z => z.elim (fun z => z.elim .inl fun z => .inr (.inl z)) fun z => .inr (.inr z)⟩
theorem Lens.item {xs : List OD} {y : OD} {j : Nat} (h : xs[j]? = some y) (ny : y ≠ .h) : Lens K (.l xs) y (fun z => .l (xs.set j z)) (fun H v u => ∃ a ws, v = .ref a ∧ H a = some (.lst ws) ∧ ws[j]? = some u ∧ ws.length = xs.length) := ⟨fun F H v g i w => by
  cases w with
  | l fa ha wl hd =>
    rename_i a vs fq
    obtain ⟨u, k1, k2, hu, wu, orr, m1, m2, md⟩ := wl.get h ny
    have hu' : vs[j]? = some u := by
      rw [List.getElem?_map] at hu
      cases q : vs[j]? with
      | none => rw [q] at hu; cases hu
      | some z => rw [q] at hu; cases hu; rfl
    refine ⟨u, k1, Un2 (fun b => b = a) k2, ⟨a, vs, rfl, ha, hu', ows_len wl⟩, wu, fun b z => (hd b (m1 b z)).1, fun b z => z.elim (fun z => z ▸ fa) fun z => (hd b (m2 b z)).1, fun b z z2 => z2.elim (fun e => (hd b (m1 b z)).2 e) (md b z), fun F' H' y' g' ii hh w' dd => ?_⟩
    have op := Ows.put w' (orr.mono ii fun b z => hh b (.inr z)) hu (fun b z z2 => dd b z (.inr z2))
    rw [List.set_set] at op
    exact .l (fq := Un2 g' k2) (.inr (.inl rfl)) ((hh a (.inl rfl)).trans ha) op fun b z => ⟨z.imp_right .inr, fun e => z.elim (fun z => dd b z (.inl e)) fun z => (hd b (m2 b z)).2 e⟩⟩
theorem Lens.fld {C f : Str} {ns : List Str} {xs : List OD} {y : OD} {j : Nat} (hj : fIx f ns = some j) (h : xs[j]? = some y) (ny : y ≠ .h) : Lens K (.ob C ns xs) y (fun z => .ob C ns (xs.set j z))
    (fun H v u => ∃ a Ca dx fs, v = .ref a ∧ H a = some (.ins Ca dx fs) ∧ PySem.W.nsIn K mainGlobals C = some (some (.ref Ca)) ∧ fs.lookup f = some u) := ⟨fun F H v g i w => by
  cases w with
  | ob fa fdx ha hdx h3 wl hd =>
    rename_i a dx Ca vs fq
    obtain ⟨u, k1, k2, hu, wu, orr, m1, m2, md⟩ := wl.get h ny
    have hu' : vs[j]? = some u := by
      rw [List.getElem?_map] at hu
      cases q : vs[j]? with
      | none => rw [q] at hu; cases hu
      | some z => rw [q] at hu; cases hu; rfl
    refine ⟨u, k1, Un2 (fun b => b = a ∨ b = dx) k2, ⟨a, Ca, dx, _, rfl, ha, h3.1, (zip_get hj).trans hu'⟩, wu, fun b z => (hd b (m1 b z)).1, fun b z => z.elim (fun z => z.elim (fun z => z ▸ fa) fun z => z ▸ fdx) fun z => (hd b (m2 b z)).1, fun b z z2 => z2.elim (fun e => e.elim (hd b (m1 b z)).2.1 (hd b (m1 b z)).2.2) (md b z), fun F' H' y' g' ii hh w' dd => ?_⟩
    have op := Ows.put w' (orr.mono ii fun b z => hh b (.inr z)) hu (fun b z z2 => dd b z (.inr z2))
    rw [List.set_set] at op
    exact .ob (fq := Un2 g' k2) (.inr (.inl (.inl rfl))) (.inr (.inl (.inr rfl))) ((hh a (.inl (.inl rfl))).trans ha) ((hh dx (.inl (.inr rfl))).trans hdx) h3 op fun b z => ⟨z.imp_right .inr, fun e => z.elim (fun z => dd b z (.inl (.inl e))) fun z => (hd b (m2 b z)).2.1 e, fun e => z.elim (fun z => dd b z (.inl (.inr e))) fun z => (hd b (m2 b z)).2.2 e⟩⟩
/-! dicts of texts -/
theorem dk_val {k : Str} : ∀ {ks : List Str} {vs : List V}, valV ((ks.zip vs).map fun p => ((.inr p.1 : Key), p.2)) (.inr k) = (fIx k ks).bind (vs[·]?)
  | [], _ => rfl
  | g :: r, [] => by
    show none = _
    cases fIx k (g :: r) <;> rfl
  | g :: r, v :: vs => by
    unfold fIx
    by_cases h : g = k
    · subst h
      rw [if_pos rfl]
      exact valV_pos (p := ((.inr g : Key), v)) rfl
    · rw [if_neg h]
      refine (valV_neg (p := ((.inr g : Key), v)) (fun z => h (Sum.inr.inj z))).trans (dk_val.trans ?_)
      cases fIx k r <;> rfl
theorem Lens.key {k : Str} {ks : List Str} {xs : List OD} {y : OD} {j : Nat} (hj : fIx k ks = some j) (h : xs[j]? = some y) (ny : y ≠ .h) : Lens K (.dc ks xs) y (fun z => .dc ks (xs.set j z))
    (fun H v u => ∃ a kvs, v = .ref a ∧ H a = some (.dK kvs) ∧ valV kvs (.inr k) = some u) := ⟨fun F H v g i w => by
  cases w with
  | dc fa ha wl hd =>
    rename_i a vs fq
    obtain ⟨u, k1, k2, hu, wu, orr, m1, m2, md⟩ := wl.get h ny
    have hu' : vs[j]? = some u := by
      rw [List.getElem?_map] at hu
      cases q : vs[j]? with
      | none => rw [q] at hu; cases hu
      | some z => rw [q] at hu; cases hu; rfl
    refine ⟨u, k1, Un2 (fun b => b = a) k2, ⟨a, _, rfl, ha.1, by rw [dk_val, hj]; exact hu'⟩, wu, fun b z => (hd b (m1 b z)).1, fun b z => z.elim (fun z => z ▸ fa) fun z => (hd b (m2 b z)).1, fun b z z2 => z2.elim (fun e => (hd b (m1 b z)).2 e) (md b z), fun F' H' y' g' ii hh w' dd => ?_⟩
    have op := Ows.put w' (orr.mono ii fun b z => hh b (.inr z)) hu (fun b z z2 => dd b z (.inr z2))
    rw [List.set_set] at op
    exact .dc (fq := Un2 g' k2) (.inr (.inl rfl)) ⟨(hh a (.inl rfl)).trans ha.1, ha.2⟩ op fun b z => ⟨z.imp_right .inr, fun e => z.elim (fun z => dd b z (.inl e)) fun z => (hd b (m2 b z)).2 e⟩⟩
/-! ### quiet expressions: nothing is changed by them -/
structure Qt (X : Cx) (e : Expr) (n : Env' → Option PyData) : Prop where
  ex : ∃ t, PE X e t ∧ ∀ σ H (Q : VK) F env fp d, RS F H fp → Ows X.K F H σ env fp → n env = some d → (∀ v, Dd F v d → Q v H) → t σ H Q
section
variable {X : Cx} {W : WX} {pos : Pos}
def qC (d : PyData) : Env' → Option PyData := fun _ => some d
theorem qt_int {k : Int} {n : Nat} : Qt X (.Constant (.int k) n pos) (qC (.int k)) := ⟨⟨_, pe_int, fun σ H Q F env fp d rs o e q => by cases e; exact q _ (.int k)⟩⟩
theorem qt_str {k : Str} {n} : Qt X (.Constant (.str k) n pos) (qC (.str k)) := ⟨⟨_, pe_str, fun σ H Q F env fp d rs o e q => by cases e; exact q _ (.str k)⟩⟩
def qAt (i : Nat) : Env' → Option PyData := fun env => match lk env i with
  | some (.p d) => some d
  | _ => none
theorem qt_name (i : Nat) {x : Str} (hN : X.N[i]? = some x := by rfl) (hv : Vis X.env.scope x := by first | exact Or.inl rfl | exact Or.inr (Or.inl rfl) | exact Or.inr (Or.inr rfl)) (hd : (x == ("__debug__" : Str)) = false := by decide)
    (hcd : (x == ("__classdict__" : Str)) = false := by decide) : Qt X (.Name x pos) (qAt i) := ⟨⟨_, pe_var hN hv hd hcd, fun σ H Q F env fp d rs o e q => by
  unfold qAt at e
  split at e
  · rename_i m' el
    cases e
    obtain ⟨n1, n2⟩ := lk_some el
    obtain ⟨v, g1, g2, hv, w0, _⟩ := o.get n1 n2
    cases w0 with
    | p w => exact ⟨_, hv, q _ w⟩
  · cases e⟩⟩
/-- x[k], x a name's list -/
def qIx (i : Nat) (k : Int) : Env' → Option PyData := fun env => match lk env i with
  | some x => match gIx x (.p (.int k)) with
    | some (.p d) => some d
    | _ => none
  | none => none
theorem gIx_quiet {F H : Hp} {v : V} {x : OD} {g fp : Fp} {k : Int} {d : PyData} {Q : VK} (rs : RS F H fp) (l : ∀ b, g b → fp b) (w : Ow K F H v x g) (e : gIx x (.p (.int k)) = some (.p d)) (hl : (∃ xs, x = .l xs) ∨ (∃ ds, x = .p (.list ds)) ∨ ∃ ds, x = .p (.tuple ds)) (q : ∀ u, Dd F u d → Q u H) : rIx K v (.int k) H Q := by
  rcases hl with ⟨xs, rfl⟩ | ⟨ds, rfl⟩ | ⟨ds, rfl⟩
  · rw [gIx] at e
    cases ea : atI xs k with
    | none => rw [ea] at e; cases e
    | some y =>
      rw [ea] at e
      cases y <;> first | cases e | skip
      cases w with
      | l fa ha wl hd =>
        rename_i a vs fq
        obtain ⟨j, h1, h2⟩ := atI_inv (xs := vs) (ows_len wl) ea
        obtain ⟨u, k1, k2, hu, wu, _⟩ := wl.get h1 (fun z => nomatch z)
        have hu' : vs[j]? = some u := by
          rw [List.getElem?_map] at hu
          cases q : vs[j]? with
          | none => rw [q] at hu; cases hu
          | some z => rw [q] at hu; cases hu; rfl
        cases wu with
        | p wu => exact .inl ⟨_, vs, k, u, rfl, rfl, SqL.of ha, h2.trans hu', q u wu⟩
  · rw [gIx] at e
    cases ea : atI ds k with
    | none => rw [ea] at e; cases e
    | some y =>
      rw [ea] at e; cases e
      cases w with
      | p w => cases w with
        | lst a b =>
          obtain ⟨j, h1, h2⟩ := atI_inv b.len ea
          obtain ⟨u, h3, h4⟩ := b.get h1
          exact .inl ⟨_, _, k, u, rfl, rfl, SqL.of (rs.sub _ _ a), h2.trans h3, q u h4⟩
  · rw [gIx] at e
    cases ea : atI ds k with
    | none => rw [ea] at e; cases e
    | some y =>
      rw [ea] at e; cases e
      cases w with
      | p w => cases w with
        | tup a b =>
          obtain ⟨j, h1, h2⟩ := atI_inv b.len ea
          obtain ⟨u, h3, h4⟩ := b.get h1
          exact .inr (.inl ⟨_, _, k, u, rfl, rfl, SqT.of (rs.sub _ _ a), h2.trans h3, q u h4⟩)
/-! ### places -/
structure Plc (X : Cx) (e : Expr) (p : Env' → Option (Nat × OD × (OD → OD))) : Prop where
  ex : ∃ t, PE X e t ∧ ∀ σ H (Q : VK) F env fp i y re, RS F H fp → Ows X.K F H σ env fp → p env = some (i, y, re) → ∃ x R, lk env i = some x ∧ Lens X.K x y re R ∧ ∀ v u, σ[i]? = some (some v) → R H v u → Q u H → t σ H Q
abbrev PlF := Env' → Option (Nat × OD × (OD → OD))
def pNm (i : Nat) : PlF := fun env => match lk env i with
  | some x => some (i, x, id)
  | none => none
theorem plc_name (i : Nat) {x : Str} (hN : X.N[i]? = some x := by rfl) (hv : Vis X.env.scope x := by first | exact Or.inl rfl | exact Or.inr (Or.inl rfl) | exact Or.inr (Or.inr rfl)) (hd : (x == ("__debug__" : Str)) = false := by decide)
    (hcd : (x == ("__classdict__" : Str)) = false := by decide) : Plc X (.Name x pos) (pNm i) := ⟨⟨_, pe_var hN hv hd hcd, fun σ H Q F env fp j y re rs o e => by
  unfold pNm at e
  split at e
  · rename_i z el
    cases e
    exact ⟨_, _, el, Lens.id', fun v u hv r q => by subst r; exact ⟨_, hv, q⟩⟩
  · cases e⟩⟩
def subO (xs : List OD) (j : Nat) : Option OD := match xs[j]? with
  | some .h => none
  | o => o
theorem subO_some {xs : List OD} {j : Nat} {y : OD} (h : subO xs j = some y) : xs[j]? = some y ∧ y ≠ .h := by
  unfold subO at h
  split at h
  · cases h
  · rename_i hn
    exact ⟨h, fun z => by subst z; exact hn h⟩
def pFld (C f : Str) (p : PlF) : PlF := fun env => match p env with
  | some (i, .ob C' ns xs, re) => if C' = C then (match fIx f ns with
    | some j => (subO xs j).map fun y => (i, y, fun z => re (.ob C' ns (xs.set j z)))
    | none => none) else none
  | _ => none
theorem plc_fld {C f : Str} {fs : List Str} {e : Expr} {p} (c : ClC X.K X.mg C fs) (hp : Plc X e p) (hf : f ∈ fs := by decide) (hb : attributeBase e f X.env (eval e X.env) = eval e X.env := by rfl) : Plc X (.Attribute e f pos) (pFld C f p) := by
  obtain ⟨t, h1, h2⟩ := hp.ex
  obtain ⟨Ca, _, hn, hc, ha⟩ := c.ex
  refine ⟨⟨_, pe_fld h1 hb, fun σ H Q F env fp i y re rs o e => ?_⟩⟩
  unfold pFld at e
  split at e
  · rename_i i0 C' ns xs re0 e0
    split at e
    · rename_i eC
      subst eC
      split at e
      · rename_i j ej
        cases es : subO xs j with
        | none => rw [es] at e; cases e
        | some y0 =>
          rw [es] at e; cases e
          obtain ⟨e1, e2⟩ := subO_some es
          obtain ⟨x, R, q1, q2, q3⟩ := h2 σ H (fun x H1 => ∃ a C dx fs v, x = .ref a ∧ H1 a = some (.ins C dx fs) ∧ Cls X.K C ∧ NoAttr X.K C f ∧ fs.lookup f = some v ∧ Q v H1) F env fp _ _ _ rs o e0
          refine ⟨x, _, q1, q2.comp (Lens.fld ej e1 e2), fun v u hv ⟨w, r1, r2⟩ q => q3 v w hv r1 ?_⟩
          obtain ⟨a, Ca', dx, fs', rfl, g1, g2, g3⟩ := r2
          rw [hn] at g2; cases g2
          exact ⟨a, _, dx, fs', u, rfl, g1, hc, ha _ hf, g3, q⟩
      · cases e
    · cases e
  · cases e
def pItm (n : Env' → Option PyData) (p : PlF) : PlF := fun env => match p env, n env with
  | some (i, .l xs, re), some (.int k) => match ixN xs.length k with
    | some j => (subO xs j).map fun y => (i, y, fun z => re (.l (xs.set j z)))
    | none => none
  | _, _ => none
theorem plc_itm {e ie : Expr} {p n} (hp : Plc X e p) (hn : Qt X ie n) (hpl : PlainIx ie := by intro _ _; rfl) : Plc X (.Subscript e ie pos) (pItm n p) := by
  obtain ⟨t, h1, h2⟩ := hp.ex
  obtain ⟨tn, n1, n2⟩ := hn.ex
  refine ⟨⟨_, pe_ix ix_seq h1 n1 hpl, fun σ H Q F env fp i y re rs o e => ?_⟩⟩
  unfold pItm at e
  split at e
  · rename_i i0 xs re0 k e0 en
    split at e
    · rename_i j ej
      cases es : subO xs j with
      | none => rw [es] at e; cases e
      | some y0 =>
        rw [es] at e; cases e
        obtain ⟨e1, e2⟩ := subO_some es
        obtain ⟨x, R, q1, q2, q3⟩ := h2 σ H (fun x H1 => tn σ H1 fun y H2 => rIx X.K x y H2 Q) F env fp _ _ _ rs o e0
        refine ⟨x, _, q1, q2.comp (Lens.item e1 e2), fun v u hv ⟨w, r1, r2⟩ q => q3 v w hv r1 ?_⟩
        obtain ⟨a, ws, rfl, g1, g2, g3⟩ := r2
        refine n2 _ _ _ F env fp _ rs o en fun z hz => ?_
        cases hz
        exact .inl ⟨a, ws, k, u, rfl, rfl, SqL.of g1, by unfold atI; rw [g3, ej]; exact g2, q⟩
    · cases e
  · cases e
def pKey (n : Env' → Option PyData) (p : PlF) : PlF := fun env => match p env, n env with
  | some (i, .dc ks xs, re), some (.str k) => match fIx k ks with
    | some j => (subO xs j).map fun y => (i, y, fun z => re (.dc ks (xs.set j z)))
    | none => none
  | _, _ => none
theorem plc_key {e ie : Expr} {p n} (hu : X.A.units + 1 < cLine) (hp : Plc X e p) (hn : Qt X ie n) (hs : NoSl ie := by intro _ _; rfl) : Plc X (.Subscript e ie pos) (pKey n p) := by
  obtain ⟨t, h1, h2⟩ := hp.ex
  obtain ⟨tn, n1, n2⟩ := hn.ex
  refine ⟨⟨_, pe_dget hu h1 n1 hs, fun σ H Q F env fp i y re rs o e => ?_⟩⟩
  unfold pKey at e
  split at e
  · rename_i i0 ks xs re0 k e0 en
    split at e
    · rename_i j ej
      cases es : subO xs j with
      | none => rw [es] at e; cases e
      | some y0 =>
        rw [es] at e; cases e
        obtain ⟨e1, e2⟩ := subO_some es
        obtain ⟨x, R, q1, q2, q3⟩ := h2 σ H (fun x H1 => tn σ H1 fun y H2 => ∃ a v, x = .ref a ∧ DGet H2 a y (some v) ∧ Q v H2) F env fp _ _ _ rs o e0
        refine ⟨x, _, q1, q2.comp (Lens.key ej e1 e2), fun v u hv ⟨w, r1, r2⟩ q => q3 v w hv r1 ?_⟩
        obtain ⟨a, kvs, rfl, g1, g2⟩ := r2
        refine n2 _ _ _ F env fp _ rs o en fun z hz => ?_
        cases hz
        refine ⟨a, u, rfl, ?_, q⟩
        have := DGet.k (k := .inr k) g1
        rw [g2] at this
        exact this
    · cases e
  · cases e
/-- what stands at a place, read -/
def ePl (p : PlF) : Env' → R OD := fun env => match p env with
  | some (_, .p d, _) => .ok (.p d) env
  | some (_, .fo C ns ds, _) => .ok (.fo C ns ds) env
  | _ => .st
theorem de_pl {e : Expr} {p} (hp : Plc X e p) : DE X W e (ePl p) := by
  obtain ⟨t, h1, h2⟩ := hp.ex
  refine pe_weak h1 fun σ H Q ⟨F, env, fp, rs, o, h⟩ => ?_
  unfold ePl at h
  split at h
  · rename_i i d re ep
    obtain ⟨x, R, q1, q2, q3⟩ := h2 σ H Q F env fp _ _ _ rs o ep
    obtain ⟨n1, n2⟩ := lk_some q1
    obtain ⟨v, g1, g2, hv, w0, _⟩ := o.get n1 n2
    obtain ⟨u, _, _, r, wu, _⟩ := q2.go F H v g1 rs.sub w0
    exact q3 v u hv r (h u F H NoFp fp (Stp.id0 rs) dj0 wu.np o)
  · rename_i i C ns ds re ep
    obtain ⟨x, R, q1, q2, q3⟩ := h2 σ H Q F env fp _ _ _ rs o ep
    obtain ⟨n1, n2⟩ := lk_some q1
    obtain ⟨v, g1, g2, hv, w0, _⟩ := o.get n1 n2
    obtain ⟨u, _, _, r, wu, _⟩ := q2.go F H v g1 rs.sub w0
    exact q3 v u hv r (h u F H NoFp fp (Stp.id0 rs) dj0 (by cases wu with | fo a b c d => exact .fo a b c d) o)
  · exact h.elim
/-! ### a method that changes a list at a place -/
def eMutP (p : PlF) (g : Mu) (f : Env' → R (List OD)) : Env' → R OD := fun env => match p env with
  | some (i, .l ys, re) => (f (env.set i .h)).bind fun zs e => match g ys zs with
    | some (res, ys') => .ok res (e.set i (re (.l ys')))
    | none => .st
  | _ => .st
theorem mutP_core {mg : Mg} {p : PlF} {r g f} {t : TE} (hs : MuS K r g) (hp : ∀ σ H (Q : VK) F env fp i y re, RS F H fp → Ows K F H σ env fp → p env = some (i, y, re) → ∃ x R, lk env i = some x ∧ Lens K x y re R ∧ ∀ v u, σ[i]? = some (some v) → R H v u → Q u H → t σ H Q) {σ : L2.St} {H : Hp} {Q : VK} :
    dTE K mg W (eMutP p g f) σ H Q → tBM K "list" r t (dTA K mg W f) σ H Q := fun ⟨F, env, fp, rs, o, h⟩ => by
  unfold eMutP at h
  split at h
  · rename_i i ys re ep
    obtain ⟨x, R, q1, q2, q3⟩ := hp σ H (fun x H1 => tyV K "list" x H1 ∧ dTA K mg W f σ H1 fun xs H2 => r x xs H2 Q) F env fp _ _ _ rs o ep
    obtain ⟨n1, n2⟩ := lk_some q1
    obtain ⟨v, G1, G2, hv, w0, orest, L1, L2', DG⟩ := o.get n1 n2
    obtain ⟨u, g1, g2, r0, wu, l1, l2, d, k⟩ := q2.go F H v G1 rs.sub w0
    refine q3 v u hv r0 ?_
    have own1 : ∀ b, G1 b → F b = none ∧ H b ≠ none := fun b z => rs.own b (L1 b z)
    cases wu with
    | l fa ha wl hd =>
      rename_i a ws fq
      refine ⟨.inl ⟨rfl, _, SqL.of ha⟩, ?_⟩
      have st0 : Stp F H fp F H G2 := (Stp.rfl' rs).less L2'
      refine seqA st0 (fun _ q => q) orest (fun h => h) PoE.ex_ h fun zs e' vz F1 H1 fv f1 s1 dj1 w1 o1 h1 => ?_
      cases eg : g ys zs with
      | none => rw [eg] at h1; exact h1.elim
      | some pr =>
        obtain ⟨res, ys'⟩ := pr
        rw [eg] at h1
        dsimp only at h1
        have keep1 : ∀ b, G1 b → H1 b = H b := fun b z => (s1.keep b (DG b z) (own1 b z).2).1
        have d1 : Dj G1 (Un2 fv f1) := s1.dj DG fun b z => (own1 b z).2
        have sf := s1.frame DG own1
        have wl1 := wl.mono s1.inc (H' := H1) fun b z => keep1 b (l1 b (hd b z).1)
        have ga : G1 a := l1 a fa
        have ha1 : H1 a = some (.lst ws) := (keep1 a ga).trans ha
        have dqv : Dj fq fv := fun b z z2 => d1 b (l1 b (hd b z).1) (.inl z2)
        refine hs F1 H1 a ws ys vz zs fq fv res ys' Q s1.rs.sub ha1 wl1 w1 dqv eg fun ws' t' f3 f4 o3 w4 d34 l3 l4 => ?_
        have na3 : ∀ b, Un2 fq fv b → b ≠ a := fun b z e => z.elim (fun z => (hd b z).2 e) fun z => d1 a ga (.inl (e ▸ z))
        have st := Stp.put (o := .lst ws') sf.rs (a := a) (.inr ga)
        have up : ∀ b, b ≠ a → upd H1 a (.lst ws') b = H1 b := fun b e => upd_ne e
        have o3' := o3.mono st.inc (H' := upd H1 a (.lst ws')) fun b z => up b (na3 b (l3 b z))
        have w4' := w4.mono st.inc (H' := upd H1 a (.lst ws')) fun b z => up b (na3 b (l4 b z))
        have oe := o1.mono st.inc (H' := upd H1 a (.lst ws')) fun b z => up b fun e => d1 a ga (.inr (e ▸ z))
        have wn : Ow K F1 (upd H1 a (.lst ws')) (.ref a) (.l ys') (Un2 (fun b => b = a) f3) := .l (.inl rfl) upd_same o3' fun b z => ⟨.inr z, na3 b (l3 b z)⟩
        have in3 : ∀ b, Un2 fq fv b → ¬ g2 b := fun b z z2 => z.elim (fun z => d b (hd b z).1 z2) fun z => d1 b (l2 b z2) (.inl z)
        have dn : Dj (Un2 (fun b => b = a) f3) g2 := fun b z z2 => z.elim (fun e => d a fa (e ▸ z2)) fun z => in3 b (l3 b z) z2
        have wo := k F1 (upd H1 a (.lst ws')) (.l ys') _ s1.inc (fun b z => (up b fun e => d a fa (e ▸ z)).trans (keep1 b (l2 b z))) wn dn
        have in1 : ∀ b, Un2 fq fv b → ¬ f1 b := fun b z z2 => z.elim (fun z => d1 b (l1 b (hd b z).1) (.inr z2)) fun z => dj1 b z z2
        have dw : Dj (Un2 (Un2 (fun b => b = a) f3) g2) f1 := fun b z z2 => z.elim (fun z => z.elim (fun e => d1 a ga (.inr (e ▸ z2))) fun z => in1 b (l3 b z) z2) fun z => d1 b (l2 b z) (.inr z2)
        have hold := Ows.put wo oe hv dw
        have total : Stp F H fp F1 (upd H1 a (.lst ws')) (Un2 (Un2 fv f1) G1) := ((Stp.rfl' rs).less (fun b (z : Un2 G2 G1 b) => z.elim (L2' b) (L1 b))).tr (sf.tr st)
        have up3 : ∀ b, Un2 fq fv b → Un2 (Un2 fv f1) G1 b := fun b z => z.elim (fun z => .inr (l1 b (hd b z).1)) fun z => .inl (.inl z)
        refine h1 t' F1 _ f4 _ (total.less fun b z => ?_) (fun b z z2 => ?_) w4' hold
        · rcases z with z | (((z | z) | z) | z)
          · exact up3 b (l4 b z)
          · exact .inr (z ▸ ga)
          · exact up3 b (l3 b z)
          · exact .inr (l2 b z)
          · exact .inl (.inr z)
        · rcases z2 with ((z2 | z2) | z2) | z2
          · exact na3 b (l4 b z) z2
          · exact d34 b z2 z
          · exact in3 b (l4 b z) z2
          · exact in1 b (l4 b z) z2
  · exact h.elim
theorem de_mutP {p : PlF} {name : Str} {id : String} {r g f} {pe e : Expr} {es : List Expr} {apos cpos : Pos} (slot : Slot "list" name id) (hty : typeOf (.builtin id) = pure (.type "method_descriptor")) (hm : MtR X id r) (hs : MuS X.K r g) (hp : Plc X pe p) (ha : DA X W (e :: es) f)
    (hbase : attributeBase pe name X.env (eval pe X.env) = eval pe X.env := by rfl)
    (hfew : ((backTo cpos (starEach (e :: es) X.env)).all (fun x => !x.1) && (backToKw cpos (keywordEach [] X.env)).all (fun x => x.1.isSome)
      && decide ((e :: es).length + ([] : List Keyword).length + (if ([] : List Keyword).isEmpty then 0 else 1) < 30)) = true := by rfl)
    (hline : (apos.endLine == cpos.line) = true := by rfl) (hst : starEach (e :: es) X.env = (false, eval e X.env) :: starEach es X.env := by rfl) (hpl : (backTo cpos (starEach es X.env)).any (·.1) = false := by rfl) :
    DE X W (.Call (.Attribute pe name apos) (e :: es) [] cpos) (eMutP p g f) := by
  obtain ⟨t, h1, h2⟩ := hp.ex
  exact pe_weak (pe_bm PySem.F.plainAttrs_list slot hty hm h1 ha hbase hfew hline hst hpl) fun _ _ _ => mutP_core hs h2
end
end DL

namespace DL
variable {K : PySem.W.Frag}
open PySem PySem.Spec PyProof.Rows L2
/-! ### arguments lent from places -/
abbrev BP := OD × (OD → Env' → Env')
def BkL (K : PySem.W.Frag) (F H : Hp) (σ : L2.St) (f : Fp) (v : V) (pt : OD → Env' → Env') : Prop := ∀ F' H' x' g' e' fp', Inc F F' → (∀ b, f b → H' b = H b) → Ow K F' H' v x' g' → Ows K F' H' σ e' fp' → Dj g' fp' → Dj f (Un2 g' fp') → Ows K F' H' σ (pt x' e') (Un2 (Un2 g' f) fp')
inductive Bks (K : PySem.W.Frag) (F H : Hp) (σ : L2.St) : Fp → List V → List BP → Prop
  | nil {fm : Fp} : Bks K F H σ fm [] []
  | cons {f1 f2 fm : Fp} {v : V} {y : BP} {vs : List V} {ys : List BP} : BkL K F H σ f1 v y.2 → Bks K F H σ f2 vs ys → (∀ b, f1 b → fm b) → (∀ b, f2 b → fm b) → Dj f1 f2 → Bks K F H σ fm (v :: vs) (y :: ys)
theorem BkL.mono {F H F' H' : Hp} {σ f v pt} (i : Inc F F') (k : ∀ b, f b → H' b = H b) (h : BkL K F H σ f v pt) : BkL K F' H' σ f v pt := fun F2 H2 x' g' e' fp' i2 k2 w o d1 d2 =>
  h F2 H2 x' g' e' fp' (i.tr i2) (fun b z => (k2 b z).trans (k b z)) w o d1 d2
theorem Bks.mono {F H F' H' : Hp} {σ} (i : Inc F F') : ∀ {fm vs ys}, (∀ b, fm b → H' b = H b) → Bks K F H σ fm vs ys → Bks K F' H' σ fm vs ys
  | _, _, _, _, .nil => .nil
  | _, _, _, k, .cons a b c d e => .cons (a.mono i fun b z => k b (c b z)) (Bks.mono i (fun b z => k b (d b z)) b) c d e
theorem Bks.weak {F H : Hp} {σ} {fm fn vs ys} (h : Bks K F H σ fm vs ys) (l : ∀ b, fm b → fn b) : Bks K F H σ fn vs ys := by
  cases h with
  | nil => exact .nil
  | cons a b c d e => exact .cons a b (fun b z => l b (c b z)) (fun b z => l b (d b z)) e
def putP : List (OD → Env' → Env') → List OD → Env' → Env'
  | pt :: pts, x :: xs, e => putP pts xs (pt x e)
  | _, _, e => e
theorem Ows.backP {F H : Hp} {σ : L2.St} : ∀ {vs : List V} {ys : List BP} {xs : List OD} {e : Env'} {fa fm fp : Fp}, Bks K F H σ fm vs ys → Ows K F H (vs.map some) xs fa → Ows K F H σ e fp → Dj fa fp → Dj fm (Un2 fa fp) → Ows K F H σ (putP (ys.map (·.2)) xs e) (Un2 (Un2 fa fm) fp)
  | [], _, _, _, _, _, _, .nil, .nil, o, _, _ => o.weak fun _ => .inr
  | v :: vs, y :: ys, [], e, fa, fm, fp, .cons a b c d f, o0, o, dj, dm => by cases o0
  | v :: vs, y :: ys, x :: xs, e, fa, fm, fp, .cons (f1 := h1) (f2 := h2) a b c d f, o0, o, dj, dm => by
    obtain ⟨g1, g2, wx, wr, l1, l2, dg⟩ := o0.uncons
    have o1 := a F H x g1 e fp Inc.rfl' (fun _ _ => rfl) wx o (fun b z => dj b (l1 b z)) (fun b z z2 => dm b (c b z) (z2.imp_left (l1 b)))
    refine (Ows.backP b wr o1 (fun b z z2 => ?_) fun b z z2 => ?_).weak fun b z => ?_
    · rcases z2 with (z2 | z2) | z2
      · exact dg b z2 z
      · exact dm b (c b z2) (.inl (l2 b z))
      · exact dj b (l2 b z) z2
    · rcases z2 with z2 | ((z2 | z2) | z2)
      · exact dm b (d b z) (.inl (l2 b z2))
      · exact dm b (d b z) (.inl (l1 b z2))
      · exact f b z2 z
      · exact dm b (d b z) (.inr z2)
    · rcases z with (z | z) | ((z | z) | z)
      · exact .inl (.inl (l2 b z))
      · exact .inl (.inr (d b z))
      · exact .inl (.inl (l1 b z))
      · exact .inl (.inr (c b z))
      · exact .inr z
def PoPs (K : PySem.W.Frag) (mg : Mg) (W : WX) (F H : Hp) (fp : Fp) (σ : L2.St) (Q : List V → Hp → Prop) : R (List BP) → Prop
  | .st => False
  | .ok ys env' => ∀ (vs : List V) (F' H' : Hp) (fv fm fp' : Fp), Stp F H fp F' H' (Un2 fv (Un2 fm fp')) → Dj fv (Un2 fm fp') → Dj fm fp' → Ows K F' H' (vs.map some) (ys.map (·.1)) fv → Bks K F' H' σ fm vs ys → Ows K F' H' σ env' fp' → Q vs H'
  | .ex C f env' => PoX K mg W F H fp σ C f env'
def dTPs (K : PySem.W.Frag) (mg : Mg) (W : WX) (f : Env' → R (List BP)) : TA := fun σ H Q => ∃ F env fp, RS F H fp ∧ Ows K F H σ env fp ∧ PoPs K mg W F H fp σ Q (f env)
section
variable {X : Cx} {W : WX} {pos : Pos}
def noPt : OD → Env' → Env' := fun _ e => e
theorem bkl_no {F H : Hp} {σ v} : BkL K F H σ NoFp v noPt := fun F' H' x' g' e' fp' _ _ _ o _ _ => o.weak fun _ => .inr
def slPt (i : Nat) : OD → Env' → Env' := fun x e => e.set i x
theorem bkl_slot {F H : Hp} {σ : L2.St} {v i} (h : σ[i]? = some (some v)) : BkL K F H σ NoFp v (slPt i) := fun F' H' x' g' e' fp' _ _ w o d _ => (Ows.put w o h d).weak fun b z => z.imp_left .inl
def boPt : Option Nat → OD → Env' → Env'
  | some i => slPt i
  | none => noPt
def lpNil : Env' → R (List BP) := fun env => .ok [] env
def lpCons (f : Env' → R BO) (g : Env' → R (List BP)) : Env' → R (List BP) := fun env => (f env).bind fun x e => (g e).bind fun xs e2 => .ok ((x.1, boPt x.2) :: xs) e2
/-- what stands at a place, lent (what stands still is but handed) -/
def lpPlc (p : PlF) (g : Env' → R (List BP)) : Env' → R (List BP) := fun env => match p env with
  | some (i, .fo C ns ds, _) => (g env).bind fun ys e => .ok ((.fo C ns ds, noPt) :: ys) e
  | some (i, y, re) => (g (env.set i .h)).bind fun ys e => .ok ((y, fun z e => e.set i (re z)) :: ys) e
  | none => .st
theorem lpn_core {mg : Mg} {σ : L2.St} {H : Hp} {Q : List V → Hp → Prop} : dTPs K mg W lpNil σ H Q → tNil σ H Q := fun ⟨F, env, fp, rs, o, h⟩ =>
  h [] F H NoFp NoFp fp ((Stp.rfl' rs).less fun _ q => q.elim False.elim fun q => q.elim False.elim fun q => q) dj0 dj0 .nil .nil o
theorem lpc_core {mg : Mg} {σ : L2.St} {H : Hp} {Q : List V → Hp → Prop} {f : Env' → R BO} {g : Env' → R (List BP)} : dTPs K mg W (lpCons f g) σ H Q → tCons (dTB K mg W f) (dTPs K mg W g) σ H Q := fun ⟨F, env, fp, rs, o, h⟩ => by
  refine ⟨F, env, fp, rs, o, ?_⟩
  unfold lpCons at h
  cases e : f env with
  | st => rw [e] at h; exact h.elim
  | ex C x e' => rw [e] at h; exact h
  | ok x e1 =>
    rw [e] at h
    intro v F1 H1 fv f1 s1 dj1 w1 bk1 o1
    refine ⟨F1, e1, f1, ⟨s1.rs.sub, fun a q => s1.rs.own a (.inr q)⟩, o1, ?_⟩
    cases e2 : g e1 with
    | st => rw [R.bind_ok, e2] at h; exact h.elim
    | ex C x e' => rw [R.bind_ok, e2] at h; exact PoX.step (C := C) (f := x) s1 (fun _ q => .inr q) h
    | ok ys e' =>
      rw [R.bind_ok, e2] at h
      intro u F2 H2 fu fm f2 s2 dj2 dm2 w2 bk2 o2
      have own : ∀ a, fv a → F1 a = none ∧ H1 a ≠ none := fun a q => s1.rs.own a (.inl q)
      have w1' := w1.step s2 dj1 (fun a q => (own a q).2)
      have d3 := s2.dj dj1 fun a q => (own a q).2
      have s3 : Stp F H fp F2 H2 (Un2 (Un2 fu (Un2 fm f2)) fv) := s1.tr ((s2.frame dj1 own).from fun a q => q.elim .inr .inl)
      have bl : BkL K F2 H2 σ NoFp v (boPt x.2) := by
        cases q : x.2 with
        | none => exact bkl_no
        | some i => exact bkl_slot (bk1 i q)
      refine h (v :: u) F2 H2 (Un2 fv fu) fm f2 (s3.less fun a q => ?_) (fun a q z => ?_) dm2 (.cons (f1 := fv) (f2 := fu) w1' w2 (fun _ => .inl) (fun _ => .inr) fun a q z => d3 a q (.inl z)) (.cons (f1 := NoFp) (f2 := fm) bl bk2 (fun _ z => z.elim) (fun _ z => z) fun _ z => z.elim) o2
      · rcases q with (q | q) | q
        · exact .inr q
        · exact .inl (.inl q)
        · exact .inl (.inr q)
      · rcases q with q | q
        · exact d3 a q (.inr z)
        · exact dj2 a q z
/-- the place's rule, and what follows -/
abbrev PlR (K : PySem.W.Frag) (p : PlF) (t : TE) : Prop := ∀ σ H (Q : VK) F env fp i y re, RS F H fp → Ows K F H σ env fp → p env = some (i, y, re) → ∃ x R, lk env i = some x ∧ Lens K x y re R ∧ ∀ v u, σ[i]? = some (some v) → R H v u → Q u H → t σ H Q
theorem lpp_core {mg : Mg} {p : PlF} {t : TE} (hp : PlR K p t) {σ : L2.St} {H : Hp} {Q : List V → Hp → Prop} {g : Env' → R (List BP)} (Kf : VK) {F : Hp} {env : Env'} {fp : Fp} (rs : RS F H fp) (o : Ows K F H σ env fp) (h : PoPs K mg W F H fp σ Q (lpPlc p g env))
    (hk : ∀ i y re u g1, p env = some (i, y, re) → Ow K F H u y g1 → dTPs K mg W g σ H (fun xs H2 => Q (u :: xs) H2) → Kf u H) : t σ H Kf := by
  cases ep : p env with
  | none => unfold lpPlc at h; rw [ep] at h; exact h.elim
  | some tr =>
    obtain ⟨i, y, re⟩ := tr
    obtain ⟨x, RR, q1, q2, q3⟩ := hp σ H Kf F env fp _ _ _ rs o ep
    obtain ⟨n1, n2⟩ := lk_some q1
    obtain ⟨v, G1, G2, hv, w0, orest, L1, L2', DG⟩ := o.get n1 n2
    obtain ⟨u, g1, g2, r0, wu, l1, l2, d, k⟩ := q2.go F H v G1 rs.sub w0
    refine q3 v u hv r0 (hk i y re u g1 ep wu ?_)
    have own1 : ∀ b, G1 b → F b = none ∧ H b ≠ none := fun b z => rs.own b (L1 b z)
    have still : ∀ C ns ds, y = .fo C ns ds → dTPs K mg W g σ H fun xs H2 => Q (u :: xs) H2 := fun C ns ds ey => by
      subst ey
      refine ⟨F, env, fp, rs, o, ?_⟩
      unfold lpPlc at h
      rw [ep] at h
      dsimp only at h
      have wu0 : Ow K F H u (.fo C ns ds) NoFp := by cases wu with | fo a b c d => exact .fo a b c d
      cases e2 : g env with
      | st => rw [e2] at h; exact h.elim
      | ex C x e' => rw [e2] at h; exact h
      | ok ys e' =>
        rw [e2, R.bind_ok] at h
        intro us F2 H2 fu fm f2 s2 dj2 dm2 w2 bk2 o2
        have w1' := Ow.step (g := NoFp) s2 dj0 (fun _ z => z.elim) wu0
        exact h (u :: us) F2 H2 fu fm f2 s2 dj2 dm2 (.cons (f1 := NoFp) (f2 := fu) w1' w2 (fun _ z => z.elim) (fun _ z => z) fun _ z => z.elim) (.cons (f1 := NoFp) (f2 := fm) bkl_no bk2 (fun _ z => z.elim) (fun _ z => z) fun _ z => z.elim) o2
    have lent : (∀ C ns ds, y ≠ .fo C ns ds) → dTPs K mg W g σ H fun xs H2 => Q (u :: xs) H2 := fun ny => by
      have h' : PoPs K mg W F H fp σ Q ((g (env.set i .h)).bind fun ys e => .ok ((y, fun z e => e.set i (re z)) :: ys) e) := by
        unfold lpPlc at h
        rw [ep] at h
        cases y <;> first | exact h | exact absurd rfl (ny _ _ _)
      refine ⟨F, _, G2, ⟨rs.sub, fun a q => rs.own a (L2' a q)⟩, orest, ?_⟩
      have st0 : Stp F H fp F H G2 := (Stp.rfl' rs).less L2'
      cases e2 : g (env.set i .h) with
      | st => rw [e2] at h'; exact h'.elim
      | ex C x e' => rw [e2] at h'; exact PoX.step (C := C) (f := x) st0 (fun _ q => q) h'
      | ok ys e' =>
        rw [e2, R.bind_ok] at h'
        intro us F2 H2 fu fm f2 s2 dj2 dm2 w2 bk2 o2
        have keep : ∀ b, G1 b → H2 b = H b := fun b z => (s2.keep b (DG b z) (own1 b z).2).1
        have d3 := s2.dj DG fun b z => (own1 b z).2
        have sf := s2.frame DG own1
        have w1' : Ow K F2 H2 u y g1 := wu.mono s2.inc fun b z => keep b (l1 b z)
        have bl : BkL K F2 H2 σ g2 u (fun z e => e.set i (re z)) := fun F' H' x' g' e' fp' i2 k2 w o d1 d2 => by
          have wo := k F' H' x' g' (s2.inc.tr i2) (fun b z => (k2 b z).trans (keep b (l2 b z))) w (fun b z z2 => d2 b z2 (.inl z))
          exact Ows.put wo o hv fun b z z2 => z.elim (fun z => d1 b z z2) fun z => d2 b z (.inr z2)
        have total : Stp F H fp F2 H2 (Un2 (Un2 fu (Un2 fm f2)) G1) := ((Stp.rfl' rs).less (fun b (z : Un2 G2 G1 b) => z.elim (L2' b) (L1 b))).tr sf
        refine h' (u :: us) F2 H2 (Un2 g1 fu) (Un2 g2 fm) f2 (total.less fun a q => ?_) (fun a q z => ?_) (fun a q z => ?_) (.cons (f1 := g1) (f2 := fu) w1' w2 (fun _ => .inl) (fun _ => .inr) fun a q z => d3 a (l1 a q) (.inl z)) (.cons (f1 := g2) (f2 := fm) bl bk2 (fun _ => .inl) (fun _ => .inr) fun a q z => d3 a (l2 a q) (.inr (.inl z))) o2
        · rcases q with (q | q) | ((q | q) | q)
          · exact .inr (l1 a q)
          · exact .inl (.inl q)
          · exact .inr (l2 a q)
          · exact .inl (.inr (.inl q))
          · exact .inl (.inr (.inr q))
        · rcases q with q | q
          · rcases z with (z | z) | z
            · exact d a q z
            · exact d3 a (l1 a q) (.inr (.inl z))
            · exact d3 a (l1 a q) (.inr (.inr z))
          · rcases z with (z | z) | z
            · exact d3 a (l2 a z) (.inl q)
            · exact dj2 a q (.inl z)
            · exact dj2 a q (.inr z)
        · rcases q with q | q
          · exact d3 a (l2 a q) (.inr (.inr z))
          · exact dm2 a q z
    cases y with
    | fo C ns ds => exact still C ns ds rfl
    | _ => exact lent fun _ _ _ z => nomatch z
/-- a list of arguments -/
structure DPn (X : Cx) (W : WX) (es : List Expr) (n : Nat) (f : Env' → R (List BP)) : Prop where
  pa : PA X es (dTPs X.K X.mg W f)
  ln : ∀ env ys e, f env = .ok ys e → ys.length = n
theorem dp_nil : DPn X W [] 0 lpNil := ⟨pa_weak pa_nil fun _ _ _ => lpn_core, fun env ys e h => by cases h; rfl⟩
theorem lpc_len {f : Env' → R BO} {g : Env' → R (List BP)} {n : Nat} (h : ∀ env ys e, g env = .ok ys e → ys.length = n) : ∀ env ys e, lpCons f g env = .ok ys e → ys.length = n + 1 := fun env ys e q => by
  unfold lpCons at q
  cases a : f env with
  | st => rw [a] at q; cases q
  | ex => rw [a] at q; cases q
  | ok x e1 =>
    rw [a, R.bind_ok] at q
    cases b : g e1 with
    | st => rw [b] at q; cases q
    | ex => rw [b] at q; cases q
    | ok xs e2 => rw [b, R.bind_ok] at q; cases q; rw [List.length_cons, h _ _ _ b]
theorem lpp_len {p : PlF} {g : Env' → R (List BP)} {n : Nat} (h : ∀ env ys e, g env = .ok ys e → ys.length = n) : ∀ env ys e, lpPlc p g env = .ok ys e → ys.length = n + 1 := fun env ys e q => by
  unfold lpPlc at q
  split at q
  · cases b : g env with
    | st => rw [b] at q; cases q
    | ex => rw [b] at q; cases q
    | ok xs e2 => rw [b, R.bind_ok] at q; cases q; rw [List.length_cons, h _ _ _ b]
  · rename_i i y re _ _
    cases b : g (env.set i .h) with
    | st => rw [b] at q; cases q
    | ex => rw [b] at q; cases q
    | ok xs e2 => rw [b, R.bind_ok] at q; cases q; rw [List.length_cons, h _ _ _ b]
  · cases q
theorem dp_cons {e : Expr} {es : List Expr} {f g} {n : Nat} (ha : DB X W e f) (hr : DPn X W es n g) (hs : starEach (e :: es) X.env = (false, eval e X.env) :: starEach es X.env := by rfl) : DPn X W (e :: es) (n + 1) (lpCons f g) :=
  ⟨pa_weak (pa_cons ha hr.pa hs) fun _ _ _ => lpc_core, lpc_len hr.ln⟩
theorem dp_plc {e : Expr} {es : List Expr} {p g} {n : Nat} (hp : Plc X e p) (hr : DPn X W es n g) (hs : starEach (e :: es) X.env = (false, eval e X.env) :: starEach es X.env := by rfl) : DPn X W (e :: es) (n + 1) (lpPlc p g) := by
  obtain ⟨t, h1, h2⟩ := hp.ex
  exact ⟨pa_weak (pa_cons h1 hr.pa hs) fun σ H Q ⟨F, env, fp, rs, o, h⟩ => lpp_core h2 _ rs o h (fun _ _ _ _ _ _ _ z => z), lpp_len hr.ln⟩
/-! ### calls -/
def eFnP (φ : Fn) (f : Env' → R (List BP)) : Env' → R OD := fun env => (f env).bind fun ys e => match φ (ys.map (·.1)) with
  | .st => .st
  | .ok d xs => .ok d (putP (ys.map (·.2)) xs e)
  | .ex C x xs => .ex C x (putP (ys.map (·.2)) xs e)
/-- behind the arguments: the call, then all is put back -/
theorem ran {mg : Mg} {n : Nat} {φ : Fn} {σ : L2.St} {Q : VK} {F H F1 H1 : Hp} {fp fv fm f1 : Fp} {vs : List V} {ys : List BP} {e1 : Env'} (hl : vs.length = n)
    (h : PoE K mg W F H fp σ Q (match φ (ys.map (·.1)) with
      | .st => .st
      | .ok d xs => .ok d (putP (ys.map (·.2)) xs e1)
      | .ex C x xs => .ex C x (putP (ys.map (·.2)) xs e1)))
    (s1 : Stp F H fp F1 H1 (Un2 fv (Un2 fm f1))) (dj1 : Dj fv (Un2 fm f1)) (dm1 : Dj fm f1) (w1 : Ows K F1 H1 (vs.map some) (ys.map (·.1)) fv) (bk : Bks K F1 H1 σ fm vs ys) (o1 : Ows K F1 H1 σ e1 f1) : spD K mg n φ vs H1 Q (WE W σ) := by
  refine ⟨hl, F1, _, fv, ⟨s1.rs.sub, fun a q => s1.rs.own a (.inl q)⟩, w1, ?_⟩
  have own : ∀ a, Un2 fm f1 a → F1 a = none ∧ H1 a ≠ none := fun a q => s1.rs.own a (.inr q)
  have dj1' : Dj (Un2 fm f1) fv := fun a z z2 => dj1 a z2 z
  have prep : ∀ F2 H2 fz, Stp F1 H1 fv F2 H2 fz → Ows K F2 H2 σ e1 f1 ∧ Bks K F2 H2 σ fm vs ys ∧ Dj (Un2 fm f1) fz ∧ Stp F H fp F2 H2 (Un2 fz (Un2 fm f1)) := fun F2 H2 fz s2 => by
    have kp : ∀ b, Un2 fm f1 b → H2 b = H1 b := fun b z => (s2.keep b (dj1' b z) (own b z).2).1
    exact ⟨o1.mono s2.inc fun b z => kp b (.inr z), bk.mono s2.inc fun b z => kp b (.inl z), s2.dj dj1' fun a q => (own a q).2, s1.tr (s2.frame dj1' own)⟩
  cases q : φ (ys.map (·.1)) with
  | st => rw [q] at h; exact h.elim
  | ok d xs =>
    rw [q] at h
    intro v F2 H2 fd fa s2 dj2 wd wa
    obtain ⟨o2, b2, d3, s3⟩ := prep _ _ _ s2
    have ob := Ows.backP b2 wa o2 (fun a z z2 => d3 a (.inr z2) (.inr z)) fun a z z2 => z2.elim (fun z2 => d3 a (.inl z) (.inr z2)) (dm1 a z)
    refine h v F2 H2 fd _ (s3.less fun a z => ?_) (fun a z z2 => ?_) wd ob
    · rcases z with z | ((z | z) | z)
      · exact .inl (.inl z)
      · exact .inl (.inr z)
      · exact .inr (.inl z)
      · exact .inr (.inr z)
    · rcases z2 with (z2 | z2) | z2
      · exact dj2 a z z2
      · exact d3 a (.inl z2) (.inl z)
      · exact d3 a (.inr z2) (.inl z)
  | ex C x xs =>
    rw [q] at h
    intro F2 H2 fa s2 wa
    obtain ⟨o2, b2, d3, s3⟩ := prep _ _ _ s2
    have ob := Ows.backP b2 wa o2 (fun a z z2 => d3 a (.inr z2) z) fun a z z2 => z2.elim (fun z2 => d3 a (.inl z) z2) (dm1 a z)
    refine h F2 H2 _ (s3.less fun a z => ?_) ob
    rcases z with (z | z) | z
    · exact .inl z
    · exact .inr (.inl z)
    · exact .inr (.inr z)
theorem fnP_po {n : Nat} {φ : Fn} {f : Env' → R (List BP)} {σ : L2.St} {H : Hp} {Q : VK} {mg : Mg} {F : Hp} {fp : Fp} {env : Env'} (hn : ∀ env ys e, f env = .ok ys e → ys.length = n) (h : PoE K mg W F H fp σ Q (eFnP φ f env)) : PoPs K mg W F H fp σ (fun vs H1 => spD K mg n φ vs H1 Q (WE W σ)) (f env) := by
  unfold eFnP at h
  cases e : f env with
  | st => rw [e] at h; exact h.elim
  | ex C x e' => rw [e] at h; exact h
  | ok ys e1 =>
    rw [e, R.bind_ok] at h
    intro vs F1 H1 fv fm f1 s1 dj1 dm1 w1 bk o1
    have hl := ows_len w1
    rw [List.length_map] at hl
    exact ran (hl.trans (hn _ _ _ e)) h s1 dj1 dm1 w1 bk o1
theorem fnP_core {n : Nat} {φ : Fn} {f : Env' → R (List BP)} {σ : L2.St} {H : Hp} {Q : VK} {mg : Mg} (hn : ∀ env ys e, f env = .ok ys e → ys.length = n) : dTE K mg W (eFnP φ f) σ H Q → tCallS (spD K mg n φ) (WE W) (dTPs K mg W f) σ H Q := fun ⟨F, env, fp, rs, o, h⟩ =>
  ⟨F, env, fp, rs, o, fnP_po hn h⟩
theorem de_callP {x : Str} {n j k : Nat} {φ : Fn} {e : Expr} {es : List Expr} {fb} {p : Pos} (G : DefX X x n φ j) (hr : Room k X.A) (tk : Takes X W) (ha : DPn X W (e :: es) n fb) (hj : j ≤ k := by decide) (hg : Gl X x := by rfl) (hdb : (x == ("__debug__" : Str)) = false := by decide)
    (he : starEach (e :: es) X.env = (false, eval e X.env) :: starEach es X.env := by rfl) (hpl : (backTo pos (starEach es X.env)).any (·.1) = false := by rfl) : DE X W (.Call (.Name x p) (e :: es) [] pos) (eFnP φ fb) := by
  obtain ⟨f, fd, ps, hm, F, hb, hk⟩ := G.ex
  exact pe_weak (pe_callS F (hr.mono hj) hg hm hk hb (fun σ => passAt tk σ) ha.pa hdb he hpl) fun _ _ _ => fnP_core ha.ln
/-! ### methods of one's own -/
def tMethS (C : Addr) (m : Str) (sp : Sp) (E : L2.St → XK) (ta : TE) (t : TA) : TE := fun σ H Q => ta σ H fun x H1 => (∃ a dx fs, x = .ref a ∧ H1 a = some (.ins C dx fs) ∧ fs.lookup m = none) ∧ t σ H1 fun vs H2 => sp (x :: vs) H2 Q (E σ)
theorem pe_methS {CX : CXT} {k : Nat} {f C : Addr} {m : Str} {fd : FuncData} {ps : List Str} {sp : Sp} {E : L2.St → XK} {o e : Expr} {es : List Expr} {ta : TE} {t : TA} {apos : Pos} {pl : Sem Bool} (he : PE X o ta) (c : Cls X.K C) (hm : Meth X.K C m f) (F : FnOk X.prog X.w X.K X.mg X.base CX k f fd ps sp) (hr : Room k X.A) (hb : Binds X.K fd ps []) (hx : ∀ σ, PassesAt CX X σ (E σ)) (ha : PA X (e :: es) t)
    (hst : starEach (e :: es) X.env = (false, eval e X.env) :: starEach es X.env := by rfl) (hpl : (backTo pos (starEach es X.env)).any (·.1) = false := by rfl)
    (ht : eval (.Call (.Attribute o m apos) (e :: es) [] pos) X.env = (do
      let ov ← eval o X.env
      standAt apos.atName
      let (f, first) ← holding [ov] (getMethod ov m pl)
      callWith pos f first (backTo pos (starEach (e :: es) X.env)) (backToKw pos (keywordEach [] X.env))) := by rfl) :
    PE X (.Call (.Attribute o m apos) (e :: es) [] pos) (tMethS C m sp E ta t) := by
  refine ⟨fun pins s σ H Q I h => ?_⟩
  refine PySem.W.methodCall_KW (pl := pl) (thn (he.run pins s σ H _ I h) fun u s1 ⟨x, H1, I1, rx, ⟨a, dx, fs, ex, ea, l⟩, q⟩ => ?_) ht
  subst ex
  obtain rfl : u = Value.ref a := rx
  refine getmeth_ok I1 ea c hm l ?_
  refine PySem.W.callWith_K (first := [.ref a]) (h₀ := X.base) I.ok.mod.kin hm.kp (thn (ha.run pos pins s1 σ H1 _ I1 q) fun us s2 ⟨vs, H2, I2, r, q2⟩ => ⟨I2.kIn, ?_⟩) hst hpl
  exact run_fnS (us := .ref a :: us) (vs := .ref a :: vs) F hr hb (hx σ) I2 (.cons rfl r) q2
theorem pe_methS0 {CX : CXT} {k : Nat} {f C : Addr} {m : Str} {fd : FuncData} {ps : List Str} {sp : Sp} {E : L2.St → XK} {o : Expr} {ta : TE} {apos : Pos} {pl : Sem Bool} (he : PE X o ta) (c : Cls X.K C) (hm : Meth X.K C m f) (F : FnOk X.prog X.w X.K X.mg X.base CX k f fd ps sp) (hr : Room k X.A) (hb : Binds X.K fd ps []) (hx : ∀ σ, PassesAt CX X σ (E σ))
    (ht : eval (.Call (.Attribute o m apos) [] [] pos) X.env = (do
      let ov ← eval o X.env
      standAt apos.atName
      let (f, first) ← holding [ov] (getMethod ov m pl)
      callWith pos f first (backTo pos (starEach [] X.env)) (backToKw pos (keywordEach [] X.env))) := by rfl) :
    PE X (.Call (.Attribute o m apos) [] [] pos) (tMethS C m sp E ta tNil) := by
  refine ⟨fun pins s σ H Q I h => ?_⟩
  refine PySem.W.methodCall_KW (pl := pl) (thn (he.run pins s σ H _ I h) fun u s1 ⟨x, H1, I1, rx, ⟨a, dx, fs, ex, ea, l⟩, q⟩ => ?_) ht
  subst ex
  obtain rfl : u = Value.ref a := rx
  refine getmeth_ok I1 ea c hm l ?_
  exact PySem.W.callWith_K0 (first := [.ref a]) I1.kIn hm.kp (run_fnS (us := [.ref a]) (vs := [.ref a]) F hr hb (hx σ) I1 (.cons rfl .nil) q)
/-- a method of a class, by their names: its worth -/
structure DefMt (P : Program) (w : World) (K : PySem.W.Frag) (mg : Mg) (base : Heap) (C m : Str) (n : Nat) (φ : Fn) (k : Nat) : Prop where
  ex : ∃ Ca f fd ps, PySem.W.nsIn K mainGlobals C = some (some (.ref Ca)) ∧ Cls K Ca ∧ Meth K Ca m f ∧ FnOk P w K mg base (L2.CX P w) k f fd ps (spD K mg (n + 1) φ) ∧ Binds K fd ps []
abbrev DefMtX (X : Cx) (C m : Str) (n : Nat) (φ : Fn) (k : Nat) : Prop := DefMt X.prog X.w X.K X.mg X.base C m n φ k
def okR (C m : Str) : OD → Bool
  | .fo C' ns _ => decide (C' = C) && (fIx m ns).isNone
  | .ob C' ns _ => decide (C' = C) && (fIx m ns).isNone
  | _ => false
def eMt (C m : Str) (φ : Fn) (p : PlF) (g : Env' → R (List BP)) : Env' → R OD := fun env => match p env with
  | some (_, y, _) => if okR C m y = true then eFnP φ (lpPlc p g) env else .st
  | none => .st
theorem lookup_zip_none {m : Str} : ∀ {ns : List Str} {vs : List V}, fIx m ns = none → (ns.zip vs).lookup m = none
  | [], _, _ => by simp
  | g :: r, [], _ => by simp
  | g :: r, v :: vs, e => by
    unfold fIx at e
    rw [List.zip_cons_cons, List.lookup_cons]
    by_cases h : g = m
    · rw [if_pos h] at e; cases e
    · rw [if_neg h] at e
      rw [show (m == g) = false by simp [Ne.symm h]]
      exact lookup_zip_none (by cases q : fIx m r with | none => rfl | some k => rw [q] at e; cases e)
theorem okR_ins {C m : Str} {Ca : Addr} {F H : Hp} {u : V} {y : OD} {g : Fp} (hn : PySem.W.nsIn K mainGlobals C = some (some (.ref Ca))) (i : Inc F H) (e : okR C m y = true) (w : Ow K F H u y g) : ∃ a dx fs, u = .ref a ∧ H a = some (.ins Ca dx fs) ∧ fs.lookup m = none := by
  cases w with
  | fo a b c d =>
    simp only [okR, Bool.and_eq_true, decide_eq_true_eq, Option.isNone_iff_eq_none] at e
    obtain ⟨rfl, e⟩ := e
    rw [hn] at c
    obtain ⟨c, _⟩ := c
    cases c
    exact ⟨_, _, _, rfl, i _ _ a, lookup_zip_none e⟩
  | ob a b c d f o k =>
    simp only [okR, Bool.and_eq_true, decide_eq_true_eq, Option.isNone_iff_eq_none] at e
    obtain ⟨rfl, e⟩ := e
    rw [hn] at f
    obtain ⟨f, _⟩ := f
    cases f
    exact ⟨_, _, _, rfl, c, lookup_zip_none e⟩
  | _ => cases e
theorem mt_core {n : Nat} {C m : Str} {Ca : Addr} {φ : Fn} {p : PlF} {t : TE} {g : Env' → R (List BP)} {σ : L2.St} {H : Hp} {Q : VK} {mg : Mg} (hnC : PySem.W.nsIn K mainGlobals C = some (some (.ref Ca))) (hp : PlR K p t) (hn : ∀ env ys e, g env = .ok ys e → ys.length = n) :
    dTE K mg W (eMt C m φ p g) σ H Q → tMethS Ca m (spD K mg (n + 1) φ) (WE W) t (dTPs K mg W g) σ H Q := fun ⟨F, env, fp, rs, o, h⟩ => by
  unfold eMt at h
  cases ep : p env with
  | none => rw [ep] at h; exact h.elim
  | some tr =>
    obtain ⟨i, y, re⟩ := tr
    rw [ep] at h
    dsimp only at h
    by_cases ok : okR C m y = true
    · rw [if_pos ok] at h
      refine lpp_core hp _ rs o (fnP_po (n := n + 1) (lpp_len hn) h) fun i' y' re' u g1 e' w z => ⟨?_, z⟩
      rw [ep] at e'
      cases e'
      exact okR_ins hnC rs.sub ok w
    · rw [if_neg ok] at h; exact h.elim
theorem de_mt {C m : Str} {n j k : Nat} {φ : Fn} {oe e : Expr} {es : List Expr} {p g} {apos : Pos} {pl : Sem Bool} (G : DefMtX X C m n φ j) (hr : Room k X.A) (tk : Takes X W) (hp : Plc X oe p) (ha : DPn X W (e :: es) n g) (hj : j ≤ k := by decide)
    (hst : starEach (e :: es) X.env = (false, eval e X.env) :: starEach es X.env := by rfl) (hpl : (backTo pos (starEach es X.env)).any (·.1) = false := by rfl)
    (ht : eval (.Call (.Attribute oe m apos) (e :: es) [] pos) X.env = (do
      let ov ← eval oe X.env
      standAt apos.atName
      let (f, first) ← holding [ov] (getMethod ov m pl)
      callWith pos f first (backTo pos (starEach (e :: es) X.env)) (backToKw pos (keywordEach [] X.env))) := by rfl) : DE X W (.Call (.Attribute oe m apos) (e :: es) [] pos) (eMt C m φ p g) := by
  obtain ⟨t, h1, h2⟩ := hp.ex
  obtain ⟨Ca, f, fd, ps, hn, c, M, F, hb⟩ := G.ex
  exact pe_weak (pe_methS h1 c M F (hr.mono hj) hb (fun σ => passAt tk σ) ha.pa hst hpl ht) fun _ _ _ => mt_core hn h2 ha.ln
theorem de_mt0 {C m : Str} {j k : Nat} {φ : Fn} {oe : Expr} {p} {apos : Pos} {pl : Sem Bool} (G : DefMtX X C m 0 φ j) (hr : Room k X.A) (tk : Takes X W) (hp : Plc X oe p) (hj : j ≤ k := by decide)
    (ht : eval (.Call (.Attribute oe m apos) [] [] pos) X.env = (do
      let ov ← eval oe X.env
      standAt apos.atName
      let (f, first) ← holding [ov] (getMethod ov m pl)
      callWith pos f first (backTo pos (starEach [] X.env)) (backToKw pos (keywordEach [] X.env))) := by rfl) : DE X W (.Call (.Attribute oe m apos) [] [] pos) (eMt C m φ p lpNil) := by
  obtain ⟨t, h1, h2⟩ := hp.ex
  obtain ⟨Ca, f, fd, ps, hn, c, M, F, hb⟩ := G.ex
  refine pe_weak (pe_methS0 h1 c M F (hr.mono hj) hb (fun σ => passAt tk σ) ht) fun σ H Q ⟨F, env, fp, rs, o, h⟩ => ?_
  unfold eMt at h
  cases ep : p env with
  | none => rw [ep] at h; exact h.elim
  | some tr =>
    obtain ⟨i, y, re⟩ := tr
    rw [ep] at h
    dsimp only at h
    by_cases ok : okR C m y = true
    · rw [if_pos ok] at h
      refine lpp_core h2 _ rs o (fnP_po (n := 1) (lpp_len (n := 0) fun env ys e h => by cases h; rfl) h) fun i' y' re' u g1 e' w z => ⟨?_, lpn_core z⟩
      rw [ep] at e'
      cases e'
      exact okR_ins hn rs.sub ok w
    · rw [if_neg ok] at h; exact h.elim
end
end DL

namespace DL
variable {K : PySem.W.Frag}
open PySem PySem.Spec PyProof.Rows L2
/-! ### what a name's instance is, while it is only looked at: it stands still -/
def isMut (H : Hp) : Fp := fun a => (∃ vs, H a = some (.lst vs)) ∨ (∃ C dx fs, H a = some (.ins C dx fs)) ∨ (∃ x, H a = some (.own x)) ∨ ∃ kvs, H a = some (.dK kvs)
theorem isMut.tup {H : Hp} {a : Addr} {vs : List V} (m : isMut H a) (h : H a = some (.tup vs)) : False := by
  rcases m with ⟨_, e⟩ | ⟨_, _, _, e⟩ | ⟨_, e⟩ | ⟨_, e⟩ <;> (rw [h] at e; cases e)
mutual
theorem Ow.mut {F H : Hp} : ∀ {v x fp}, Ow K F H v x fp → Ow K F H v x (fun a => fp a ∧ isMut H a)
  | _, _, _, .h => .h
  | _, _, _, .p d => .p d
  | _, _, _, .l (fq := fq) a b c d => .l (fq := fun a => fq a ∧ isMut H a) ⟨a, .inl ⟨_, b⟩⟩ b c.mut fun b z => ⟨⟨(d b z.1).1, z.2⟩, (d b z.1).2⟩
  | _, _, _, .t a b => .t a b.mut
  | _, _, _, .sc a => .sc a
  | _, _, _, .er a => .er a
  | _, _, _, .ob (fq := fq) a b c d e f g => .ob (fq := fun a => fq a ∧ isMut H a) ⟨a, .inr (.inl ⟨_, _, _, c⟩)⟩ ⟨b, .inr (.inr (.inl ⟨_, d⟩))⟩ c d e f.mut fun b z => ⟨⟨(g b z.1).1, z.2⟩, (g b z.1).2⟩
  | _, _, _, .fo a b c d => .fo a b c d
  | _, _, _, .dc (fq := fq) a b c d => .dc (fq := fun a => fq a ∧ isMut H a) ⟨a, .inr (.inr (.inr ⟨_, b.1⟩))⟩ b c.mut fun b z => ⟨⟨(d b z.1).1, z.2⟩, (d b z.1).2⟩
theorem Ows.mut {F H : Hp} : ∀ {us xs fp}, Ows K F H us xs fp → Ows K F H us xs (fun a => fp a ∧ isMut H a)
  | _, _, _, .nil => .nil
  | _, _, _, .hole t => .hole t.mut
  | _, _, _, .cons (f1 := f1) (f2 := f2) a b c d e => .cons (f1 := fun a => f1 a ∧ isMut H a) (f2 := fun a => f2 a ∧ isMut H a) a.mut b.mut (fun b z => ⟨c b z.1, z.2⟩) (fun b z => ⟨d b z.1, z.2⟩) fun b z z2 => e b z.1 z2.1
end
mutual
theorem Dd.thawM {F : Hp} {G : Fp} (g : ∀ a, G a → isMut F a) : ∀ {v d}, Dd F v d → nlD d = true → Dd (sub F G) v d
  | _, _, .non, _ => .non
  | _, _, .bl b, _ => .bl b
  | _, _, .int i, _ => .int i
  | _, _, .str x, _ => .str x
  | _, _, .lst h t, n => by simp [nlD] at n
  | _, _, .tup h t, n => .tup ((sub_out fun z => (g _ z).tup h).trans h) (t.thawM g (by simpa [nlD] using n))
theorem DdL.thawM {F : Hp} {G : Fp} (g : ∀ a, G a → isMut F a) : ∀ {v d}, DdL F v d → nlDs d = true → DdL (sub F G) v d
  | _, _, .nil, _ => .nil
  | _, _, .cons h t, n => by
    simp [nlDs] at n
    exact .cons (h.thawM g n.1) (t.thawM g n.2)
end
theorem Ows.thawM {F H : Hp} {G : Fp} (g : ∀ a, G a → isMut F a) : ∀ {us xs fp}, Ows K F H us xs fp → allPn xs = true → Ows K (sub F G) H us xs fp
  | _, _, _, .nil, _ => .nil
  | _, _, _, .hole _, n => by simp [allPn] at n
  | _, _, _, .cons (x := .p d) (.p a) b c d' e, n => by
    simp [allPn] at n
    exact .cons (.p (a.thawM g n.1)) (b.thawM g n.2) c d' e
  | _, _, _, .cons (x := .l _) _ _ _ _ _, n => by simp [allPn] at n
  | _, _, _, .cons (x := .t _) _ _ _ _ _, n => by simp [allPn] at n
  | _, _, _, .cons (x := .h) _ _ _ _ _, n => by simp [allPn] at n
  | _, _, _, .cons (x := .sc _) _ _ _ _ _, n => by simp [allPn] at n
  | _, _, _, .cons (x := .er _ _) _ _ _ _ _, n => by simp [allPn] at n
  | _, _, _, .cons (x := .ob _ _ _) _ _ _ _ _, n => by simp [allPn] at n
  | _, _, _, .cons (x := .fo _ _ _) _ _ _ _ _, n => by simp [allPn] at n
  | _, _, _, .cons (x := .dc _ _) _ _ _ _ _, n => by simp [allPn] at n
def nlR : OD → Bool
  | .p d => nlD d
  | .l xs => allPn xs
  | .ob _ _ xs => allPn xs
  | _ => false
theorem Ow.thawR {F H : Hp} {G : Fp} (g : ∀ a, G a → isMut F a) {v x fp} (w : Ow K F H v x fp) (n : nlR x = true) : Ow K (sub F G) H v x fp := by
  cases w with
  | p w => exact .p (w.thawM g n)
  | l a b c d => exact .l a b (c.thawM g n) d
  | ob a b c d e f q => exact .ob a b c d e (f.thawM g n) q
  | h => cases n
  | t => cases n
  | sc => cases n
  | er => cases n
  | fo => cases n
  | dc => cases n
def hidO : OD → OD
  | .p d => .p d
  | .sc ns => .sc ns
  | .er C f => .er C f
  | .fo C ns ds => .fo C ns ds
  | _ => .h
theorem Ows.hid {F H : Hp} : ∀ {us xs fp}, Ows K F H us xs fp → Ows K F H us (xs.map hidO) NoFp
  | _, _, _, .nil => .nil
  | _, _, _, .hole t => .hole t.hid
  | _, x :: _, _, .cons a b _ _ _ => by
    have t := b.hid
    have put : ∀ {u y}, Ow K F H u y NoFp → Ows K F H (some u :: _) (y :: _) NoFp := fun w => .cons (f1 := NoFp) (f2 := NoFp) w t (fun _ z => z) (fun _ z => z) fun _ z => z.elim
    rw [List.map_cons]
    cases a with
    | p d => exact put (.p d)
    | sc d => exact put (.sc d)
    | er d => exact put (.er d)
    | fo a b c d => exact put (.fo a b c d)
    | h => exact .hole t
    | l => exact .hole t
    | t => exact .hole t
    | ob => exact .hole t
    | dc => exact .hole t
theorem Ow.still {F H : Hp} {v : V} {C : Str} {ns : List Str} {xs : List OD} {ds : List PyData} {g : Fp} (s : Inc F H) (w : Ow K F H v (.ob C ns xs) g) (e : frzs xs = some ds) : Ow K (DL.fz F H g) H v (.fo C ns ds) NoFp := by
  cases w with
  | ob fa fdx ha hdx h3 wl hd => exact .fo ((fz_in fa).trans ha) ((fz_in fdx).trans hdx) h3 (wl.fz s (fun b z => (hd b z).1) e)
section
variable {X : Cx} {W : WX} {pos : Pos}
def eLk (i : Nat) (f : Env' → R OD) : Env' → R OD := fun env => match lk env i with
  | some (.fo _ _ _) => f env
  | some (.ob C ns xs) => match frzs xs with
    | some ds => match f ((env.map hidO).set i (.fo C ns ds)) with
      | .ok d _ => if nlR d = true then .ok d env else .st
      | _ => .st
    | none => .st
  | _ => .st
theorem inc_sub {F F' H' : Hp} {fp G : Fp} (own : ∀ a, fp a → F a = none) (l : ∀ a, G a → fp a) (i : Inc F F') : Inc F (sub F' G) := fun a o e => by
  have n : ¬ G a := fun z => by rw [own a (l a z)] at e; cases e
  rw [sub_out n]; exact i a o e
theorem sub_le {F' : Hp} {G : Fp} : Inc (sub F' G) F' := fun a o e => by
  by_cases z : G a
  · rw [sub_in z] at e; cases e
  · rw [sub_out z] at e; exact e
theorem lk_core {mg : Mg} {i : Nat} {f : Env' → R OD} {σ : L2.St} {H : Hp} {Q : VK} : dTE K mg W (eLk i f) σ H Q → dTE K mg W f σ H Q := fun ⟨F, env, fp, rs, o, h⟩ => by
  unfold eLk at h
  split at h
  · exact ⟨F, env, fp, rs, o, h⟩
  · rename_i C ns xs el
    split at h
    · rename_i ds ed
      obtain ⟨n1, n2⟩ := lk_some el
      obtain ⟨v, g1, g2, hv, w0, orest, l1, l2, dg⟩ := o.get n1 n2
      have w1 := w0.mut
      have Gl : ∀ a, (g1 a ∧ isMut H a) → fp a := fun a z => l1 a z.1
      have own : ∀ a, fp a → F a = none := fun a z => (rs.own a z).1
      have i1 : Inc (fz F H fun a => g1 a ∧ isMut H a) H := fun a ob e => by
        by_cases q : g1 a ∧ isMut H a
        · rw [fz_in (g := fun a => g1 a ∧ isMut H a) q] at e; exact e
        · rw [fz_out (g := fun a => g1 a ∧ isMut H a) q] at e; exact rs.sub a ob e
      have env1 := Ows.put (w1.still rs.sub ed) (o.hid.mono (fz_inc (g := fun a => g1 a ∧ isMut H a) rs.sub) (H' := H) fun _ z => z.elim) hv dj0
      refine ⟨_, _, _, ⟨i1, fun a z => z.elim False.elim False.elim⟩, env1, ?_⟩
      cases q : f ((env.map hidO).set i (.fo C ns ds)) with
      | st => rw [q] at h; exact h.elim
      | ex => rw [q] at h; exact h.elim
      | ok d e' =>
        rw [q] at h
        dsimp only at h
        by_cases hn : nlR d = true
        · rw [if_pos hn] at h
          intro v' F' H' fv fp' s dj w' o'
          have kp : ∀ a, H a ≠ none → H' a = H a ∧ F' a = fz F H (fun a => g1 a ∧ isMut H a) a := fun a e => s.keep a (fun z => z.elim False.elim False.elim) e
          have nw : ∀ a, fv a → H a = none := fun a z => (s.new a (.inl z)).elim (fun z => z.elim False.elim False.elim) fun z => z
          have gm : ∀ a, (g1 a ∧ isMut H a) → isMut F' a := fun a z => by
            have k := (kp a (rs.own a (Gl a z)).2).2
            rw [fz_in (g := fun a => g1 a ∧ isMut H a) z] at k
            unfold isMut
            rw [k]; exact z.2
          have ii : Inc F (sub F' fun a => g1 a ∧ isMut H a) := inc_sub (H' := H') own Gl ((fz_inc rs.sub).tr s.inc)
          refine h v' (sub F' fun a => g1 a ∧ isMut H a) H' fv fp ⟨ii, fun a n e => ?_, fun a z => ?_, ⟨sub_le.tr s.rs.sub, fun a z => ?_⟩⟩ (fun a z z2 => (rs.own a z2).2 (nw a z)) (w'.thawR gm hn) (o.mono ii fun a z => (kp a (rs.own a z).2).1)
          · have k := kp a e
            have ng : ¬ (g1 a ∧ isMut H a) := fun z => n (Gl a z)
            exact ⟨k.1, by rw [sub_out (G := fun a => g1 a ∧ isMut H a) ng, k.2, fz_out (g := fun a => g1 a ∧ isMut H a) ng]⟩
          · exact z.elim (fun z => .inr (nw a z)) .inl
          · rcases z with z | z
            · have k := s.rs.own a (.inl z)
              refine ⟨?_, k.2⟩
              by_cases t : g1 a ∧ isMut H a
              · exact sub_in (G := fun a => g1 a ∧ isMut H a) t
              · rw [sub_out (G := fun a => g1 a ∧ isMut H a) t]; exact k.1
            · have k := kp a (rs.own a z).2
              refine ⟨?_, by rw [k.1]; exact (rs.own a z).2⟩
              by_cases t : g1 a ∧ isMut H a
              · exact sub_in (G := fun a => g1 a ∧ isMut H a) t
              · rw [sub_out (G := fun a => g1 a ∧ isMut H a) t, k.2, fz_out (g := fun a => g1 a ∧ isMut H a) t]; exact (rs.own a z).1
        · rw [if_neg hn] at h; exact h.elim
    · exact h.elim
  · exact h.elim
theorem de_lk (i : Nat) {e : Expr} {f} (h : DE X W e f) : DE X W e (eLk i f) := pe_weak h fun _ _ _ => lk_core
/-! the same of a statement -/
def clsd : Env' → Bool
  | [] => true
  | .h :: xs => clsd xs
  | x :: xs => nlR x && clsd xs
theorem Ows.thawC {F H : Hp} {G : Fp} (g : ∀ a, G a → isMut F a) : ∀ {us xs fp}, Ows K F H us xs fp → clsd xs = true → Ows K (sub F G) H us xs fp
  | _, _, _, .nil, _ => .nil
  | _, _, _, .hole t, n => .hole (t.thawC g (by simpa [clsd] using n))
  | _, x :: xs, _, .cons a b c d e, n => by
    cases x with
    | h => exact .cons .h (b.thawC g (by simpa [clsd] using n)) c d e
    | _ =>
      simp only [clsd, Bool.and_eq_true] at n
      exact .cons (a.thawR g n.1) (b.thawC g n.2) c d e
def sLk (i : Nat) (f : Env' → Out) : Env' → Out := fun env => match lk env i with
  | some (.fo _ _ _) => f env
  | some (.ob C ns xs) => match frzs xs with
    | some ds => match f (env.set i (.fo C ns ds)) with
      | .nx e => if clsd (e.set i .h) = true then .nx (e.set i (.ob C ns xs)) else .st
      | .rt d e => if nlR d = true ∧ clsd (e.set i .h) = true then .rt d (e.set i (.ob C ns xs)) else .st
      | _ => .st
    | none => .st
  | _ => .st
theorem slk_core {mg : Mg} {B : List Nat} {i : Nat} (hi : i ∈ B) {f : Env' → Out} {D : Ends} {σ : L2.St} {H : Hp} : dTS K mg W B (sLk i f) D σ H → dTS K mg W B f D σ H := fun ⟨F, env, fp, rs, o, h⟩ => by
  unfold sLk at h
  split at h
  · exact ⟨F, env, fp, rs, o, h⟩
  · rename_i C ns xs el
    split at h
    · rename_i ds ed
      obtain ⟨n1, n2⟩ := lk_some el
      obtain ⟨v, g1, g2, hv, w0, orest, l1, l2, dg⟩ := o.get n1 n2
      have w1 := w0.mut
      have Gl : ∀ a, (g1 a ∧ isMut H a) → fp a := fun a z => l1 a z.1
      have own : ∀ a, fp a → F a = none := fun a z => (rs.own a z).1
      have i1 : Inc (fz F H fun a => g1 a ∧ isMut H a) H := fun a ob e => by
        by_cases q : g1 a ∧ isMut H a
        · rw [fz_in (g := fun a => g1 a ∧ isMut H a) q] at e; exact e
        · rw [fz_out (g := fun a => g1 a ∧ isMut H a) q] at e; exact rs.sub a ob e
      have env1 := Ows.put (w1.still rs.sub ed) (orest.mono (fz_inc (g := fun a => g1 a ∧ isMut H a) rs.sub) (H' := H) fun _ _ => rfl) hv dj0
      rw [List.set_set] at env1
      have rs1 : RS (fz F H fun a => g1 a ∧ isMut H a) H (Un2 NoFp g2) := ⟨i1, fun a z => z.elim False.elim fun z => ⟨by rw [fz_out (g := fun a => g1 a ∧ isMut H a) fun t => dg a t.1 z]; exact own a (l2 a z), (rs.own a (l2 a z)).2⟩⟩
      refine ⟨_, _, _, rs1, env1, ?_⟩
      -- behind it
      have back : ∀ σ' F' H' fp', (Stp (fz F H fun a => g1 a ∧ isMut H a) H (Un2 NoFp g2) F' H' fp') → σ'[i]? = σ[i]? → (∀ a, (g1 a ∧ isMut H a) → isMut F' a) ∧ Dj (fun a => g1 a ∧ isMut H a) fp' ∧ Stp F H fp (sub F' fun a => g1 a ∧ isMut H a) H' (Un2 (fun a => g1 a ∧ isMut H a) fp') ∧
          (∀ e f', (∀ a, f' a → fp' a) → Ows K F' H' σ' e f' → clsd (e.set i .h) = true → Ows K (sub F' fun a => g1 a ∧ isMut H a) H' σ' (e.set i (.ob C ns xs)) (Un2 (fun a => g1 a ∧ isMut H a) f')) := fun σ' F' H' fp' s hs => by
        have fo : ∀ a, (g1 a ∧ isMut H a) → F' a = H a ∧ H' a = H a := fun a z => by
          cases q : H a with
          | none => exact absurd q (rs.own a (Gl a z)).2
          | some ob =>
            have e1 : fz F H (fun a => g1 a ∧ isMut H a) a = some ob := (fz_in (g := fun a => g1 a ∧ isMut H a) z).trans q
            have e2 := s.inc a ob e1
            exact ⟨e2, s.rs.sub a ob e2⟩
        have gm : ∀ a, (g1 a ∧ isMut H a) → isMut F' a := fun a z => by
          unfold isMut
          rw [(fo a z).1]; exact z.2
        have dj : Dj (fun a => g1 a ∧ isMut H a) fp' := fun a z z2 => by
          have k := (s.rs.own a z2).1
          rw [(fo a z).1] at k
          exact (rs.own a (Gl a z)).2 k
        have ii : Inc F (sub F' fun a => g1 a ∧ isMut H a) := inc_sub (H' := H') own Gl ((fz_inc rs.sub).tr s.inc)
        refine ⟨gm, dj, ⟨ii, fun a n e => ?_, fun a z => ?_, ⟨sub_le.tr s.rs.sub, fun a z => ?_⟩⟩, fun e f' lf o' hc => ?_⟩
        · have k := s.keep a (fun z => z.elim False.elim fun z => n (l2 a z)) e
          have ng : ¬ (g1 a ∧ isMut H a) := fun z => n (Gl a z)
          exact ⟨k.1, by rw [sub_out (G := fun a => g1 a ∧ isMut H a) ng, k.2, fz_out (g := fun a => g1 a ∧ isMut H a) ng]⟩
        · rcases z with z | z
          · exact .inl (Gl a z)
          · exact (s.new a z).imp_left fun z => z.elim False.elim (l2 a)
        · rcases z with z | z
          · exact ⟨sub_in (G := fun a => g1 a ∧ isMut H a) z, by rw [(fo a z).2]; exact (rs.own a (Gl a z)).2⟩
          · have k := s.rs.own a z
            exact ⟨by rw [sub_out (G := fun a => g1 a ∧ isMut H a) fun t => dj a t z]; exact k.1, k.2⟩
        · have ot := (o'.drop1 i).thawC gm hc
          have wo := w1.mono ii (H' := H') fun a z => (fo a z).2
          have op := Ows.put wo ot (hs.trans hv) fun a z z2 => dj a z (lf a z2)
          rw [List.set_set] at op
          exact op
      cases q : f (env.set i (.fo C ns ds)) with
      | st => rw [q] at h; exact h.elim
      | ex => rw [q] at h; exact h.elim
      | nx e' =>
        rw [q] at h
        dsimp only at h
        by_cases hn : clsd (e'.set i .h) = true
        · rw [if_pos hn] at h
          intro σ' F' H' fp' s o' b
          obtain ⟨_, _, st, k⟩ := back σ' F' H' fp' s (b.2 i hi)
          exact h σ' _ H' _ st (k e' fp' (fun _ z => z) o' hn) b
        · rw [if_neg hn] at h; exact h.elim
      | rt d e' =>
        rw [q] at h
        dsimp only at h
        by_cases hn : nlR d = true ∧ clsd (e'.set i .h) = true
        · rw [if_pos hn] at h
          intro v' σ' F' H' fv fp' s dj w' o' b
          obtain ⟨gm, dG, st, k⟩ := back σ' F' H' (Un2 fv fp') s (b.2 i hi)
          have st2 := st.less (f2 := Un2 fv (Un2 (fun a => g1 a ∧ isMut H a) fp')) fun a z => z.elim (fun z => .inr (.inl z)) fun z => z.elim .inl fun z => .inr (.inr z)
          exact h v' σ' _ H' fv _ st2 (fun a z z2 => z2.elim (fun z2 => dG a z2 (.inl z)) (dj a z)) (w'.thawR gm hn.1) (k e' fp' (fun _ z => .inr z) o' hn.2) b
        · rw [if_neg hn] at h; exact h.elim
    · exact h.elim
  · exact h.elim
theorem ds_lk {B : List Nat} (i : Nat) {s : Stmt} {f} (h : DS X W B s f) (hi : i ∈ B := by decide) : DS X W B s (sLk i f) := ps_weak h fun _ _ _ => slk_core hi
end
end DL

namespace DL
open PySem L2
section
variable (i j : Nat) (e : Env')
@[simp] theorem gFld_fo (C f : Str) (C' ns ds) : gFld C f (.fo C' ns ds) = if C' = C then (match fIx f ns with
    | some j => ds[j]?.map .p
    | none => none) else none := rfl
@[simp] theorem pNm_ap : pNm i e = match lk e i with
  | some x => some (i, x, id)
  | none => none := rfl
@[simp] theorem pFld_ap (C f : Str) (p : PlF) : pFld C f p e = match p e with
  | some (i, .ob C' ns xs, re) => if C' = C then (match fIx f ns with
    | some j => (subO xs j).map fun y => (i, y, fun z => re (.ob C' ns (xs.set j z)))
    | none => none) else none
  | _ => none := rfl
@[simp] theorem pItm_ap (n) (p : PlF) : pItm n p e = match p e, n e with
  | some (i, .l xs, re), some (.int k) => match ixN xs.length k with
    | some j => (subO xs j).map fun y => (i, y, fun z => re (.l (xs.set j z)))
    | none => none
  | _, _ => none := rfl
@[simp] theorem pKey_ap (n) (p : PlF) : pKey n p e = match p e, n e with
  | some (i, .dc ks xs, re), some (.str k) => match fIx k ks with
    | some j => (subO xs j).map fun y => (i, y, fun z => re (.dc ks (xs.set j z)))
    | none => none
  | _, _ => none := rfl
@[simp] theorem qC_ap (d : PyData) : qC d e = some d := rfl
@[simp] theorem qAt_ap : qAt i e = match lk e i with
  | some (.p d) => some d
  | _ => none := rfl
@[simp] theorem subO_h (xs : List OD) : subO (.h :: xs) 0 = none := rfl
@[simp] theorem subO_p (d) (xs : List OD) : subO (.p d :: xs) 0 = some (.p d) := rfl
@[simp] theorem subO_l (d) (xs : List OD) : subO (.l d :: xs) 0 = some (.l d) := rfl
@[simp] theorem subO_ob (C ns d) (xs : List OD) : subO (.ob C ns d :: xs) 0 = some (.ob C ns d) := rfl
@[simp] theorem subO_dc (ns d) (xs : List OD) : subO (.dc ns d :: xs) 0 = some (.dc ns d) := rfl
@[simp] theorem subO_s (x) (xs : List OD) (n : Nat) : subO (x :: xs) (n + 1) = subO xs n := rfl
@[simp] theorem ePl_ap (p : PlF) : ePl p e = match p e with
  | some (_, .p d, _) => .ok (.p d) e
  | some (_, .fo C ns ds, _) => .ok (.fo C ns ds) e
  | _ => .st := rfl
@[simp] theorem eMutP_ap (p : PlF) (g f) : eMutP p g f e = match p e with
  | some (i, .l ys, re) => (f (e.set i .h)).bind fun zs e => match g ys zs with
    | some (res, ys') => .ok res (e.set i (re (.l ys')))
    | none => .st
  | _ => .st := rfl
@[simp] theorem lpNil_ap : lpNil e = .ok [] e := rfl
@[simp] theorem lpCons_ap (f g) : lpCons f g e = (f e).bind fun x e => (g e).bind fun xs e2 => .ok ((x.1, boPt x.2) :: xs) e2 := rfl
@[simp] theorem boPt_no : boPt none = noPt := rfl
@[simp] theorem boPt_some : boPt (some i) = slPt i := rfl
@[simp] theorem noPt_ap (x) : noPt x e = e := rfl
@[simp] theorem slPt_ap (x) : slPt i x e = e.set i x := rfl
@[simp] theorem lpPlc_ap (p : PlF) (g) : lpPlc p g e = match p e with
  | some (i, .fo C ns ds, _) => (g e).bind fun ys e => .ok ((.fo C ns ds, noPt) :: ys) e
  | some (i, y, re) => (g (e.set i .h)).bind fun ys e => .ok ((y, fun z e => e.set i (re z)) :: ys) e
  | none => .st := rfl
@[simp] theorem putP_nil (xs) : putP [] xs e = e := by cases xs <;> rfl
@[simp] theorem putP_cons (pt pts x xs) : putP (pt :: pts) (x :: xs) e = putP pts xs (pt x e) := rfl
@[simp] theorem eFnP_ap (φ : Fn) (f) : eFnP φ f e = (f e).bind fun ys e => match φ (ys.map (·.1)) with
  | .st => .st
  | .ok d xs => .ok d (putP (ys.map (·.2)) xs e)
  | .ex C x xs => .ex C x (putP (ys.map (·.2)) xs e) := rfl
@[simp] theorem eMt_ap (C m φ) (p : PlF) (g) : eMt C m φ p g e = match p e with
  | some (_, y, _) => if okR C m y = true then eFnP φ (lpPlc p g) e else .st
  | none => .st := rfl
@[simp] theorem okR_fo (C m C' ns ds) : okR C m (.fo C' ns ds) = (decide (C' = C) && (fIx m ns).isNone) := rfl
@[simp] theorem okR_ob (C m C' ns ds) : okR C m (.ob C' ns ds) = (decide (C' = C) && (fIx m ns).isNone) := rfl
@[simp] theorem eLk_ap (f) : eLk i f e = match lk e i with
  | some (.fo _ _ _) => f e
  | some (.ob C ns xs) => match frzs xs with
    | some ds => match f ((e.map hidO).set i (.fo C ns ds)) with
      | .ok d _ => if nlR d = true then .ok d e else .st
      | _ => .st
    | none => .st
  | _ => .st := rfl
@[simp] theorem hidO_p (d) : hidO (.p d) = .p d := rfl
@[simp] theorem hidO_h : hidO .h = .h := rfl
@[simp] theorem hidO_l (d) : hidO (.l d) = .h := rfl
@[simp] theorem hidO_t (d) : hidO (.t d) = .h := rfl
@[simp] theorem hidO_ob (C ns d) : hidO (.ob C ns d) = .h := rfl
@[simp] theorem hidO_fo (C ns d) : hidO (.fo C ns d) = .fo C ns d := rfl
@[simp] theorem hidO_dc (ns d) : hidO (.dc ns d) = .h := rfl
@[simp] theorem hidO_sc (d) : hidO (.sc d) = .sc d := rfl
@[simp] theorem sLk_ap (f) : sLk i f e = match lk e i with
  | some (.fo _ _ _) => f e
  | some (.ob C ns xs) => match frzs xs with
    | some ds => match f (e.set i (.fo C ns ds)) with
      | .nx e => if clsd (e.set i .h) = true then .nx (e.set i (.ob C ns xs)) else .st
      | .rt d e => if nlR d = true ∧ clsd (e.set i .h) = true then .rt d (e.set i (.ob C ns xs)) else .st
      | _ => .st
    | none => .st
  | _ => .st := rfl
@[simp] theorem clsd_nil : clsd [] = true := rfl
@[simp] theorem clsd_h (xs) : clsd (.h :: xs) = clsd xs := rfl
@[simp] theorem clsd_p (d xs) : clsd (.p d :: xs) = (nlD d && clsd xs) := rfl
@[simp] theorem clsd_l (d xs) : clsd (.l d :: xs) = (allPn d && clsd xs) := rfl
@[simp] theorem nlR_p (d) : nlR (.p d) = nlD d := rfl
@[simp] theorem nlR_l (xs) : nlR (.l xs) = allPn xs := rfl
@[simp] theorem nlD_i (k : Int) : nlD (.int k) = true := by simp [nlD]
@[simp] theorem nlD_b (k : Bool) : nlD (.bool k) = true := by simp [nlD]
@[simp] theorem nlD_n : nlD .none = true := by simp [nlD]
@[simp] theorem nlD_s (s : Str) : nlD (.str s) = true := by simp [nlD]
@[simp] theorem nlD_t (ds) : nlD (.tuple ds) = nlDs ds := by simp [nlD]
@[simp] theorem nlDs_nil : nlDs [] = true := rfl
@[simp] theorem nlDs_cons (d ds) : nlDs (d :: ds) = (nlD d && nlDs ds) := rfl
@[simp] theorem allPn_nil : allPn [] = true := rfl
@[simp] theorem allPn_cons (d xs) : allPn (.p d :: xs) = (nlD d && allPn xs) := rfl
theorem allPn_map {α : Type} (f : α → PyData) (l : List α) (h : ∀ a ∈ l, nlD (f a) = true) : allPn ((l.map f).map .p) = true := by
  induction l with
  | nil => rfl
  | cons a l ih => rw [List.map_cons, List.map_cons, allPn_cons, h a List.mem_cons_self, ih fun b hb => h b (List.mem_cons_of_mem _ hb)]; rfl
end
end DL

namespace DL
open PySem PySem.Spec PyProof.Rows L2 HT TL
/-! a sign not in a text -/
def gNotInS (x y : OD) : Option OD := match x, y with
  | .p (.str a), .p (.str z) => match tl a with
    | [c] => some (oB (!decide (c ∈ tl z)))
    | _ => none
  | _, _ => none
theorem s_notInS {K : PySem.W.Frag} : OpS K (fun x y H Q => ∃ (c : Nat) (z : Str), x = .str ⟨#[c]⟩ ∧ y = .str z ∧ Q (.bl (!decide (c ∈ z.cps.toList))) H) gNotInS := by
  intro F H v u x y fx fy fp d Q rs lx ly ox oy e k
  unfold gNotInS at e
  split at e
  · rename_i a z
    split at e
    · rename_i c hc
      cases e
      cases Ow.str ox
      cases Ow.str oy
      have ea : a = ⟨#[c]⟩ := ext_tl hc
      exact ⟨c, z, by rw [ea], rfl, k0 rs k (.p (.bl _))⟩
    · cases e
  · cases e
end DL

/-! min of a list of two tuples of two ints -/
namespace DL
open PySem PySem.Spec PyProof.Rows L2
section
variable {prog : Program} {w : World} {A : Around} {E : Value → Shared → Prop} {s : Shared} {l : Addr} {u v : Value} {r : Bool}
theorem minName : (toString "min" ++ toString ".loop" : String) = "min.loop" := by decide
theorem min_pair {Q : Value → Shared → Prop} (hh : A.handled = none) (hl : s.heap.IsList l #[u, v])
    (hc : ∀ (h' : Heap) (tk : Tok), (∀ b o, s.heap.get? b = some o → h'.get? b = some o) → Ob.RcOp .Lt A.in1 { s with heap := h', toks := tk } v u r)
    (h : ∀ (h' : Heap) (tk : Tok), (∀ b o, s.heap.get? b = some o → h'.get? b = some o) → Q (if r then v else u) { s with heap := h', toks := tk }) :
    wpAny (model prog w) A (call (.builtin "min") [.ref l]) Q E s := by
  have lt : l < s.heap.objs.size := by obtain ⟨_, e, _⟩ := hl; exact Heap.lt_size e
  refine call_function_tree PySem.F.kind_min PySem.F.plain_min PySem.F.entry_min (PySem.F.args_min1 _) ?_
  show wpAny _ A.in1 (Builtin.Builtins.bindParams "min" ["key", "default"] 0 ⟨[], []⟩ >>= _) _ _ s
  refine wpAny_bind (wpAny_of_eq (show Builtin.Builtins.bindParams "min" ["key", "default"] 0 ⟨[], []⟩ = pure [none, none] from rfl) ?_)
  refine wpAny_bind (wpAny_pure (wpAny_bind (wpAny_pyIter_list hl ?_)))
  refine wpAny_bind (wpAny_newObj_type ?_)
  rw [minName]
  have hI : l ≠ s.heap.objs.size := Nat.ne_of_lt lt
  have W := Walks.list (prog := prog) (w := w) (A := A.in1) hh s.heap.objs.size l hI #[u, v]
  generalize hs2 : (s.heap.push { cls := .type "list_iterator", data := .fields #[.ref l, .int 0 0] }) = h2
  have z2 : h2.objs.size = s.heap.objs.size + 1 := by rw [← hs2]; exact Heap.size_push _ _
  have k2 : ∀ b o, s.heap.get? b = some o → h2.get? b = some o := fun b o e => by rw [← hs2]; exact Heap.get?_push_of_some _ e
  have st0 : h2.IsListIter s.heap.objs.size l 0 ∧ h2.IsList l #[u, v] := by rw [← hs2]; exact ⟨⟨_, Heap.get?_push_size _ rfl, rfl, rfl⟩, hl.push _⟩
  dsimp only
  generalize hs3 : (h2.push { cls := .type "list", dict := none, data := .seq #[] 0, slots := #[] }) = h3
  have S3 : h3.get? h2.objs.size = some { cls := .type "list", dict := none, data := .seq #[] 0, slots := #[] } := by rw [← hs3]; exact Heap.get?_push_size _ rfl
  have st3 := W.frame 0 h2 h3 st0 fun b _ o e => by rw [← hs3]; exact Heap.get?_push_of_some _ e
  have k3 : ∀ b o, s.heap.get? b = some o → h3.get? b = some o := fun b o e => by rw [← hs3]; exact Heap.get?_push_of_some _ (k2 b o e)
  have nS : h2.objs.size ∉ [s.heap.objs.size] := by rw [z2]; intro z; exact Nat.succ_ne_self _ (List.mem_singleton.1 z)
  have nSf : h2.objs.size ∉ [s.heap.objs.size, l] := by
    rw [z2]; intro z
    rcases List.mem_cons.1 z with z | z
    · exact Nat.succ_ne_self _ z
    · exact Nat.ne_of_gt (Nat.lt_succ_of_lt lt) (List.mem_singleton.1 z)
  have old : ∀ {b : Addr} {o : Obj}, s.heap.get? b = some o → b ∉ [s.heap.objs.size] ∧ b ≠ h2.objs.size := fun {b o} e => ⟨fun z => Nat.ne_of_lt (Heap.lt_size e) (List.mem_singleton.1 z), by rw [z2]; exact Nat.ne_of_lt (Nat.lt_succ_of_lt (Heap.lt_size e))⟩
  generalize h2.objs.size = T at *
  have second : ∀ (h5 : Heap) (c5 : Nat) (tk5 : Tok), h5.get? T = some { cls := .type "list", dict := none, data := .seq #[u, u] c5, slots := #[] } → (h5.IsListIter s.heap.objs.size l 1 ∧ h5.IsList l #[u, v]) → (∀ b o, s.heap.get? b = some o → h5.get? b = some o) →
      ∀ (f : Result → Shared → Prop), (∀ y t, Q y t → f (.ok (.ret y)) t) → codeAny (model prog w) A (.builtin "min.loop" ⟨[.ref s.heap.objs.size, .none, .ref T], []⟩) f { s with heap := h5, toks := tk5 } := fun h5 c5 tk5 S5 st5 k5 f hf => by
    refine codeAny_builtin PySem.F.entry_min_loop ?_
    rw [Around.under_plainId PySem.F.plain_min_loop _]
    show wpAny _ A.in1 (seqItems? (.ref T) >>= _) _ _ _
    refine wpAny_bind (wpAny_seqItems S5 rfl ?_)
    show wpAny _ A.in1 (tryCatch (pyNext (.ref s.heap.objs.size)) _ >>= _) _ _ _
    refine wpAny_bind (wpAny_tryCatch (W.item 1 _ _ _ (by simp) st5 fun x h6 tk6 p6 st6 k6 => ?_))
    obtain rfl : v = x := by simpa using p6
    have S6 := k6 T _ nS S5
    have kk6 : ∀ b o, s.heap.get? b = some o → h6.get? b = some o := fun b o e => k6 b o (old e).1 (k5 b o e)
    show wpAny _ A.in1 (tryCatch (holding [v, v] (richCompare .Lt v u >>= _)) _ >>= _) _ _ _
    refine wpAny_bind (wpAny_tryCatch (wpAny_holding (wpAny_bind (hc h6 tk6 kk6 prog w _ _ ?_))))
    refine wpAny_bind (wpAny_holding (wpAny_truthy_bool ?_))
    refine wpAny_bind (wpAny_letGo (wpAny_pure ?_))
    -- the end
    have fin : ∀ (h7 : Heap) (x : Value) (c : Nat), (x = if r then v else u) → h7.get? T = some { cls := .type "list", dict := none, data := .seq #[x, x] c, slots := #[] } → (h7.IsListIter s.heap.objs.size l 2 ∧ h7.IsList l #[u, v]) → (∀ b o, s.heap.get? b = some o → h7.get? b = some o) →
        ∀ (f : Result → Shared → Prop), (∀ y t, Q y t → f (.ok (.ret y)) t) → codeAny (model prog w) A (.builtin "min.loop" ⟨[.ref s.heap.objs.size, .none, .ref T], []⟩) f { s with heap := h7, toks := tk6 } := fun h7 x c ex S7 st7 k7 f hf => by
      refine codeAny_builtin PySem.F.entry_min_loop ?_
      rw [Around.under_plainId PySem.F.plain_min_loop _]
      show wpAny _ A.in1 (seqItems? (.ref T) >>= _) _ _ _
      refine wpAny_bind (wpAny_seqItems S7 rfl ?_)
      show wpAny _ A.in1 (tryCatch (pyNext (.ref s.heap.objs.size)) _ >>= _) _ _ _
      refine wpAny_bind (wpAny_tryCatch (W.done { s with heap := h7, toks := tk6 } _ _ st7 fun h8 tk8 k8 => ?_))
      have S8 := k8 T _ nS S7
      show wpAny _ A.in1 (updateSeq T (fun _ => #[]) >>= _) _ _ _
      refine wpAny_bind ?_
      refine wpAny_updateSeq S8 rfl (wpAny_bind (wpAny_letGo (wpAny_pure ?_)))
      refine hf _ _ ?_
      rw [ex]
      exact h _ tk8 fun b o e => (Heap.get?_update_other _ _ (Ne.symm (old e).2)).trans (k8 b o (old e).1 (k7 b o e))
    cases r with
    | true =>
      simp only [if_true]
      refine wpAny_bind ?_
      refine wpAny_updateSeq S6 rfl (wpAny_bind (wpAny_letGo ?_))
      rw [minName]
      exact wpAny_pure ⟨plainId_quiet PySem.F.plain_min_loop _, fin _ v _ rfl (Heap.get?_update_self _ S6 rfl) (W.frame 2 h6 _ st6 fun b hb o e => (Heap.get?_update_other _ _ (fun z : T = b => nSf (by rw [z]; exact hb))).trans e) (fun b o e => (Heap.get?_update_other _ _ (Ne.symm (old e).2)).trans (kk6 b o e)) f hf⟩
    | false =>
      simp only [Bool.false_eq_true, if_false]
      refine wpAny_bind (wpAny_letGo ?_)
      rw [minName]
      exact wpAny_pure ⟨plainId_quiet PySem.F.plain_min_loop _, fin h6 u _ rfl S6 st6 kk6 f hf⟩
  -- the first item
  refine wpAny_pure ⟨plainId_quiet PySem.F.plain_min_loop _, codeAny_builtin PySem.F.entry_min_loop ?_⟩
  rw [Around.under_plainId PySem.F.plain_min_loop _]
  show wpAny _ A.in1 (seqItems? (.ref T) >>= _) _ _ _
  refine wpAny_bind (wpAny_seqItems S3 rfl ?_)
  show wpAny _ A.in1 (tryCatch (pyNext (.ref s.heap.objs.size)) _ >>= _) _ _ _
  refine wpAny_bind (wpAny_tryCatch (W.item 0 _ _ _ (by simp) st3 fun x h4 tk4 p4 st4 k4 => ?_))
  obtain rfl : u = x := by simpa using p4
  have S4 := k4 T _ nS S3
  show wpAny _ A.in1 (updateSeq T (fun _ => #[u, u]) >>= _) _ _ _
  refine wpAny_bind ?_
  refine wpAny_updateSeq S4 rfl ?_
  rw [minName]
  exact wpAny_pure ⟨plainId_quiet PySem.F.plain_min_loop _, second _ _ _ (Heap.get?_update_self _ S4 rfl) (W.frame 1 h4 _ st4 fun b hb o e => (Heap.get?_update_other _ _ (fun z : T = b => nSf (by rw [z]; exact hb))).trans e)
    (fun b o e => (Heap.get?_update_other _ _ (Ne.symm (old e).2)).trans (k4 b o (old e).1 (k3 b o e))) _ fun _ _ z => z⟩
end
/-- the lesser of two pairs -/
def ltP (a b c d : Int) : Bool := decide (a < c) || (decide (a = c) && decide (b < d))
def rMinT (K : PySem.W.Frag) : List V → Hp → VK → Prop := fun vs H Q => ∃ (l p q : Addr) (a b c d : Int), vs = [V.ref l] ∧ SqL K H l [V.ref p, V.ref q] ∧ SqT K H p [V.int a, V.int b] ∧ SqT K H q [V.int c, V.int d] ∧ Q (.ref (if ltP c d a b then q else p)) H
theorem cr_minT {X : Cx} (hc : X.calm = true) (hu : X.A.units + 1 < cLine) : CallR X (.builtin "min") (rMinT X.K) := by
  intro pins s σ H vs us Q I r h
  obtain ⟨l, p, q, a, b, c, d, rfl, hl, hp, hq, k⟩ := h
  rw [Vals.ref1 r]
  obtain ⟨its, rv, pl, _⟩ := I.list hl
  obtain ⟨ip, rp, pp, _⟩ := I.tuple hp
  obtain ⟨iq, rq, pq, _⟩ := I.tuple hq
  obtain rfl : its = [.ref p, .ref q] := by
    cases rv with
    | cons r1 rr => cases rr with
      | cons r2 rr => cases rr; cases r1; cases r2; rfl
  have two : ∀ {x y : Int} {it : List Value}, Vals [V.int x, V.int y] it → ∃ t u, it = [.int x t, .int y u] := fun {x y it} r => by
    cases r with
    | cons r1 rr => cases rr with
      | cons r2 rr =>
        cases rr
        obtain ⟨t, rfl⟩ := r1
        obtain ⟨u, rfl⟩ := r2
        exact ⟨t, u, rfl⟩
  obtain ⟨t1, t2, rfl⟩ := two rp
  obtain ⟨t3, t4, rfl⟩ := two rq
  have eqd : ∀ (m n : Int), (m == n) = decide (m = n) := fun m n => by by_cases e : m = n <;> simp [e]
  refine min_pair (r := ltP c d a b) (I.ok.hd hc) pl.isList (fun h' tk k' => ?_) fun h' tk k' => ⟨.ref (if ltP c d a b then q else p), H, I.kept (t' := tk) k', by split <;> rfl, k⟩
  have T1 : h'.IsTuple p #[.int a t1, .int b t2] := by obtain ⟨o, e, r⟩ := pp; exact ⟨o, k' _ _ e, r⟩
  have T2 : h'.IsTuple q #[.int c t3, .int d t4] := by obtain ⟨o, e, r⟩ := pq; exact ⟨o, k' _ _ e, r⟩
  have R := Ob.RcOp.tuples_lt (A := X.A.in1) (s := { s with heap := h', toks := tk }) (e := fun j => if j = 0 then decide (c = a) else decide (d = b)) (r := fun j => if j = 0 then decide (c < a) else decide (d < b)) T2 T1 hu (fun j h1 h2 => by
    rcases (by simp at h1; omega : j = 0 ∨ j = 1) with rfl | rfl
    · have := SeqAt.EqAt.int_int (A := X.A.in1.in1) (s := { s with heap := h', toks := tk }) c t3 a t1
      rw [eqd] at this
      exact this
    · have := SeqAt.EqAt.int_int (A := X.A.in1.in1) (s := { s with heap := h', toks := tk }) d t4 b t2
      rw [eqd] at this
      exact this) (fun j h1 h2 _ => by
    rcases (by simp at h1; omega : j = 0 ∨ j = 1) with rfl | rfl
    · exact Ob.RcOp.lt_int _ _ _ _
    · exact Ob.RcOp.lt_int _ _ _ _)
  have e : Ob.lexAt (fun j => if j = 0 then decide (c = a) else decide (d = b)) (fun j => if j = 0 then decide (c < a) else decide (d < b)) (decide ((#[Value.int c t3, Value.int d t4] : Array Value).size < (#[Value.int a t1, Value.int b t2] : Array Value).size)) 0 (min (#[Value.int c t3, Value.int d t4] : Array Value).size (#[Value.int a t1, Value.int b t2] : Array Value).size) = ltP c d a b := by
    show Ob.lexAt _ _ (decide (2 < 2)) 0 2 = _
    rw [Ob.lexAt_succ, Ob.lexAt_succ, Ob.lexAt_zero]
    unfold ltP
    by_cases e1 : c = a
    · by_cases e2 : d = b <;> simp [e1, e2]
    · simp [e1]
  rw [e] at R
  exact R
def gMinT (x : OD) : Option OD := match its x with
  | some [.tuple [.int a, .int b], .tuple [.int c, .int d]] => some (.p (.tuple (if ltP c d a b then [.int c, .int d] else [.int a, .int b])))
  | _ => none
theorem Dd.two {F : Hp} {v : V} {a b : Int} (w : Dd F v (.tuple [.int a, .int b])) : ∃ p, v = .ref p ∧ F p = some (.tup [V.int a, V.int b]) := by
  cases w with
  | tup h t =>
    cases t with
    | cons w1 t => cases t with
      | cons w2 t => cases t; cases w1; cases w2; exact ⟨_, rfl, h⟩
theorem c_minT {K : PySem.W.Frag} : CaS K (rMinT K) (c1 gMinT) := CaS.one fun F H v x fx fp d Q rs o e k => by
  unfold gMinT at e
  split at e
  · rename_i a b c d q
    cases e
    obtain ⟨l, vs, rfl, h, w⟩ := its_at rs.sub o q
    cases w with
    | cons w1 t => cases t with
      | cons w2 t =>
        cases t
        obtain ⟨p1, rfl, f1⟩ := w1.two
        obtain ⟨p2, rfl, f2⟩ := w2.two
        refine ⟨l, p1, p2, a, b, c, d, rfl, SqL.of h, SqT.of (rs.sub _ _ f1), SqT.of (rs.sub _ _ f2), k0 rs k ?_⟩
        split
        · exact .p (.tup f2 (.cons (.int _) (.cons (.int _) .nil)))
        · exact .p (.tup f1 (.cons (.int _) (.cons (.int _) .nil)))
  · cases e
theorem units1 {k : Nat} {A : Around} (r : Room k A) : A.units + 1 < cLine := by have := units65 r; omega
@[simp] theorem gMinT_l (a b c d : Int) : gMinT (.l [.p (.tuple [.int a, .int b]), .p (.tuple [.int c, .int d])]) = some (.p (.tuple (if ltP c d a b then [.int c, .int d] else [.int a, .int b]))) := rfl
end DL

namespace DL
variable {K : PySem.W.Frag}
open PySem PySem.Spec PyProof.Rows L2
/-! ### dicts of texts: a display, a store -/
theorem dTE.monoQ {mg : Mg} {W : WX} {f : Env' → R OD} {σ : L2.St} {H : Hp} {Q Q' : VK} (k : ∀ v H', Q v H' → Q' v H') : dTE K mg W f σ H Q → dTE K mg W f σ H Q' := fun ⟨F, env, fp, rs, o, h⟩ => by
  refine ⟨F, env, fp, rs, o, ?_⟩
  cases e : f env with
  | st => rw [e] at h; exact h.elim
  | ok d e' => rw [e] at h; exact fun v F' H' fv fp' s dj w o' => k _ _ (h v F' H' fv fp' s dj w o')
  | ex C x e' => rw [e] at h; exact h
section
variable {X : Cx} {W : WX} {B : List Nat} {pos : Pos}
def prS (ks : List Str) (vs : List V) : List (V × V) := (ks.zip vs).map fun p => (.str p.1, p.2)
structure DPr (X : Cx) (W : WX) (pos : Pos) (keys : List (Option Expr)) (values : List Expr) (ks : List Str) (f : Env' → R (List OD)) : Prop where
  ex : ∃ trs, PPs X pos keys values trs ∧ ∀ σ H (Q : List V → Hp → Prop) (Q' : List (V × V) → Hp → Prop), (∀ vs H', vs.length = ks.length → Q vs H' → Q' (prS ks vs) H') → dTA X.K X.mg W f σ H Q → tPairs trs σ H Q'
theorem dpr_nil : DPr X W pos [] [] [] aNil := ⟨⟨[], pps_nil, fun σ H Q Q' k ⟨F, env, fp, rs, o, h⟩ => k [] H rfl (h [] F H NoFp fp (Stp.id0 rs) dj0 .nil o)⟩⟩
theorem dpr_cons {k : Str} {n} {kp : Pos} {v : Expr} {keys values ks f g} (hv : DE X W v f) (hr : DPr X W pos keys values ks g) : DPr X W pos (some (.Constant (.str k) n kp) :: keys) (v :: values) (k :: ks) (aCons f g) := by
  obtain ⟨trs, h1, h2⟩ := hr.ex
  refine ⟨⟨_, pps_cons pe_str hv h1, fun σ H Q Q' kk h => ?_⟩⟩
  have h3 := acons_core h
  exact dTE.monoQ (fun y H1 h4 => h2 σ H1 _ _ (fun vs H' hl q => kk (y :: vs) H' (congrArg (· + 1) hl) q) h4) h3
def eDisp (ks : List Str) (f : Env' → R (List OD)) : Env' → R OD := fun env => (f env).bind fun xs e => .ok (.dc ks xs) e
theorem putK_end {k : Key} {v : V} {acc : List (Key × V)} (h : k ∉ acc.map (·.1)) : putK acc k v = acc ++ [(k, v)] := putK_new v (by
  unfold valV
  rw [List.find?_eq_none.mpr (fun p hp => by
    simp only [decide_eq_true_eq]
    intro e
    exact h (List.mem_map.mpr ⟨p, hp, e⟩))]
  rfl)
theorem mergeK_end : ∀ {more acc : List (Key × V)}, ((acc ++ more).map (·.1)).Nodup → mergeK acc more = acc ++ more
  | [], acc, _ => by simp [mergeK]
  | p :: more, acc, h => by
    have h0 : p.1 ∉ acc.map (·.1) := fun m => by
      rw [List.map_append, List.map_cons] at h
      exact (List.nodup_append.mp h).2.2 _ m _ List.mem_cons_self rfl
    show mergeK (putK acc p.1 p.2) more = _
    rw [putK_end h0, mergeK_end (by simpa using h)]
    simp
def dkL (ks : List Str) (vs : List V) : List (Key × V) := (ks.zip vs).map fun p => (.inr p.1, p.2)
theorem dkL_keys : ∀ {ks : List Str} {vs : List V}, vs.length = ks.length → (dkL ks vs).map (·.1) = ks.map Sum.inr
  | [], [], _ => rfl
  | k :: ks, v :: vs, h => by
    have h' : vs.length = ks.length := by simpa using h
    have := dkL_keys h'
    unfold dkL at *
    simpa using this
theorem dkL_nodup {ks : List Str} {vs : List V} (h : vs.length = ks.length) (hn : ks.Nodup) : ((dkL ks vs).map (·.1)).Nodup := by
  rw [dkL_keys h]
  exact List.Pairwise.map _ (fun a b n e => n (Sum.inr.inj e)) hn
theorem dkL_len {ks : List Str} {vs : List V} (h : vs.length = ks.length) : (dkL ks vs).length = ks.length := by
  unfold dkL; simp [h]
theorem prS_dkL {ks : List Str} {vs : List V} : prS ks vs = (dkL ks vs).map fun kv => (kV kv.1, kv.2) := by
  unfold prS dkL
  rw [List.map_map]; rfl
theorem de_disp {keys : List (Option Expr)} {values : List Expr} {ks f} (h : DPr X W pos keys values ks f) (hn : ks.Nodup := by decide) (hall : keys.all (·.isSome) = true := by rfl) (hl : keys.length = values.length := by rfl) (h0 : keys ≠ [] := by exact nofun)
    (h15 : keys.length ≤ 15 := by decide) (hk : ks.length = keys.length := by rfl) : DE X W (.Dict keys values pos) (eDisp ks f) := by
  obtain ⟨trs, h1, h2⟩ := h.ex
  refine pe_weak (pe_disp h1 hall hl h0 h15) fun σ H Q ⟨F, env, fp, rs, o, h⟩ p hp => ?_
  have st := Stp.newOwn (o := .dK []) rs hp
  have np : ¬ fp p := fun z => (rs.own p z).2 hp
  have o1 := o.mono st.inc (H' := upd H p (.dK [])) fun a q => upd_ne fun z => np (z ▸ q)
  refine h2 σ _ (fun vs H' => vs.length = ks.length → H' p = some (.dK []) ∧ Q (.ref p) (upd H' p (dkO ks vs))) _ (fun vs H' hv q => ?_) ?_
  · obtain ⟨q1, q2⟩ := q hv
    refine ⟨q1, dkL ks vs, prS_dkL, by rw [dkL_len hv, hk]; exact h15, ?_⟩
    rw [mergeK_end (acc := []) (by rw [List.nil_append]; exact dkL_nodup hv hn), List.nil_append]
    exact q2
  · refine seqA st (fun a q => .inr q) o1 (fun h => h) PoE.ex_ h fun xs e' vs F1 H1 fv f1 s1 dj1 w1 o1' hh hv => ?_
    have own0 : ∀ a, (fun b => b = p) a → F a = none ∧ upd H p (.dK []) a ≠ none := fun a q => st.rs.own a (.inl q)
    have djp : Dj (fun b => b = p) fp := fun a q z => np (q ▸ z)
    have sf := s1.frame djp own0
    have dq := s1.dj djp fun a q => (own0 a q).2
    have hp1 : H1 p = some (.dK []) := ((s1.keep p np (own0 p rfl).2).1).trans upd_same
    refine ⟨hp1, ?_⟩
    have nv : ∀ b, Un2 fv f1 b → b ≠ p := fun b z e => dq b e z
    have st2 := Stp.put (o := dkO ks vs) sf.rs (a := p) (.inr rfl)
    have w2 := w1.mono st2.inc (H' := upd H1 p (dkO ks vs)) fun b z => upd_ne (nv b (.inl z))
    have o2 := o1'.mono st2.inc (H' := upd H1 p (dkO ks vs)) fun b z => upd_ne (nv b (.inr z))
    have total := (st.from (fq := fp) fun _ z => z).tr ((sf.from (fq := Un2 (fun b => b = p) fp) fun a q => q.elim .inr .inl).tr st2)
    refine hh (.ref p) _ _ (Un2 (fun b => b = p) fv) f1 (total.less fun a q => ?_) (fun a q z => q.elim (fun q => nv a (.inr z) q) fun q => dj1 a q z) (.dc (.inl rfl) ⟨upd_same, hv, hn⟩ w2 fun b z => ⟨.inr z, nv b (.inl z)⟩) o2
    rcases q with (q | q) | q
    · exact .inr q
    · exact .inl (.inl q)
    · exact .inl (.inr q)
/-- {} -/
def eD0 : Env' → R OD := fun env => .ok (.dc [] []) env
theorem de_d0 : DE X W (.Dict [] [] pos) eD0 := pe_weak pe_dnewK fun σ H Q ⟨F, env, fp, rs, o, h⟩ p hp => by
  have st := Stp.newOwn (o := .dK []) rs hp
  have np : ¬ fp p := fun z => (rs.own p z).2 hp
  have o1 := o.mono st.inc (H' := upd H p (.dK [])) fun a q => upd_ne fun z => np (z ▸ q)
  exact h (.ref p) _ _ (fun b => b = p) fp st (fun a q z => np (q ▸ z)) (.dc (fq := NoFp) (vs := []) rfl ⟨upd_same, rfl, List.nodup_nil⟩ .nil fun _ z => z.elim) o1
/-- a key's worth set, in its place or at the end -/
def putD (ks : List Str) (xs : List OD) (k : Str) (d : OD) : OD := match fIx k ks with
  | some j => .dc ks (xs.set j d)
  | none => .dc (ks ++ [k]) (xs ++ [d])
def sKey (p : PlF) (n : Env' → Option PyData) (f : Env' → R OD) : Env' → Out := fun env => (f env).out fun d e => match p e, n e with
  | some (i, .dc ks xs, re), some (.str k) => if ks.length < 100000 then .nx (e.set i (re (putD ks xs k d))) else .st
  | _, _ => .st
theorem fIx_none {k : Str} : ∀ {ks : List Str}, fIx k ks = none → k ∉ ks
  | [], _ => by simp
  | g :: r, h => by
    unfold fIx at h
    by_cases e : g = k
    · rw [if_pos e] at h; cases h
    · rw [if_neg e] at h
      have : fIx k r = none := by
        cases q : fIx k r with
        | none => rfl
        | some j => rw [q] at h; cases h
      simp [fIx_none this, Ne.symm e]
theorem fIx_mem {k : Str} : ∀ {ks : List Str} {j : Nat}, fIx k ks = some j → ks[j]? = some k
  | [], _, h => by cases h
  | g :: r, j, h => by
    unfold fIx at h
    by_cases e : g = k
    · rw [if_pos e] at h; cases h; simp [e]
    · rw [if_neg e] at h
      cases q : fIx k r with
      | none => rw [q] at h; cases h
      | some i => rw [q] at h; cases h; simpa using fIx_mem q
theorem dkL_repl {k : Str} {v : V} : ∀ {ks : List Str} {vs : List V} {j : Nat}, vs.length = ks.length → ks.Nodup → fIx k ks = some j → (dkL ks vs).map (fun kv => if kv.1 = .inr k then (kv.1, v) else kv) = dkL ks (vs.set j v)
  | [], _, _, _, _, e => by cases e
  | g :: r, [], _, l, _, _ => by cases l
  | g :: r, u :: vs, j, l, n, e => by
    have l' : vs.length = r.length := by simpa using l
    unfold fIx at e
    have hn := List.nodup_cons.mp n
    by_cases h : g = k
    · rw [if_pos h] at e; cases e
      subst h
      have hs : (dkL r vs).map (fun kv => if kv.1 = Sum.inr g then (kv.1, v) else kv) = dkL r vs := by
        refine List.map_congr_left (fun p hp => ?_) |>.trans (List.map_id _)
        have hm : p.1 ∈ (dkL r vs).map (·.1) := List.mem_map.mpr ⟨p, hp, rfl⟩
        rw [dkL_keys l'] at hm
        obtain ⟨z, hz, ez⟩ := List.mem_map.mp hm
        rw [if_neg fun e => hn.1 (by rw [← ez] at e; exact (Sum.inr.inj e) ▸ hz)]; rfl
      show (if (Sum.inr g : Key) = Sum.inr g then ((Sum.inr g : Key), v) else (Sum.inr g, u)) :: (dkL r vs).map _ = _
      rw [hs, if_pos rfl]; rfl
    · rw [if_neg h] at e
      cases q : fIx k r with
      | none => rw [q] at e; cases e
      | some i =>
        rw [q] at e; cases e
        show (if (Sum.inr g : Key) = Sum.inr k then ((Sum.inr g : Key), v) else (Sum.inr g, u)) :: (dkL r vs).map _ = _
        rw [dkL_repl l' hn.2 q, if_neg fun e => h (Sum.inr.inj e)]; rfl
theorem dkL_put {k : Str} {v : V} {ks : List Str} {vs : List V} (l : vs.length = ks.length) (n : ks.Nodup) : putK (dkL ks vs) (.inr k) v = (match fIx k ks with
  | some j => dkL ks (vs.set j v)
  | none => dkL (ks ++ [k]) (vs ++ [v])) := by
  cases q : fIx k ks with
  | some j =>
    have hm := fIx_mem q
    unfold putK
    rw [if_pos, dkL_repl l n q]
    rw [List.any_eq_true]
    have : (Sum.inr k : Key) ∈ (dkL ks vs).map (·.1) := by
      rw [dkL_keys l]; exact List.mem_map.mpr ⟨k, List.mem_of_getElem? hm, rfl⟩
    obtain ⟨p, hp, e⟩ := List.mem_map.mp this
    exact ⟨p, hp, by simp [e]⟩
  | none =>
    rw [putK_end]
    · unfold dkL
      rw [List.zip_append l.symm, List.map_append]; rfl
    · rw [dkL_keys l]
      intro m
      obtain ⟨z, hz, e⟩ := List.mem_map.mp m
      cases e
      exact fIx_none q hz
theorem ds_key {oe ie e : Expr} {p n f} {pos' : Pos} (hu : X.A.units + 1 < cLine) (hp : Plc X oe p) (hn : Qt X ie n) (hv : DE X W e f) (hs : swapsWith e (some (.Subscript oe ie pos')) pos.line X.env = pure false := by rfl) :
    DS X W B (.Assign [.Subscript oe ie pos'] e pos) (sKey p n f) := by
  obtain ⟨t, p1, p2⟩ := hp.ex
  obtain ⟨tn, n1, n2⟩ := hn.ex
  refine ps_weak (ps_dput hu p1 n1 hv hs) fun D σ H ⟨F, env, fp, rs, o, h⟩ => ?_
  refine outE rs o h fun dv e1 v F1 H1 fv f1 s1 dj1 w1 o1 h1 => ?_
  split at h1
  · rename_i i ks xs re k ep en
    split at h1
    · rename_i hlt
      have rs1 : RS F1 H1 f1 := ⟨s1.rs.sub, fun a q => s1.rs.own a (.inr q)⟩
      obtain ⟨x, R, q1, q2, q3⟩ := p2 σ H1 (fun x H2 => tn σ H2 fun y H3 => ∃ a H4, x = .ref a ∧ DPut H3 a y v H4 ∧ D.nx σ H4) F1 e1 f1 _ _ _ rs1 o1 ep
      obtain ⟨m1, m2⟩ := lk_some q1
      obtain ⟨v0, G1, G2, hvs, w0, orest, L1, L2', DG⟩ := o1.get m1 m2
      obtain ⟨u, g1, g2, r0, wu, l1, l2, d, kk⟩ := q2.go F1 H1 v0 G1 rs1.sub w0
      refine q3 v0 u hvs r0 ?_
      refine n2 _ _ _ F1 e1 f1 _ rs1 o1 en fun z hz => ?_
      cases hz
      cases wu with
      | dc fa ha wl hd =>
        rename_i a vs fq
        have ga : G1 a := l1 a fa
        have fa1 : f1 a := L1 a ga
        have hpt := DPut.k (v := v) (k := .inr k) (kvs := dkL ks vs) ha.1 (szlt (by rw [dkL_len ha.2.1]; exact hlt))
        rw [dkL_put ha.2.1 ha.2.2] at hpt
        refine ⟨a, _, rfl, hpt, ?_⟩
        have nv : ∀ b, fv b → b ≠ a := fun b z e => dj1 b z (e ▸ fa1)
        have dvq : Dj fv fq := fun b z z2 => dj1 b z (L1 b (l1 b (hd b z2).1))
        obtain ⟨ks', vs', xs', e1', e2', l', nd', ow'⟩ : ∃ ks' vs' xs', (match fIx k ks with
            | some j => dkL ks (vs.set j v)
            | none => dkL (ks ++ [k]) (vs ++ [v])) = dkL ks' vs' ∧ putD ks xs k dv = .dc ks' xs' ∧ vs'.length = ks'.length ∧ ks'.Nodup ∧ Ows X.K F1 H1 (vs'.map some) xs' (Un2 fv fq) := by
          unfold putD
          cases q : fIx k ks with
          | some j =>
            refine ⟨ks, vs.set j v, xs.set j dv, rfl, rfl, by rw [List.length_set]; exact ha.2.1, ha.2.2, ?_⟩
            have := Ows.store w1 j wl dvq
            rwa [← List.map_set] at this
          | none =>
            refine ⟨ks ++ [k], vs ++ [v], xs ++ [dv], rfl, rfl, by simp [ha.2.1], ?_, ?_⟩
            · refine List.nodup_append.mpr ⟨ha.2.2, by simp, fun y hy z hz e => ?_⟩
              simp only [List.mem_singleton] at hz
              subst hz; subst e
              exact fIx_none q hy
            · have := Ows.app (Ows.one w1) wl dvq
              rw [List.map_append]
              exact this.weak fun b z => z.elim .inr .inl
        rw [e1']
        rw [e2'] at h1
        have rsA := s1.rs
        have st := Stp.put (o := dkO ks' vs') rsA (a := a) (.inr fa1)
        have up : ∀ b, b ≠ a → upd H1 a (dkO ks' vs') b = H1 b := fun b e => upd_ne e
        have o3' := ow'.mono st.inc (H' := upd H1 a (dkO ks' vs')) fun b z => up b (z.elim (nv b) fun z => (hd b z).2)
        have oe := orest.mono st.inc (H' := upd H1 a (dkO ks' vs')) fun b z => up b fun e => DG a ga (e ▸ z)
        have wn : Ow X.K F1 (upd H1 a (dkO ks' vs')) (.ref a) (.dc ks' xs') (Un2 (fun b => b = a) (Un2 fv fq)) := .dc (.inl rfl) ⟨upd_same, l', nd'⟩ o3' fun b z => ⟨.inr z, z.elim (nv b) fun z => (hd b z).2⟩
        have dn : Dj (Un2 (fun b => b = a) (Un2 fv fq)) g2 := fun b z z2 => z.elim (fun e => d a fa (e ▸ z2)) fun z => z.elim (fun z => dj1 b z (L1 b (l2 b z2))) fun z => d b (hd b z).1 z2
        have wo := kk F1 (upd H1 a (dkO ks' vs')) (.dc ks' xs') _ (fun _ _ h => h) (fun b z => up b fun e => d a fa (e ▸ z)) wn dn
        have dw : Dj (Un2 (Un2 (fun b => b = a) (Un2 fv fq)) g2) G2 := fun b z z2 => z.elim (fun z => z.elim (fun e => DG a ga (e ▸ z2)) fun z => z.elim (fun z => dj1 b z (L2' b z2)) fun z => DG b (l1 b (hd b z).1) z2) fun z => DG b (l2 b z) z2
        have hold := Ows.put wo oe hvs dw
        rw [List.set_set] at hold
        refine h1 σ F1 _ _ ((s1.tr st).less fun b z => ?_) hold Bk.id'
        rcases z with ((z | z | z) | z) | z
        · exact .inr (z ▸ fa1)
        · exact .inl z
        · exact .inr (L1 b (l1 b (hd b z).1))
        · exact .inr (L1 b (l2 b z))
        · exact .inr (L2' b z)
    · exact h1.elim
  · exact h1.elim
/-! ### two lists of one's own, put behind one another -/
def eCatO (fa fb : Env' → R OD) : Env' → R OD := fun env => (fa env).bind fun x e1 => (fb e1).bind fun y e2 => match x, y with
  | .l xs, .l ys => if xs.length + ys.length ≤ 100000 then .ok (.l (xs ++ ys)) e2 else .st
  | _, _ => .st
theorem catO_core {mg : Mg} {σ : L2.St} {H : Hp} {Q : VK} {fa fb : Env' → R OD} : dTE K mg W (eCatO fa fb) σ H Q → tOp rAdd (dTE K mg W fa) (dTE K mg W fb) σ H Q := fun ⟨F, env, fp, rs, o, h⟩ => by
  refine seqE (Stp.rfl' rs) (fun _ q => q) o (fun h => h) PoE.ex_ h fun x e1 v F1 H1 fv f1 s1 dj1 w1 o1 h1 => ?_
  refine seqE s1 (fun _ q => .inr q) o1 (fun h => h) PoE.ex_ h1 fun y e2 u F2 H2 fu f2 s2 dj2 w2 o2 h2 => ?_
  have own : ∀ a, fv a → F1 a = none ∧ H1 a ≠ none := fun a q => s1.rs.own a (.inl q)
  have w1' := w1.step s2 dj1 (fun a q => (own a q).2)
  have d3 := s2.dj dj1 fun a q => (own a q).2
  have s3 : Stp F H fp F2 H2 (Un2 (Un2 fu f2) fv) := s1.tr ((s2.frame dj1 own).from fun a q => q.elim .inr .inl)
  split at h2
  · rename_i xs ys
    split at h2
    · rename_i hl
      cases w1' with
      | l fa' ha wl hd =>
        cases w2 with
        | l fb' hb wm he =>
          rename_i a vs fq b us fr
          refine .inr (.inr ⟨a, b, vs, us, rfl, rfl, ha, hb, szl (by rw [ows_len wl, ows_len wm]; exact hl), fun p hp => ?_⟩)
          have st := Stp.newOwn (o := .lst (vs ++ us)) s3.rs hp
          have np : ∀ c, Un2 (Un2 fu f2) fv c → c ≠ p := fun c z e => (s3.rs.own c z).2 (e ▸ hp)
          have dq : Dj fr fq := fun c z z2 => d3 c (hd c z2).1 (.inl (he c z).1)
          have wl2 := (Ows.app wm wl dq)
          rw [← List.map_append] at wl2
          have w4 := wl2.mono st.inc (H' := upd H2 p (.lst (vs ++ us))) fun c z => upd_ne (np c (z.elim (fun z => .inr (hd c z).1) fun z => .inl (.inl (he c z).1)))
          have o4 := o2.mono st.inc (H' := upd H2 p (.lst (vs ++ us))) fun c z => upd_ne (np c (.inl (.inr z)))
          refine h2 (.ref p) _ _ (Un2 (fun c => c = p) (Un2 fq fr)) f2 ((s3.tr st).less fun c z => ?_) (fun c z z2 => ?_) (.l (.inl rfl) upd_same w4 fun c z => ⟨.inr z, np c (z.elim (fun z => .inr (hd c z).1) fun z => .inl (.inl (he c z).1))⟩) o4
          · rcases z with (z | z | z) | z
            · exact .inl z
            · exact .inr (.inr (hd c z).1)
            · exact .inr (.inl (.inl (he c z).1))
            · exact .inr (.inl (.inr z))
          · rcases z with z | z | z
            · exact np c (.inl (.inr z2)) z
            · exact d3 c (hd c z).1 (.inr z2)
            · exact dj2 c (he c z).1 z2
    · exact h2.elim
  · exact h2.elim
theorem de_catO {a b : Expr} {fa fb} (ha : DE X W a fa) (hb : DE X W b fb) : DE X W (.BinOp a .Add b pos) (eCatO fa fb) := pe_weak (pe_op op_addD ha hb) fun _ _ _ => catO_core
end
section
variable (e : Env')
@[simp] theorem eDisp_ap (ks f) : eDisp ks f e = (f e).bind fun xs e => .ok (.dc ks xs) e := rfl
@[simp] theorem eD0_ap : eD0 e = .ok (.dc [] []) e := rfl
@[simp] theorem sKey_ap (p : PlF) (n f) : sKey p n f e = (f e).out fun d e => match p e, n e with
  | some (i, .dc ks xs, re), some (.str k) => if ks.length < 100000 then .nx (e.set i (re (putD ks xs k d))) else .st
  | _, _ => .st := rfl
@[simp] theorem eCatO_ap (fa fb : Env' → R OD) : eCatO fa fb e = (fa e).bind fun x e1 => (fb e1).bind fun y e2 => match x, y with
  | .l xs, .l ys => if xs.length + ys.length ≤ 100000 then .ok (.l (xs ++ ys)) e2 else .st
  | _, _ => .st := rfl
end
end DL

namespace Lw
noncomputable section
open PySem L2 DL
open DL (R Out)
def known : List Str := ["NoMany"]
def law_digits_p0 : Env' → R OD := (eBin gIx (eAt 0) (eAt 7))
def law_digits_p1 : Env' → Out := (sFgt [7] (sSeq (sSet 5 (eBin gMod (eVal (eBin gAdd (eVal (eBin gAdd (eVal (eBin gMul (eAt 5) (eAt 5))) (eAt 3))) (eVal (eBin gMul (eVal (eC (.int 7919))) (eAt 7))))) (eVal (eC (.int 2147483629)))))
  (sSeq (sIf (eB (eBin gGt (eAt 6) (eVal (eC (.int 0))))) (sExp (eMut 4 gAppend (aCons (eBin gMod (eAt 6) (eVal (eC (.int 1000003)))) aNil))) (sExp (eMut 4 gAppend (aCons (eBin gMod (eVal (eBin gMod (eVal (eBin gMul (eAt 5) (eAt 5))) (eVal (eC (.int 2147483587))))) (eVal (eC (.int 1000003)))) aNil))))
  (sSet 6 (eBin gFdiv (eAt 6) (eVal (eC (.int 1000003))))))))
def φ_law_digits : Fn := fnOfBody 3 8 [0, 1, 2]
 ((sSeq (sSet 3 (eCall (c1 gSum) (vCons (eVal (eLc [7] (iArgs rng3 (vCons (eAt 1) (vCons (eVal (eCall (c2 gMin2) (vCons (eVal (eCall (c1 gLen) (vCons (eAt 0) vNil))) (vCons (eVal (eC (.int 63))) vNil)))) (vCons (eAt 2) vNil)))) (gNm 7) tYs law_digits_p0)) vNil)))
  (sSeq (sSet 4 (eLst aNil))
  (sSeq (sSet 5 (eBin gMod (eVal (eBin gAdd (eVal (eBin gMul (eAt 3) (eVal (eC (.int 48271))))) (eVal (eC (.int 40503))))) (eVal (eC (.int 2147483629)))))
  (sSeq (sSet 6 (eBin gMul (eAt 3) (eVal (eCall (c1 gInt) (vCons (eVal (eBin gGe (eAt 3) (eVal (eBin gPow (eVal (eC (.int 10))) (eVal (eC (.int 18))))))) vNil)))))
  (sSeq (sFgt [5, 6] (sFor (iArgs rng1 (vCons (eVal (eC (.int 120))) vNil)) (gNm 7) law_digits_p1))
  (sRet (eUn gRev (eAt 4)))))))))
def φ_look_at_many : Fn := fnOfBody 1 1 [0]
 ((sIf (eB (eBin gLt (eAt 0) (eVal (eC (.int 1))))) (sRaise "NoMany") sNil))
def φ_Watch_init : Fn := fnOfBody 2 2 [0, 1]
 ((sSeq (sExp (eFn φ_look_at_many (bCons (bSlot 1) bNil)))
  (sSeq (sFldS 0 "Watch" "many" (eVar 1))
  (sSeq (sFldS 0 "Watch" "places" (eLst aNil))
  (sSeq (sFldS 0 "Watch" "chosen" (eLst aNil))
  (sSeq (sFldS 0 "Watch" "least_way" (eC (.int 0)))
  (sFldS 0 "Watch" "barring" (eC .none))))))))
def φ_law_place : Fn := fnOfBody 1 4 [0]
 ((sSeq (sSet 1 (eMut 0 gPop aNil))
  (sSeq (sSet 2 (eMut 0 gPop aNil))
  (sSeq (sIf (eB (eBin gEq (eVal (eBin gMod (eAt 1) (eVal (eC (.int 16))))) (eVal (eC (.int 1))))) (sRet (eTup (aCons (eBin gSub (eVal (eBin gMul (eAt 2) (eVal (eBin gPow (eVal (eC (.int 10))) (eVal (eC (.int 25))))))) (eVal (eBin gMul (eVal (eC (.int 5))) (eVal (eBin gPow (eVal (eC (.int 10))) (eVal (eC (.int 30)))))))) (aCons (eBin gSub (eVal (eBin gMul (eAt 1) (eVal (eBin gPow (eVal (eC (.int 10))) (eVal (eC (.int 25))))))) (eVal (eBin gMul (eVal (eC (.int 5))) (eVal (eBin gPow (eVal (eC (.int 10))) (eVal (eC (.int 30)))))))) aNil)))) sNil)
  (sSeq (sSet 3 (eBin gIx (eVal (eLst (aCons (eC (.int 3)) (aCons (eC (.int 10)) (aCons (eC (.int 100)) (aCons (eC (.int 1000)) aNil)))))) (eVal (eBin gMod (eVal (eBin gFdiv (eAt 1) (eVal (eC (.int 16))))) (eVal (eC (.int 4)))))))
  (sRet (eTup (aCons (eBin gSub (eVal (eBin gMod (eVal (eBin gFdiv (eAt 1) (eVal (eC (.int 64))))) (eAt 3))) (eVal (eBin gFdiv (eAt 3) (eVal (eC (.int 2)))))) (aCons (eBin gSub (eVal (eBin gMod (eAt 2) (eAt 3))) (eVal (eBin gFdiv (eAt 3) (eVal (eC (.int 2)))))) aNil)))))))))
def φ_Watch_way : Fn := fnOfBody 3 7 [0, 1, 2]
 ((sSeq (sAsg (gTp 2 (gsCons (gNm 3) (gsCons (gNm 4) gsNil))) (eBin gIx (eVal (eUn (gFld "Watch" "places") (eAt 0))) (eAt 1)))
  (sSeq (sAsg (gTp 2 (gsCons (gNm 5) (gsCons (gNm 6) gsNil))) (eBin gIx (eVal (eUn (gFld "Watch" "places") (eAt 0))) (eAt 2)))
  (sRet (eCall (c2 gMax2) (vCons (eVal (eCall (c1 gAbs) (vCons (eVal (eBin gSub (eAt 3) (eAt 5))) vNil))) (vCons (eVal (eCall (c1 gAbs) (vCons (eVal (eBin gSub (eAt 4) (eAt 6))) vNil))) vNil)))))))
def Watch_is_far_p0 : Env' → R OD := (eBin gGt (eVal (eMt "Watch" "way" φ_Watch_way (pNm 0) (lpCons (bSlot 1) (lpCons (bSlot 3) lpNil)))) (eVal (eBin gMul (eVal (eC (.int 2))) (eVal (eUn (gFld "Watch" "least_way") (eAt 0))))))
def φ_Watch_is_far : Fn := fnOfBody 3 4 [0, 1, 2]
 ((sRet (eCall (c1 gAll) (vCons (eVal (eLcA id 2 [3] (iSeq (eVar 2)) (gNm 3) tYs Watch_is_far_p0)) vNil))))
def Watch_thin_p0 : Env' → R OD := (eMt "Watch" "way" φ_Watch_way (pNm 0) (lpCons (bSlot 3) (lpCons (bSlot 5) lpNil)))
def Watch_thin_p1 : Env' → Out := (sFgt [2, 3] (sExp (eMut 1 gExtend (aCons (eLc [5] (iSeq (eSl (eVal (eUn (gFld "Watch" "chosen") (eAt 0))) oNone (oSome (eVar 2)))) (gNm 5) tYs Watch_thin_p0) aNil))))
def Watch_thin_p2 : Env' → Out := (sFgt [3] (sIf (eB (eMt "Watch" "is_far" φ_Watch_is_far (pNm 0) (lpCons (bSlot 3) (lpCons (bSlot 4) lpNil)))) (sExp (eMut 4 gAppend (aCons (eVar 3) aNil))) sNil))
def φ_Watch_thin : Fn := fnOfBody 1 6 [0]
 ((sSeq (sSet 1 (eLst aNil))
  (sSeq (sLk 0 (sFor (iEnu (aCons (eUn (gFld "Watch" "chosen") (eAt 0)) aNil)) (gTp 2 (gsCons (gNm 2) (gsCons (gNm 3) gsNil))) Watch_thin_p1))
  (sSeq (sFldS 0 "Watch" "least_way" (eCall (c1 gMin1) (vCons (eAt 1) vNil)))
  (sSeq (sFldS 0 "Watch" "barring" (eLk 0 (eCall (c1 gList) (vCons (eVal (eUn (gFld "Watch" "chosen") (eAt 0))) vNil))))
  (sSeq (sSet 4 (eLst aNil))
  (sSeq (sLk 0 (sFor (iSeq (eUn (gFld "Watch" "chosen") (eAt 0))) (gNm 3) Watch_thin_p2))
  (sFldS 0 "Watch" "chosen" (eMv 4)))))))))
def Watch_come_p0 : Env' → Out := (sExp (eMt "Watch" "thin" φ_Watch_thin (pNm 0) lpNil))
def Watch_come_p1 : Env' → R Bool := (eB (eBin gGt (eVal (eLk 0 (eCall (c1 gLen) (vCons (eVal (eUn (gFld "Watch" "chosen") (eAt 0))) vNil)))) (eVal (eUn (gFld "Watch" "many") (eAt 0)))))
def φ_Watch_come : Fn := fnOfBody 3 4 [0, 1, 2]
 ((sSeq (sSet 3 (eLk 0 (eCall (c1 gLen) (vCons (eVal (eUn (gFld "Watch" "places") (eAt 0))) vNil))))
  (sSeq (sExp (eMutP (pFld "Watch" "places" (pNm 0)) gAppend (aCons (eTup (aCons (eVar 1) (aCons (eVar 2) aNil))) aNil)))
  (sSeq (sIf (eB (eLk 0 (eMt "Watch" "is_far" φ_Watch_is_far (pNm 0) (lpCons (bSlot 3) (lpCons (bVal (eUn (gFld "Watch" "chosen") (eAt 0))) lpNil))))) (sExp (eMutP (pFld "Watch" "chosen" (pNm 0)) gAppend (aCons (eVar 3) aNil))) sNil)
  (sSeq (sWhile (fun _ => 3) Watch_come_p1 Watch_come_p0)
  (sRet (eMv 3)))))))
def φ_law_way : Fn := fnOfBody 3 7 [0, 1, 2]
 ((sSeq (sAsg (gTp 2 (gsCons (gNm 3) (gsCons (gNm 4) gsNil))) (eBin gIx (eVal (ePl (pKey (qC (.str "folk")) (pNm 0)))) (eAt 1)))
  (sSeq (sAsg (gTp 2 (gsCons (gNm 5) (gsCons (gNm 6) gsNil))) (eBin gIx (eVal (ePl (pKey (qC (.str "folk")) (pNm 0)))) (eAt 2)))
  (sRet (eCall (c2 gMax2) (vCons (eVal (eCall (c1 gAbs) (vCons (eVal (eBin gSub (eAt 3) (eAt 5))) vNil))) (vCons (eVal (eCall (c1 gAbs) (vCons (eVal (eBin gSub (eAt 4) (eAt 6))) vNil))) vNil)))))))
def law_is_far_p0 : Env' → R OD := (eVar 3)
def law_is_far_p1 : Env' → R Bool := (eB (eBin gLe (eVal (eFn φ_law_way (bCons (bSlot 0) (bCons (bSlot 1) (bCons (bSlot 3) bNil))))) (eVal (eBin gMul (eVal (eC (.int 2))) (eVal (ePl (pKey (qC (.str "mark")) (pNm 0))))))))
def φ_law_is_far : Fn := fnOfBody 3 4 [0, 1, 2]
 ((sRet (eBin gEq (eVal (eLcA id 2 [3] (iSeq (eVar 2)) (gNm 3) law_is_far_p1 law_is_far_p0)) (eVal (eLst aNil)))))
def law_thinned_p0 : Env' → R OD := (eFn φ_law_way (bLate 0 (bCons (bVal (eBin gIx (eVal (ePl (pKey (qC (.str "posts")) (pNm 0)))) (eAt 2))) (bCons (bSlot 4) bNil))))
def law_thinned_p1 : Env' → Out := (sFgt [2] (sSet 1 (eBin gAdd (eAt 1) (eVal (eLc [4] (iSeq (eSl (eVal (ePl (pKey (qC (.str "posts")) (pNm 0)))) oNone (oSome (eVar 2)))) (gNm 4) tYs law_thinned_p0)))))
def law_thinned_p2 : Env' → Out := (sFgt [4] (sIf (eB (eFn φ_law_is_far (bCons (bSlot 0) (bCons (bSlot 4) (bCons (bSlot 3) bNil))))) (sSet 3 (eBin gAdd (eAt 3) (eVal (eLst (aCons (eVar 4) aNil))))) sNil))
def φ_law_thinned : Fn := fnOfBody 1 5 [0]
 ((sSeq (sSet 1 (eLst aNil))
  (sSeq (sFor (iArgs rng1 (vCons (eVal (eCall (c1 gLen) (vCons (eVal (ePl (pKey (qC (.str "posts")) (pNm 0)))) vNil))) vNil)) (gNm 2) law_thinned_p1)
  (sSeq (sKey (pNm 0) (qC (.str "mark")) (eFz (eCall (c1 gMin1) (vCons (eAt 1) vNil))))
  (sSeq (sKey (pNm 0) (qC (.str "bar")) (ePl (pKey (qC (.str "posts")) (pNm 0))))
  (sSeq (sSet 3 (eLst aNil))
  (sSeq (sFor (iSeq (ePl (pKey (qC (.str "posts")) (pNm 0)))) (gNm 4) law_thinned_p2)
  (sKey (pNm 0) (qC (.str "posts")) (eVar 3)))))))))
def φ_law_come : Fn := fnOfBody 2 3 [0, 1]
 ((sSeq (sSet 2 (eCall (c1 gLen) (vCons (eVal (ePl (pKey (qC (.str "folk")) (pNm 0)))) vNil)))
  (sSeq (sKey (pNm 0) (qC (.str "folk")) (eFz (eBin gAdd (eVal (ePl (pKey (qC (.str "folk")) (pNm 0)))) (eVal (eLst (aCons (eVar 1) aNil))))))
  (sSeq (sIf (eB (eFn φ_law_is_far (bLate 0 (bCons (bSlot 2) (bCons (bVal (ePl (pKey (qC (.str "posts")) (pNm 0)))) bNil))))) (sKey (pNm 0) (qC (.str "posts")) (eFz (eBin gAdd (eVal (ePl (pKey (qC (.str "posts")) (pNm 0)))) (eVal (eLst (aCons (eVar 2) aNil)))))) sNil)
  (sSeq (sIf (eB (eBin gGt (eVal (eCall (c1 gLen) (vCons (eVal (ePl (pKey (qC (.str "posts")) (pNm 0)))) vNil))) (eVal (ePl (pKey (qC (.str "many")) (pNm 0)))))) (sExp (eFn φ_law_thinned (bCons (bSlot 0) bNil))) sNil)
  (sRet (eMv 2)))))))
def φ_law_whole : Fn := fnOfBody 1 1 [0]
 ((sRet (eAndV (eIsi "int" (eAt 0)) (eNotV (eIsi "bool" (eAt 0))))))
def φ_Watch_folk : Fn := fnOfBody 1 1 [0]
 ((sRet (eCall (c1 gList) (vCons (eVal (eUn (gFld "Watch" "places") (eAt 0))) vNil))))
def φ_Watch_bar : Fn := fnOfBody 1 1 [0]
 ((sSeq (sIf (eB (eBin (gIsN false) (eVal (eUn (gFld "Watch" "barring") (eAt 0))) (eVal (eC .none)))) (sRet (eC .none)) sNil)
  (sRet (eCall (c1 gList) (vCons (eVal (eUn (gFld "Watch" "barring") (eAt 0))) vNil)))))
def φ_Watch_posts : Fn := fnOfBody 1 1 [0]
 ((sRet (eCall (c1 gList) (vCons (eVal (eUn (gFld "Watch" "chosen") (eAt 0))) vNil))))
def law_wholes_p0 : Env' → R OD := (eVar 1)
def law_wholes_p1 : Env' → R Bool := (eNot (eB (eFn φ_law_whole (bCons (bSlot 1) bNil))))
def φ_law_wholes : Fn := fnOfBody 1 2 [0]
 ((sRet (eAndV (eIsi "list" (eAt 0)) (eBin gEq (eVal (eLcA id 0 [1] (iSeq (eVar 0)) (gNm 1) law_wholes_p1 law_wholes_p0)) (eVal (eLst aNil))))))
def Watch_reach_p0 : Env' → R OD := (eMt "Watch" "way" φ_Watch_way (pNm 0) (lpCons (bSlot 2) (lpCons (bSlot 3) lpNil)))
def Watch_reach_p1 : Env' → Out := (sFgt [2] (sSet 1 (eCall (c2 gMax2) (vCons (eAt 1) (vCons (eVal (eCall (c1 gMin1) (vCons (eVal (eLc [3] (iSeq (eUn (gFld "Watch" "chosen") (eAt 0))) (gNm 3) tYs Watch_reach_p0)) vNil))) vNil)))))
def φ_Watch_reach : Fn := fnOfBody 1 4 [0]
 ((sSeq (sSet 1 (eC (.int 0)))
  (sSeq (sFor (iArgs rng1 (vCons (eVal (eCall (c1 gLen) (vCons (eVal (eUn (gFld "Watch" "places") (eAt 0))) vNil))) vNil)) (gNm 2) Watch_reach_p1)
  (sRet (eMv 1)))))
def φ_Watch_mark : Fn := fnOfBody 1 1 [0]
 ((sRet (eUn (gFld "Watch" "least_way") (eAt 0))))
def law_far_p0 : Env' → R OD := (eFn φ_law_way (bCons (bSlot 0) (bCons (bSlot 2) (bCons (bSlot 3) bNil))))
def law_far_p1 : Env' → Out := (sFgt [2] (sSet 1 (eCall (c2 gMax2) (vCons (eAt 1) (vCons (eVal (eCall (c1 gMin1) (vCons (eVal (eLc [3] (iSeq (ePl (pKey (qC (.str "posts")) (pNm 0)))) (gNm 3) tYs law_far_p0)) vNil))) vNil)))))
def φ_law_far : Fn := fnOfBody 1 4 [0]
 ((sSeq (sSet 1 (eC (.int 0)))
  (sSeq (sFor (iArgs rng1 (vCons (eVal (eCall (c1 gLen) (vCons (eVal (ePl (pKey (qC (.str "folk")) (pNm 0)))) vNil))) vNil)) (gNm 2) law_far_p1)
  (sRet (eMv 1)))))
def law_is_so_p0 : Env' → Out := (sFgt [3] (sIf (eOr (eNot (eB (eIsi "tuple" (eAt 3)))) (eOr (eNot (eB (eFn φ_law_whole (bCons (bVal (eBin gIx (eAt 3) (eVal (eC (.int 0))))) bNil)))) (eNot (eB (eFn φ_law_whole (bCons (bVal (eBin gIx (eAt 3) (eVal (eC (.int 1))))) bNil)))))) (sRet (eC (.bool false))) sNil))
def law_is_so_p1 : Env' → Out := (sFgt [5] (sIf (eB (eBin (gIsN true) (eAt 5) (eVal (eC .none)))) (sExp (eMut 5 gAppend (aCons (eC (.int 7)) aNil))) sNil))
def law_is_so_s0 : Env' → Out := (sSet 2 (eLk 0 (eMt "Watch" "folk" φ_Watch_folk (pNm 0) lpNil)))
def law_is_so_s1 : Env' → Out := (sIf (eOr (eNot (eB (eIsi "list" (eAt 2)))) (eOr (eB (eBin gNe (eAt 2) (eVal (ePl (pKey (qC (.str "folk")) (pNm 1)))))) (eB (eBin gNe (eVal (eUn (gFld "Watch" "many") (eAt 0))) (eVal (ePl (pKey (qC (.str "many")) (pNm 1)))))))) (sRet (eC (.bool false))) sNil)
def law_is_so_s2 : Env' → Out := (sForA id 2 (sFor (iSeq (eVar 2)) (gNm 3) law_is_so_p0) (gNm 3) law_is_so_p0)
def law_is_so_s3 : Env' → Out := (sSet 4 (eLst (aCons (eLk 0 (eMt "Watch" "posts" φ_Watch_posts (pNm 0) lpNil)) (aCons (eLk 0 (eMt "Watch" "bar" φ_Watch_bar (pNm 0) lpNil)) aNil))))
def law_is_so_s4 : Env' → Out := (sIf (eOr (eNot (eB (eFnP φ_law_wholes (lpPlc (pItm (qC (.int 0)) (pNm 4)) lpNil)))) (eB (eBin gNe (eAt 4) (eVal (eLst (aCons (ePl (pKey (qC (.str "posts")) (pNm 1))) (aCons (ePl (pKey (qC (.str "bar")) (pNm 1))) aNil))))))) (sRet (eC (.bool false))) sNil)
def law_is_so_s5 : Env' → Out := (sIf (eAnd (eB (eNnI 4 1 true)) (eNot (eB (eFnP φ_law_wholes (lpPlc (pItm (qC (.int 1)) (pNm 4)) lpNil))))) (sRet (eC (.bool false))) sNil)
def law_is_so_s6 : Env' → Out := (sForO (eCatO (eMv 4) (eLst (aCons (eMv 2) aNil))) (gNm 5) law_is_so_p1)
def law_is_so_s7 : Env' → Out := (sSet 6 (eLst (aCons (eLk 0 (eMt "Watch" "mark" φ_Watch_mark (pNm 0) lpNil)) (aCons (eLk 0 (eMt "Watch" "reach" φ_Watch_reach (pNm 0) lpNil)) aNil))))
def law_is_so_s8 : Env' → Out := (sRet (eAndV (eFn φ_law_wholes (bCons (bSlot 6) bNil)) (eBin gEq (eAt 6) (eVal (eLst (aCons (ePl (pKey (qC (.str "mark")) (pNm 1))) (aCons (eFn φ_law_far (bCons (bSlot 1) bNil)) aNil)))))))
def φ_law_is_so : Fn := fnOfBody 2 7 [0, 1]
 ((sSeq law_is_so_s0
  (sSeq law_is_so_s1
  (sSeq law_is_so_s2
  (sSeq law_is_so_s3
  (sSeq law_is_so_s4
  (sSeq law_is_so_s5
  (sSeq law_is_so_s6
  (sSeq law_is_so_s7
  law_is_so_s8)))))))))
def φ_law_classes : Fn := fnOfBody 1 2 [0]
 ((sSeq (sSet 1 (eLst (aCons (eIsE known "NoMany" (eAt 0)) (aCons (eIsE known "NoPosts" (eAt 0)) (aCons (eIsE known "NoReach" (eAt 0)) (aCons (eIsE known "NoRing" (eAt 0)) aNil))))))
  (sSeq (sSet 1 (eBin gAdd (eAt 1) (eVal (eLst (aCons (eIsE known "NoLine" (eAt 0)) (aCons (eIsE known "NoWord" (eAt 0)) (aCons (eIsE known "NoFolk" (eAt 0)) aNil)))))))
  (sSeq (sSet 1 (eBin gAdd (eAt 1) (eVal (eLst (aCons (eIsE known "NoPost" (eAt 0)) (aCons (eIsE known "NoTable" (eAt 0)) (aCons (eIsE known "NoWay" (eAt 0)) aNil)))))))
  (sRet (eBin gAdd (eAt 1) (eVal (eLst (aCons (eIsE known "NoThing" (eAt 0)) (aCons (eIsE known "NoText" (eAt 0)) (aCons (eIsE known "NoName" (eAt 0)) aNil)))))))))))
def φ_law_which : Fn := fnOfBody 1 1 [0]
 ((sSeq (sIf (eOr (eNot (eB (eIsE known "ValueError" (eAt 0)))) (eB (eBin gNe (eVal (eUn gCntT (eVal (eFn φ_law_classes (bCons (bSlot 0) bNil))))) (eVal (eC (.int 1)))))) (sRet (eUn gNeg (eVal (eC (.int 1))))) sNil)
  (sRet (eUn gIxT (eVal (eFn φ_law_classes (bCons (bSlot 0) bNil)))))))
def law_refused_p0 : Env' → Out := (sExp (eMk "Watch" φ_Watch_init (bCons (bSlot 0) bNil)))
def φ_law_refused : Fn := fnOfBody 1 3 [0]
 ((sSeq (sSet 1 (eC .none))
  (sSeq (sTry known 2 1 law_refused_p0)
  (sRet (eBin gEq (eVal (eFn φ_law_which (bCons (bSlot 1) bNil))) (eVal (eC (.int 0))))))))
def law_p0 : Env' → Out := (sFgt [4, 5, 6] (sSeq (sSet 5 (eMut 1 gPop aNil))
  (sSeq (sSet 6 (eBin gIx (eVal (eLst (aCons (eBin gAdd (eVal (eC (.int 1))) (eVal (eBin gMod (eVal (eBin gFdiv (eAt 5) (eVal (eC (.int 8))))) (eVal (eC (.int 5)))))) (aCons (eBin gAdd (eVal (eBin gPow (eVal (eC (.int 10))) (eVal (eC (.int 29))))) (eAt 5)) aNil)))) (eVal (eCall (c1 gInt) (vCons (eVal (eBin gEq (eVal (eBin gMod (eAt 5) (eVal (eC (.int 8))))) (eVal (eC (.int 7))))) vNil)))))
  (sSeq (sExp (eMut 2 gAppend (aCons (eMk "Watch" φ_Watch_init (bCons (bSlot 6) bNil)) aNil)))
  (sExp (eMut 3 gAppend (aCons (eDisp ["many", "folk", "posts", "mark", "bar"] (aCons (eVar 6) (aCons (eFz (eLst aNil)) (aCons (eFz (eLst aNil)) (aCons (eC (.int 0)) (aCons (eC .none) aNil)))))) aNil)))))))
def law_s0 : Env' → Out := (sSet 4 (eCall (c1 gInt) (vCons (eVal (eBin gEq (eVal (eBin gMod (eVal (eMut 1 gPop aNil)) (eVal (eC (.int 3))))) (eVal (eC (.int 0))))) vNil)))
def law_s1 : Env' → Out := (sSet 8 (eFn φ_law_place (bCons (bSlot 1) bNil)))
def law_s2 : Env' → Out := (sSet 9 (eMt "Watch" "come" φ_Watch_come (pItm (qAt 4) (pNm 2)) (lpCons (bVal (eBin gIx (eAt 8) (eVal (eC (.int 0))))) (lpCons (bVal (eBin gIx (eAt 8) (eVal (eC (.int 1))))) lpNil))))
def law_s3 : Env' → Out := (sIf (eOr (eNot (eB (eFn φ_law_whole (bCons (bSlot 9) bNil)))) (eB (eBin gNe (eAt 9) (eVal (eFnP φ_law_come (lpPlc (pItm (qAt 4) (pNm 3)) (lpCons (bSlot 8) lpNil))))))) (sRet (eC (.bool false))) sNil)
def law_s4 : Env' → Out := (sIf (eNot (eB (eFnP φ_law_is_so (lpPlc (pItm (qAt 4) (pNm 2)) (lpPlc (pItm (qAt 4) (pNm 3)) lpNil))))) (sRet (eC (.bool false))) sNil)
def law_p1 : Env' → Out := (sFgt [4, 7, 8, 9] (sSeq law_s0
  (sSeq law_s1
  (sSeq law_s2
  (sSeq law_s3
  law_s4)))))
def law_p2 : Env' → Out := (sFgt [4] (sIf (eOr (eNot (eB (eFnP φ_law_is_so (lpPlc (pItm (qAt 4) (pNm 2)) (lpPlc (pItm (qAt 4) (pNm 3)) lpNil))))) (eNot (eB (eFnP φ_law_is_so (lpPlc (pItm (qAt 4) (pNm 2)) (lpPlc (pItm (qAt 4) (pNm 3)) lpNil)))))) (sRet (eC (.bool false))) sNil))
def law_s5 : Env' → Out := (sSet 1 (eFn φ_law_digits (bCons (bSlot 0) (bCons (bVal (eC (.int 0))) (bCons (bVal (eC (.int 2))) bNil)))))
def law_s6 : Env' → Out := (sSet 2 (eLst aNil))
def law_s7 : Env' → Out := (sSet 3 (eLst aNil))
def law_s8 : Env' → Out := (sFor (iArgs rng1 (vCons (eVal (eC (.int 2))) vNil)) (gNm 4) law_p0)
def law_s9 : Env' → Out := (sFor (iArgs rng1 (vCons (eVal (eBin gMod (eVal (eMut 1 gPop aNil)) (eVal (eC (.int 37))))) vNil)) (gNm 7) law_p1)
def law_s10 : Env' → Out := (sFor (iArgs rng1 (vCons (eVal (eC (.int 2))) vNil)) (gNm 4) law_p2)
def law_s11 : Env' → Out := (sRet (eAndV (eFn φ_law_refused (bCons (bVal (eC (.int 0))) bNil)) (eAndV (eFn φ_law_refused (bCons (bVal (eUn gNeg (eVal (eC (.int 1))))) bNil)) (eFn φ_law_refused (bCons (bVal (eUn gNeg (eVal (eBin gPow (eVal (eC (.int 10))) (eVal (eC (.int 29))))))) bNil)))))
def φ_law : Fn := fnOfBody 1 10 [0]
 ((sSeq law_s5
  (sSeq law_s6
  (sSeq law_s7
  (sSeq law_s8
  (sSeq law_s9
  (sSeq law_s10
  law_s11)))))))
end
end Lw

namespace Lw
open PySem L2 DL
open DL (R Out)
/-! ### walks that may end by a return -/
theorem forGo_exit {g : Tg} {f : Env' → Out} {d : OD} {Good : Env' → Prop} {e : Env'} : ∀ (l : List PyData) (p : Nat → Prop),
    (∀ i (hi : i < l.length), (∀ j, j < i → p j) → ∃ e1, g (.p l[i]) e = some e1 ∧ ((p i ∧ f e1 = .nx e) ∨ (¬ p i ∧ ∃ e2, f e1 = .rt d e2 ∧ Good e2))) →
    ((∀ i, i < l.length → p i) ∧ forGo g f l e = .nx e) ∨ ((¬ ∀ i, i < l.length → p i) ∧ ∃ e2, forGo g f l e = .rt d e2 ∧ Good e2)
  | [], p, _ => .inl ⟨fun i hi => absurd hi (Nat.not_lt_zero i), rfl⟩
  | a :: l, p, h => by
    obtain ⟨e1, h1, h2⟩ := h 0 (by simp) (fun j hj => absurd hj (Nat.not_lt_zero j))
    rw [show (a :: l)[0] = a from rfl] at h1
    rw [forGo_cons, h1]
    dsimp only
    rcases h2 with ⟨p0, h2⟩ | ⟨p0, e2, h2, h3⟩
    · rw [h2]
      show _ ∧ forGo g f l e = _ ∨ _ ∧ ∃ e2, forGo g f l e = _ ∧ _
      rcases forGo_exit l (fun i => p (i + 1)) (fun i hi hp => h (i + 1) (by simp; omega) fun j hj => by
        cases j with
        | zero => exact p0
        | succ j => exact hp j (by omega)) with ⟨q1, q2⟩ | ⟨q1, q2⟩
      · exact .inl ⟨fun i hi => by
          cases i with
          | zero => exact p0
          | succ i => exact q1 i (by simp at hi; omega), q2⟩
      · exact .inr ⟨fun z => q1 fun i hi => z (i + 1) (by simp; omega), q2⟩
    · rw [h2]
      exact .inr ⟨fun z => p0 (z 0 (by simp)), e2, rfl, h3⟩
theorem forGoA_exit {ii : Nat} {x : OD} {g : Tg} {f : Env' → Out} {d : OD} {Good : Env' → Prop} {e : Env'} (hk : lk e ii = some x) : ∀ (l : List PyData) (p : Nat → Prop),
    (∀ i (hi : i < l.length), (∀ j, j < i → p j) → ∃ e1, g (.p l[i]) e = some e1 ∧ ((p i ∧ f e1 = .nx e) ∨ (¬ p i ∧ ∃ e2, f e1 = .rt d e2 ∧ Good e2))) →
    ((∀ i, i < l.length → p i) ∧ forGoA ii x g f l e = .nx e) ∨ ((¬ ∀ i, i < l.length → p i) ∧ ∃ e2, forGoA ii x g f l e = .rt d e2 ∧ Good e2)
  | [], p, _ => .inl ⟨fun i hi => absurd hi (Nat.not_lt_zero i), forGoA_nil hk⟩
  | a :: l, p, h => by
    obtain ⟨e1, h1, h2⟩ := h 0 (by simp) (fun j hj => absurd hj (Nat.not_lt_zero j))
    rw [show (a :: l)[0] = a from rfl] at h1
    rw [forGoA_cons hk, h1]
    dsimp only
    rcases h2 with ⟨p0, h2⟩ | ⟨p0, e2, h2, h3⟩
    · rw [h2]
      show _ ∧ forGoA ii x g f l e = _ ∨ _ ∧ ∃ e2, forGoA ii x g f l e = _ ∧ _
      rcases forGoA_exit hk l (fun i => p (i + 1)) (fun i hi hp => h (i + 1) (by simp; omega) fun j hj => by
        cases j with
        | zero => exact p0
        | succ j => exact hp j (by omega)) with ⟨q1, q2⟩ | ⟨q1, q2⟩
      · exact .inl ⟨fun i hi => by
          cases i with
          | zero => exact p0
          | succ i => exact q1 i (by simp at hi; omega), q2⟩
      · exact .inr ⟨fun z => q1 fun i hi => z (i + 1) (by simp; omega), q2⟩
    · rw [h2]
      exact .inr ⟨fun z => p0 (z 0 (by simp)), e2, rfl, h3⟩
theorem seq_to {f g : Env' → Out} {e e' : Env'} {o : Out} (h : f e = .nx e') (k : g e' = o) : sSeq f g e = o := by rw [sSeq_ap, h]; exact k
theorem seq_rt {f g : Env' → Out} {e e' : Env'} {d : OD} (h : f e = .rt d e') : sSeq f g e = .rt d e' := by rw [sSeq_ap, h]; rfl
def eF (f : Int × Int) : PyData := .tuple [.int f.1, .int f.2]
abbrev pI (i : Int) : OD := .p (.int i)
theorem gIx_eF0 (f : Int × Int) : gIx (.p (eF f)) (.p (.int 0)) = some (.p (.int f.1)) := rfl
theorem gIx_eF1 (f : Int × Int) : gIx (.p (eF f)) (.p (.int 1)) = some (.p (.int f.2)) := rfl
/-! ### corners and squares -/
def mn (ns : List Int) : Int := (minOf ns).getD 0
def mxx (ns : List Int) : Int := (maxOf ns).getD 0
theorem minOf_ne {ns : List Int} (h : ns ≠ []) : minOf ns = some (mn ns) := by
  unfold mn
  cases ns with
  | nil => exact absurd rfl h
  | cons n ns => rfl
theorem maxOf_ne {ns : List Int} (h : ns ≠ []) : maxOf ns = some (mxx ns) := by
  unfold mxx
  cases ns with
  | nil => exact absurd rfl h
  | cons n ns => rfl
theorem mn_mem {ns : List Int} (h : ns ≠ []) : mn ns ∈ ns := (minOf_spec (minOf_ne h)).1
theorem mn_le {ns : List Int} {n : Int} (h : n ∈ ns) : mn ns ≤ n := (minOf_spec (minOf_ne (List.ne_nil_of_mem h))).2 n h
theorem mx_mem {ns : List Int} (h : ns ≠ []) : mxx ns ∈ ns := (maxOf_spec (maxOf_ne h)).1
theorem le_mx {ns : List Int} {n : Int} (h : n ∈ ns) : n ≤ mxx ns := (maxOf_spec (maxOf_ne (List.ne_nil_of_mem h))).2 n h
theorem gMin1_ints {ns : List Int} (h : ns ≠ []) : gMin1 (.l (ns.map fun n => .p (.int n))) = some (.p (.int (mn ns))) := by
  unfold gMin1
  have : intsOf (.l (ns.map fun n => OD.p (.int n))) = some ns := by
    show (its (.l _)).bind toInts = _
    rw [show (ns.map fun n => OD.p (.int n)) = (ns.map PyData.int).map .p by rw [List.map_map]; rfl, its_l]
    exact toInts_map ns
  rw [this, Option.bind_some, minOf_ne h]; rfl
theorem gMax1_ints {ns : List Int} (h : ns ≠ []) : gMax1 (.l (ns.map fun n => .p (.int n))) = some (.p (.int (mxx ns))) := by
  unfold gMax1
  have : intsOf (.l (ns.map fun n => OD.p (.int n))) = some ns := by
    show (its (.l _)).bind toInts = _
    rw [show (ns.map fun n => OD.p (.int n)) = (ns.map PyData.int).map .p by rw [List.map_map]; rfl, its_l]
    exact toInts_map ns
  rw [this, Option.bind_some, maxOf_ne h]; rfl
def big (a b : Int) : Int := if b > a then b else a
def lil (a b : Int) : Int := if b < a then b else a
def absI (a : Int) : Int := if a < 0 then -a else a
def sf (p c : Int × Int) : Int := big (absI (p.1 - c.1)) (absI (p.2 - c.2))
theorem big_le {a b c : Int} : big a b ≤ c ↔ a ≤ c ∧ b ≤ c := by unfold big; split <;> omega
theorem le_big {a b c : Int} : c ≤ big a b ↔ c ≤ a ∨ c ≤ b := by unfold big; split <;> omega
theorem le_lil {a b c : Int} : c ≤ lil a b ↔ c ≤ a ∧ c ≤ b := by unfold lil; split <;> omega
theorem lil_le {a b c : Int} : lil a b ≤ c ↔ a ≤ c ∨ b ≤ c := by unfold lil; split <;> omega
theorem absI_le {a c : Int} : absI a ≤ c ↔ a ≤ c ∧ -a ≤ c := by unfold absI; split <;> omega
theorem absI_nn (a : Int) : 0 ≤ absI a := by unfold absI; split <;> omega
def fk (fs : List (Int × Int)) (k : Nat) : Int × Int := fs.getD k (0, 0)
theorem fk_in {fs : List (Int × Int)} {k : Nat} (h : k < fs.length) : fk fs k ∈ fs := by
  unfold fk
  rw [List.getD_eq_getElem?_getD, List.getElem?_eq_getElem h]
  exact List.getElem_mem h
/-! ### watches -/
def wN : List Str := ["many", "places", "chosen", "least_way", "barring"]
theorem wN_0 : fIx "many" wN = some 0 := by decide +kernel
theorem wN_1 : fIx "places" wN = some 1 := by decide +kernel
theorem wN_2 : fIx "chosen" wN = some 2 := by decide +kernel
theorem wN_3 : fIx "least_way" wN = some 3 := by decide +kernel
theorem wN_4 : fIx "barring" wN = some 4 := by decide +kernel
theorem wN_n : fIx "way" wN = none ∧ fIx "is_far" wN = none ∧ fIx "come" wN = none ∧ fIx "thin" wN = none ∧ fIx "folk" wN = none ∧ fIx "posts" wN = none ∧ fIx "mark" wN = none ∧ fIx "bar" wN = none ∧ fIx "reach" wN = none := by decide +kernel
theorem wN_l : wN.length = 5 := rfl
structure Wt where
  many : Int
  folk : List (Int × Int)
  posts : List Nat
  mark : Int
  bar : Option (List Nat)
abbrev iN (ps : List Nat) : List PyData := ps.map fun (n : Nat) => PyData.int (n : Int)
def barO : Option (List Nat) → OD
  | none => .p .none
  | some ps => .l ((iN ps).map .p)
def barD : Option (List Nat) → PyData
  | none => .none
  | some ps => .list (iN ps)
abbrev foD (fs : List (Int × Int)) : List PyData := fs.map eF
abbrev wO (w : Wt) : OD := .ob "Watch" wN [pI w.many, .l ((foD w.folk).map .p), .l ((iN w.posts).map .p), pI w.mark, barO w.bar]
abbrev wF (w : Wt) : OD := .fo "Watch" wN [.int w.many, .list (foD w.folk), .list (iN w.posts), .int w.mark, barD w.bar]
theorem frz_bar (b) : frz (barO b) = some (barD b) := by
  cases b with
  | none => rfl
  | some ps => exact frz_lp _
theorem frzs_w (w : Wt) : frzs [pI w.many, .l ((foD w.folk).map .p), .l ((iN w.posts).map .p), pI w.mark, barO w.bar] = some [.int w.many, .list (foD w.folk), .list (iN w.posts), .int w.mark, barD w.bar] := by
  have h1 := frz_lp (foD w.folk)
  have h2 := frz_lp (iN w.posts)
  have h3 := frz_bar w.bar
  generalize (foD w.folk).map OD.p = A at *
  generalize (iN w.posts).map OD.p = B at *
  generalize barO w.bar = C at *
  simp [h1, h2, h3, -frz_l]
def wy (fs : List (Int × Int)) (i j : Nat) : Int := sf (fk fs i) (fk fs j)
theorem fk_get {fs : List (Int × Int)} {i : Nat} (h : i < fs.length) : fs[i]? = some (fk fs i) := by
  unfold fk
  rw [List.getElem?_eq_getElem h, List.getD_eq_getElem?_getD, List.getElem?_eq_getElem h]; rfl
theorem ixF {fs : List (Int × Int)} {i : Nat} (h : i < fs.length) : gIx (.p (.list (foD fs))) (.p (.int (i : Int))) = some (.p (eF (fk fs i))) := by
  rw [gIx_list, atI_n, List.getElem?_map, fk_get h]; rfl
section
variable (w : Wt)
theorem way_ok {i j : Nat} (hi : i < w.folk.length) (hj : j < w.folk.length) : φ_Watch_way [wF w, pI (i : Int), pI (j : Int)] = .ok (pI (wy w.folk i j)) [wF w, pI (i : Int), pI (j : Int)] := by
  have i1 := ixF hi
  have i2 := ixF hj
  unfold wy sf big absI
  simp only [wF] at *
  generalize foD w.folk = FF at *
  generalize fk w.folk i = p at *
  generalize fk w.folk j = q at *
  simp [φ_Watch_way, fnOfBody_ap, wN_1, i1, i2, eF, prts, -gIx_list]
/-- farther than twice the mark from all posts -/
def farW (fs : List (Int × Int)) (m : Int) (n : Nat) (ps : List Nat) : Bool := ps.all fun p => decide (2 * m < wy fs n p)
theorem is_far_ok {n : Nat} {ps : List Nat} {x : OD} (hx : IsL x (iN ps)) (hn : n < w.folk.length) (hp : ∀ p ∈ ps, p < w.folk.length) (hl : ps.length ≤ 1000) : φ_Watch_is_far [wF w, pI (n : Int), x] = .ok (.p (.bool (farW w.folk w.mark n ps))) [wF w, pI (n : Int), x] := by
  have lk2 : lk [wF w, pI (n : Int), x, .h] 2 = some x := hx.lk rfl
  have cp := lcGoA_enc (i := 2) (x0 := x) (js := [3]) (g := gNm 3) (t := tYs) (f := Watch_is_far_p0) (fun p : Nat => PyData.int (p : Int)) (fun p => OD.p (PyData.bool (decide (2 * w.mark < wy w.folk n p)))) [wF w, pI (n : Int), x, .h] lk2 ps fun p hq => by
    have wk := way_ok w hn (hp p hq)
    refine ⟨[wF w, pI (n : Int), x, pI (p : Int)], [wF w, pI (n : Int), x, pI (p : Int)], [wF w, pI (n : Int), x, pI (p : Int)], rfl, rfl, ?_, rfl⟩
    generalize wy w.folk n p = z at *
    simp only [wF] at *
    generalize foD w.folk = FF at *
    generalize iN w.posts = II at *
    generalize barD w.bar = BB at *
    simp [Watch_is_far_p0, wN_n, wN_3, wk]
  have hit := hx.it
  have hn' : (iN ps).length ≤ 40000 := by rw [List.length_map]; omega
  have al : gAll (.l (ps.map fun p => OD.p (PyData.bool (decide (2 * w.mark < wy w.folk n p))))) = some (.p (.bool (farW w.folk w.mark n ps))) := by
    unfold gAll
    rw [show (ps.map fun p => OD.p (PyData.bool (decide (2 * w.mark < wy w.folk n p)))) = ((ps.map fun p => decide (2 * w.mark < wy w.folk n p)).map PyData.bool).map OD.p by rw [List.map_map, List.map_map]; rfl, its_l]
    show (toBls _).map _ = _
    rw [toBls_map, Option.map_some]
    refine congrArg (fun b => some (OD.p (PyData.bool b))) ?_
    unfold farW
    rw [List.all_map]; rfl
  rw [show ps.map (fun p : Nat => PyData.int (p : Int)) = iN ps from rfl] at cp
  generalize (ps.map fun p => OD.p (PyData.bool (decide (2 * w.mark < wy w.folk n p)))) = Z at *
  generalize iN ps = PP at *
  generalize farW w.folk w.mark n ps = b at *
  simp only [wF] at *
  generalize foD w.folk = FF at *
  generalize iN w.posts = II at *
  generalize barD w.bar = BB at *
  simp [φ_Watch_is_far, fnOfBody_ap, lk2, hit, hn', hol, cp, al]
theorem folk_m : φ_Watch_folk [wF w] = .ok (.l ((foD w.folk).map .p)) [wF w] := by
  simp only [wF]
  generalize foD w.folk = FF at *
  generalize iN w.posts = II at *
  generalize barD w.bar = BB at *
  simp [φ_Watch_folk, fnOfBody_ap, wN_1]
theorem posts_m : φ_Watch_posts [wF w] = .ok (.l ((iN w.posts).map .p)) [wF w] := by
  simp only [wF]
  generalize foD w.folk = FF at *
  generalize iN w.posts = II at *
  generalize barD w.bar = BB at *
  simp [φ_Watch_posts, fnOfBody_ap, wN_2]
theorem mark_m : φ_Watch_mark [wF w] = .ok (pI w.mark) [wF w] := by
  simp only [wF]
  generalize foD w.folk = FF at *
  generalize iN w.posts = II at *
  generalize barD w.bar = BB at *
  simp [φ_Watch_mark, fnOfBody_ap, wN_3]
theorem bar_m : φ_Watch_bar [wF w] = .ok (barO w.bar) [wF w] := by
  cases e : w.bar with
  | none =>
    simp only [wF, e, barO, barD]
    generalize foD w.folk = FF at *
    generalize iN w.posts = II at *
    have isn : gIsN false (.p .none) (.p .none) = some (.p (.bool true)) := rfl
    simp [φ_Watch_bar, fnOfBody_ap, wN_4, isn]
  | some ps =>
    simp only [wF, e, barO, barD]
    generalize foD w.folk = FF at *
    generalize iN w.posts = II at *
    generalize iN ps = BB at *
    have isn : gIsN false (.p (.list BB)) (.p .none) = some (.p (.bool false)) := rfl
    simp [φ_Watch_bar, fnOfBody_ap, wN_4, isn]
end
/-! ### tables: the digits -/
abbrev iL (zs : List Int) : OD := .l ((zs.map PyData.int).map .p)
theorem iL_is (zs : List Int) : IsL (iL zs) (zs.map .int) := .inr rfl
theorem iL_len (zs : List Int) : gLen (iL zs) = some (.p (.int zs.length)) := by rw [gLen_l, List.length_map, List.length_map]
theorem gSum_iL (zs : List Int) : gSum (iL zs) = some (.p (.int zs.sum)) := by
  unfold gSum
  have : intsOf (iL zs) = some zs := by
    show (its (.l _)).bind toInts = _
    rw [its_l]
    exact toInts_map zs
  rw [this]; rfl
theorem rgc_two : ∀ j : Nat, j < 64 → RgC 0 (j : Int) 2 ((j + 1) / 2) ∧ RgC 1 (j : Int) 2 (j / 2) := by
  unfold RgC
  decide +kernel
theorem law_digits_ok (ns : List Int) {at' : Int} (ha : at' = 0 ∨ at' = 1) : ∃ D : List Int, D.length = 120 ∧ (∀ d ∈ D, 0 ≤ d ∧ d < 1000003) ∧ φ_law_digits [.sc ns, pI at', pI 2] = .ok (iL D) [.sc ns, pI at', pI 2] := by
  -- the sum
  obtain ⟨m, hm, rg, hin⟩ : ∃ m : Nat, m ≤ 40 ∧ rng3 [pI at', pI (if (63 : Int) < (ns.length : Int) then 63 else (ns.length : Int)), pI 2] = some (rngS at' 2 m) ∧ ∀ k, k < m → at' + (k : Int) * 2 < (ns.length : Int) := by
    obtain ⟨j, hj, ej, hjn⟩ : ∃ j : Nat, j < 64 ∧ (if (63 : Int) < (ns.length : Int) then 63 else (ns.length : Int)) = (j : Int) ∧ (j : Int) ≤ ns.length := by
      by_cases q : (63 : Int) < (ns.length : Int)
      · exact ⟨63, by decide, by rw [if_pos q]; rfl, by omega⟩
      · exact ⟨ns.length, by omega, by rw [if_neg q], by omega⟩
    rw [ej]
    obtain ⟨r0, r1⟩ := rgc_two j hj
    rcases ha with rfl | rfl
    · exact ⟨(j + 1) / 2, by omega, rng3_eq r0, fun k hk => by omega⟩
    · exact ⟨j / 2, by omega, rng3_eq r1, fun k hk => by omega⟩
  have comp : ∃ zs : List Int, lcGo [7] (gNm 7) tYs law_digits_p0 (rngS at' 2 m) [.sc ns, pI at', pI 2, .h, .h, .h, .h, .h] = some ((zs.map PyData.int).map OD.p, [.sc ns, pI at', pI 2, .h, .h, .h, .h, .h]) := by
    have k := lcGo_enc (js := [7]) (g := gNm 7) (t := tYs) (f := law_digits_p0) (fun k : Nat => PyData.int (at' + (k : Int) * 2)) (fun k => .p (.int (ns.getD (at' + (k : Int) * 2).toNat 0))) [.sc ns, pI at', pI 2, .h, .h, .h, .h, .h] (List.range m) fun k hk => by
      have hk := hin k (List.mem_range.1 hk)
      refine ⟨[.sc ns, pI at', pI 2, .h, .h, .h, .h, pI (at' + (k : Int) * 2)], [.sc ns, pI at', pI 2, .h, .h, .h, .h, pI (at' + (k : Int) * 2)], [.sc ns, pI at', pI 2, .h, .h, .h, .h, pI (at' + (k : Int) * 2)], rfl, rfl, ?_, rfl⟩
      have h0 : 0 ≤ at' + (k : Int) * 2 := by rcases ha with rfl | rfl <;> omega
      generalize at' + (k : Int) * 2 = z at *
      obtain ⟨n, rfl⟩ := Int.eq_ofNat_of_zero_le h0
      have hn : n < ns.length := by omega
      have i : gIx (.sc ns) (.p (.int (n : Int))) = some (.p (.int (ns.getD n 0))) := by
        have e : ns.getD n 0 = ns[n] := by simp [List.getD, hn]
        rw [e, gIx_sc, atI_nat (List.getElem?_eq_getElem hn)]; rfl
      simp [law_digits_p0, i, -gIx_sc]
    refine ⟨(List.range m).map fun k : Nat => ns.getD (at' + (k : Int) * 2).toNat 0, ?_⟩
    rw [List.map_map, List.map_map]
    exact k
  obtain ⟨zs, comp⟩ := comp
  have sm := gSum_iL zs
  generalize zs.sum = u at sm
  have rl : (rngS at' 2 m).length ≤ 40000 := by unfold rngS; rw [List.length_map, List.length_range]; omega
  -- the loop
  have mo1 : DL.MulOk u 48271 := mulOk_r _ (by decide) (by decide)
  have mo2 : ∀ b : Bool, DL.MulOk u (if b then 1 else 0) := fun b => mulOk_r _ (by cases b <;> decide) (by cases b <;> decide)
  have r0 : 0 ≤ (u * 48271 + 40503) % 2147483629 := Int.emod_nonneg _ (by decide)
  have r1 : (u * 48271 + 40503) % 2147483629 < 2147483629 := Int.emod_lt_of_pos _ (by decide)
  generalize hfi : (u * 48271 + 40503) % 2147483629 = fi at r0 r1
  obtain ⟨q, hq⟩ : ∃ q : Int, u * (if decide (1000000000000000000 ≤ u) then 1 else 0) = q := ⟨_, rfl⟩
  have loop := forGo_rng0 (g := gNm 7) (f := law_digits_p1) 120 (fun j e => ∃ (D : List Int) (f q : Int), D.length = j ∧ (∀ d ∈ D, 0 ≤ d ∧ d < 1000003) ∧ 0 ≤ f ∧ f < 2147483629 ∧ e = [.sc ns, pI at', pI 2, pI u, iL D, pI f, pI q, .h]) [.sc ns, pI at', pI 2, pI u, iL [], pI fi, pI q, .h] ⟨[], fi, q, rfl, (fun _ h => nomatch h), r0, r1, rfl⟩ fun j hj e ⟨D, f, q, h1, h2, h3, h4, he⟩ => by
    subst he
    have m1 : DL.MulOk f f := mulOk_r _ (by omega) (by omega)
    have m2 : DL.MulOk 7919 (j : Int) := mulOk_l _ (by decide) (by decide)
    have s0 : 0 ≤ (f * f + u + 7919 * (j : Int)) % 2147483629 := Int.emod_nonneg _ (by decide)
    have s1 : (f * f + u + 7919 * (j : Int)) % 2147483629 < 2147483629 := Int.emod_lt_of_pos _ (by decide)
    generalize hf' : (f * f + u + 7919 * (j : Int)) % 2147483629 = f' at s0 s1
    have m3 : DL.MulOk f' f' := mulOk_r _ (by omega) (by omega)
    have len : (D.map PyData.int).length < 100000 := by rw [List.length_map]; omega
    by_cases c : 0 < q
    · have d0 := Int.emod_nonneg q (b := 1000003) (by decide)
      have d1 := Int.emod_lt_of_pos q (b := 1000003) (by decide)
      refine ⟨[.sc ns, pI at', pI 2, pI u, iL D, pI f, pI q, pI (j : Int)], [.sc ns, pI at', pI 2, pI u, iL (D ++ [q % 1000003]), pI f', pI (q / 1000003), .h], rfl, ?_, D ++ [q % 1000003], f', q / 1000003, by rw [List.length_append, h1]; rfl, fun d hd => (List.mem_append.1 hd).elim (h2 d) fun hd => by rw [List.mem_singleton.1 hd]; exact ⟨d0, d1⟩, s0, s1, rfl⟩
      simp only [iL, List.map_append, List.map_cons, List.map_nil]
      generalize D.map PyData.int = DD at *
      simp [law_digits_p1, m1, m2, hf', c, len]
    · have d0 := Int.emod_nonneg (f' * f' % 2147483587) (b := 1000003) (by decide)
      have d1 := Int.emod_lt_of_pos (f' * f' % 2147483587) (b := 1000003) (by decide)
      refine ⟨[.sc ns, pI at', pI 2, pI u, iL D, pI f, pI q, pI (j : Int)], [.sc ns, pI at', pI 2, pI u, iL (D ++ [f' * f' % 2147483587 % 1000003]), pI f', pI (q / 1000003), .h], rfl, ?_, D ++ [f' * f' % 2147483587 % 1000003], f', q / 1000003, by rw [List.length_append, h1]; rfl, fun d hd => (List.mem_append.1 hd).elim (h2 d) fun hd => by rw [List.mem_singleton.1 hd]; exact ⟨d0, d1⟩, s0, s1, rfl⟩
      simp only [iL, List.map_append, List.map_cons, List.map_nil]
      generalize D.map PyData.int = DD at *
      simp [law_digits_p1, m1, m2, m3, hf', c, len]
  obtain ⟨e', lp, D, f, q', h1, h2, -, -, he⟩ := loop
  subst he
  have w := rng1_nat (n := 120) (by decide)
  have gr : gRev (iL D) = some (iL D.reverse) := by unfold gRev; rw [its_l, Option.map_some, ← List.map_reverse]
  refine ⟨D.reverse, by rw [List.length_reverse]; exact h1, fun d hd => h2 d (List.mem_reverse.1 hd), ?_⟩
  simp only [iL] at *
  rw [List.map_nil, List.map_nil] at lp
  generalize D.map PyData.int = DD at *
  generalize D.reverse.map PyData.int = DR at *
  generalize zs.map PyData.int = ZZ at *
  have mo2 := mo2 (decide (1000000000000000000 ≤ u))
  rw [show ((120 : Nat) : Int) = 120 from rfl] at w
  simp only [decide_eq_true_eq] at hq mo2
  simp [φ_law_digits, fnOfBody_ap, rg, rl, hol, comp, sm, mo1, hfi, hq, mo2, w, lp, gr]
/-! ### a purse of digits -/
def pl (R : List Int) : List OD := (R.reverse.map PyData.int).map .p
abbrev pu (R : List Int) : OD := .l (pl R)
abbrev Dgs (R : List Int) : Prop := ∀ d ∈ R, 0 ≤ d ∧ d < 1000003
@[simp] theorem gPop_pl (x : Int) (R : List Int) : gPop (pl (x :: R)) [] = some (.p (.int x), pl R) := by
  unfold pl
  simp [gPop, popOf]
@[simp] theorem gLen_pu (R : List Int) : gLen (pu R) = some (pI (R.length : Int)) := by
  rw [gLen_l]; unfold pl; simp
theorem digits_pu (ns : List Int) {at' : Int} (ha : at' = 0 ∨ at' = 1) : ∃ R : List Int, R.length = 120 ∧ Dgs R ∧ φ_law_digits [.sc ns, pI at', pI 2] = .ok (pu R) [.sc ns, pI at', pI 2] := by
  obtain ⟨D, h1, h2, h3⟩ := law_digits_ok ns ha
  refine ⟨D.reverse, by simp [h1], fun d hd => h2 d (List.mem_reverse.1 hd), ?_⟩
  rw [h3]
  unfold pu pl
  rw [List.reverse_reverse]
theorem Dgs.tl {x : Int} {R : List Int} (h : Dgs (x :: R)) : Dgs R := fun d hd => h d (List.mem_cons_of_mem _ hd)
theorem Dgs.hd {x : Int} {R : List Int} (h : Dgs (x :: R)) : 0 ≤ x ∧ x < 1000003 := h x List.mem_cons_self
theorem pu_cons {R : List Int} {n : Nat} (h : n + 1 ≤ R.length) : ∃ x S, R = x :: S ∧ n ≤ S.length := by
  cases R with
  | nil => simp at h
  | cons x S => exact ⟨x, S, rfl, by simpa using h⟩
/-! ### watches: reach, thin, come -/
theorem iL_fn (zs : List Int) : iL zs = .l (zs.map fun n => .p (.int n)) := by unfold iL; rw [List.map_map]; rfl
theorem gMin1_iL {zs : List Int} (h : zs ≠ []) : gMin1 (iL zs) = some (pI (mn zs)) := by rw [iL_fn]; exact gMin1_ints h
theorem iN_at {ps : List Nat} {j : Nat} (h : j < ps.length) : (iN ps)[j]'(by rw [List.length_map]; exact h) = .int (ps[j] : Int) := by simp
def rchW (fs : List (Int × Int)) (ps : List Nat) : Int := (List.range fs.length).foldl (fun a n => big a (mn (ps.map fun p => wy fs n p))) 0
structure Ok (w : Wt) : Prop where
  fl : w.folk.length ≤ 500
  pl : w.posts.length ≤ 500
  pv : ∀ p ∈ w.posts, p < w.folk.length
section
variable {w : Wt} (ok : Ok w)
include ok
theorem reach_m (ne : w.folk ≠ [] → w.posts ≠ []) : φ_Watch_reach [wF w] = .ok (pI (rchW w.folk w.posts)) [wF w] := by
  have fl := ok.fl; have pl := ok.pl
  have lp := forGo_fold (g := gNm 2) (f := Watch_reach_p1) (fun n : Nat => PyData.int (n : Int)) (fun a : Int => [wF w, pI a, .h, .h]) (fun a n => big a (mn (w.posts.map fun p => wy w.folk n p))) (fun _ => True) (List.range w.folk.length) 0 trivial fun a n _ hn => ⟨trivial, by
    have hn := List.mem_range.1 hn
    have pn := ne (fun z => by rw [z] at hn; exact absurd hn (Nat.not_lt_zero n))
    have cp := lcGo_enc (js := [3]) (g := gNm 3) (t := tYs) (f := Watch_reach_p0) (fun p : Nat => PyData.int (p : Int)) (fun p => pI (wy w.folk n p)) [wF w, pI a, pI (n : Int), .h] w.posts fun p hp => by
      have wk := way_ok w hn (ok.pv p hp)
      refine ⟨[wF w, pI a, pI (n : Int), pI (p : Int)], [wF w, pI a, pI (n : Int), pI (p : Int)], [wF w, pI a, pI (n : Int), pI (p : Int)], rfl, rfl, ?_, rfl⟩
      generalize wy w.folk n p = z at *
      simp only [wF] at *
      generalize foD w.folk = FF at *
      generalize iN w.posts = II at *
      generalize barD w.bar = BB at *
      simp [Watch_reach_p0, wN_n, wk]
    have il : (iN w.posts).length ≤ 40000 := by rw [List.length_map]; omega
    have mi := gMin1_iL (zs := w.posts.map fun p => wy w.folk n p) (fun z => pn (List.map_eq_nil_iff.1 z))
    rw [iL_fn, List.map_map] at mi
    rw [show ((fun n => OD.p (PyData.int n)) ∘ fun p => wy w.folk n p) = fun p => pI (wy w.folk n p) from rfl] at mi
    refine ⟨[wF w, pI a, pI (n : Int), .h], rfl, ?_⟩
    rw [show w.posts.map (fun p : Nat => PyData.int (p : Int)) = iN w.posts from rfl] at cp
    unfold big
    generalize mn (w.posts.map fun p => wy w.folk n p) = m at *
    generalize (w.posts.map fun p => pI (wy w.folk n p)) = Z at *
    simp only [wF] at *
    generalize foD w.folk = FF at *
    generalize iN w.posts = II at *
    generalize barD w.bar = BB at *
    simp [Watch_reach_p1, wN_2, il, hol, cp, mi]⟩
  obtain ⟨lp, _⟩ := lp
  have ln : gLen (.p (.list (foD w.folk))) = some (pI (w.folk.length : Int)) := by rw [gLen_list, List.length_map]
  have rg := rng1_nat (n := w.folk.length) (by omega)
  have re : rngL 0 w.folk.length = (List.range w.folk.length).map fun n : Nat => PyData.int (n : Int) := by
    apply List.ext_getElem?
    intro j
    by_cases hj : j < w.folk.length
    · rw [List.getElem?_map, List.getElem?_range hj]
      have h2 : j < (rngL 0 w.folk.length).length := by rw [rngL_len]; exact hj
      rw [List.getElem?_eq_getElem h2, (rngL_get (List.getElem?_eq_getElem h2)).2]
      simp
    · rw [List.getElem?_eq_none (by rw [rngL_len]; omega), List.getElem?_eq_none (by simp; omega)]
  rw [← re] at lp
  rw [show (List.range w.folk.length).foldl (fun a n => big a (mn (w.posts.map fun p => wy w.folk n p))) 0 = rchW w.folk w.posts from rfl] at lp
  generalize rchW w.folk w.posts = r at *
  generalize rngL 0 w.folk.length = RR at *
  generalize (w.folk.length : Int) = L at *
  simp only [wF] at *
  generalize foD w.folk = FF at *
  generalize iN w.posts = II at *
  generalize barD w.bar = BB at *
  simp [φ_Watch_reach, fnOfBody_ap, wN_1, ln, rg, lp, -gLen_list]
end
/-- the ways between posts, as they are gone through -/
def waysJ (fs : List (Int × Int)) (ps : List Nat) (j : Nat) : List Int := (ps.take j).map fun o => wy fs (ps.getD j 0) o
def waysL (fs : List (Int × Int)) (ps : List Nat) : Nat → List Int
  | 0 => []
  | j + 1 => waysL fs ps j ++ waysJ fs ps j
theorem waysL_len (fs : List (Int × Int)) (ps : List Nat) (hp : ps.length ≤ 100) : ∀ j, j ≤ ps.length → (waysL fs ps j).length ≤ j * 100
  | 0, _ => by simp [waysL]
  | j + 1, h => by
    have := waysL_len fs ps hp j (by omega)
    unfold waysL waysJ
    rw [List.length_append, List.length_map, List.length_take]
    omega
def keepF (fs : List (Int × Int)) (m : Int) (l : List Nat) (p : Nat) : List Nat := if farW fs m p l then l ++ [p] else l
def leftOf (fs : List (Int × Int)) (m : Int) (ps : List Nat) : List Nat := ps.foldl (keepF fs m) []
theorem keep_sub (fs : List (Int × Int)) (m : Int) : ∀ (l acc : List Nat), (∀ p ∈ l.foldl (keepF fs m) acc, p ∈ acc ∨ p ∈ l) ∧ (l.foldl (keepF fs m) acc).length ≤ acc.length + l.length
  | [], acc => ⟨fun p hp => .inl hp, Nat.le_refl _⟩
  | a :: l, acc => by
    obtain ⟨h1, h2⟩ := keep_sub fs m l (keepF fs m acc a)
    rw [List.foldl_cons]
    have k1 : ∀ p ∈ keepF fs m acc a, p ∈ acc ∨ p = a := fun p hp => by
      unfold keepF at hp
      split at hp
      · exact (List.mem_append.1 hp).imp_right List.mem_singleton.1
      · exact .inl hp
    have k2 : (keepF fs m acc a).length ≤ acc.length + 1 := by
      unfold keepF
      split
      · simp
      · omega
    refine ⟨fun p hp => ?_, by rw [List.length_cons]; omega⟩
    rcases h1 p hp with h | h
    · rcases k1 p h with h | h
      · exact .inl h
      · exact .inr (by rw [h]; exact List.mem_cons_self)
    · exact .inr (List.mem_cons_of_mem _ h)
def thin (w : Wt) : Wt := { w with mark := mn (waysL w.folk w.posts w.posts.length), bar := some w.posts, posts := leftOf w.folk (mn (waysL w.folk w.posts w.posts.length)) w.posts }
theorem nl_iN (ps : List Nat) : allPn ((iN ps).map .p) = true := allPn_map _ _ fun _ _ => nlD_i _
theorem nl_iL (zs : List Int) : allPn ((zs.map PyData.int).map .p) = true := allPn_map _ _ fun _ _ => nlD_i _
theorem nl_foD (fs : List (Int × Int)) : allPn ((foD fs).map .p) = true := allPn_map _ _ fun _ _ => by simp [eF]
section
variable {w : Wt} (ok : Ok w)
include ok
theorem thin_l1 (h1 : w.posts.length ≤ 100) : (sLk 0 (sFor (iEnu (aCons (eUn (gFld "Watch" "chosen") (eAt 0)) aNil)) (gTp 2 (gsCons (gNm 2) (gsCons (gNm 3) gsNil))) Watch_thin_p1)) [wO w, .l [], .h, .h, .h, .h] = .nx [wO w, iL (waysL w.folk w.posts w.posts.length), .h, .h, .h, .h] := by
  have fl := ok.fl; have pl := ok.pl
  obtain ⟨e', lp, he⟩ := forGo_ix (g := gTp 2 (gsCons (gNm 2) (gsCons (gNm 3) gsNil))) (f := Watch_thin_p1) (enumL 0 (iN w.posts)) (fun j e => e = [wF w, iL (waysL w.folk w.posts j), .h, .h, .h, .h]) [wF w, .l [], .h, .h, .h, .h] rfl fun j hj e he => by
    subst he
    rw [enumL_len, List.length_map] at hj
    have hj2 : j < (iN w.posts).length := by rw [List.length_map]; exact hj
    have hx := enumL_ix (iN w.posts) hj2
    have hj3 : j < (enumL 0 (iN w.posts)).length := by rw [enumL_len]; exact hj2
    rw [List.getElem?_eq_getElem hj3, iN_at hj] at hx
    rw [Option.some.inj hx]
    have gd : w.posts.getD j 0 = w.posts[j] := by simp [hj]
    have cp := lcGo_enc (js := [5]) (g := gNm 5) (t := tYs) (f := Watch_thin_p0) (fun p : Nat => PyData.int (p : Int)) (fun p => pI (wy w.folk w.posts[j] p)) [wF w, iL (waysL w.folk w.posts j), pI (j : Int), pI (w.posts[j] : Int), .h, .h] (w.posts.take j) fun p hp => by
      have wk := way_ok w (ok.pv _ (List.getElem_mem hj)) (ok.pv p (List.mem_of_mem_take hp))
      refine ⟨[wF w, iL (waysL w.folk w.posts j), pI (j : Int), pI (w.posts[j] : Int), .h, pI (p : Int)], [wF w, iL (waysL w.folk w.posts j), pI (j : Int), pI (w.posts[j] : Int), .h, pI (p : Int)], [wF w, iL (waysL w.folk w.posts j), pI (j : Int), pI (w.posts[j] : Int), .h, pI (p : Int)], rfl, rfl, ?_, rfl⟩
      generalize wy w.folk w.posts[j] p = z at *
      generalize (w.posts[j] : Int) = q at *
      simp only [wF, iL] at *
      generalize foD w.folk = FF at *
      generalize iN w.posts = II at *
      generalize barD w.bar = BB at *
      generalize (waysL w.folk w.posts j).map PyData.int = ZZ at *
      simp [Watch_thin_p0, wN_n, wk]
    have sl : gSlice (.p (.list (iN w.posts))) none (some (j : Int)) = some (.l (((w.posts.take j).map fun p : Nat => PyData.int (p : Int)).map .p)) := by
      rw [gSlice_list, cut_toN, ← List.map_take]
    have il : ((w.posts.take j).map fun p : Nat => PyData.int (p : Int)).length ≤ 40000 := by rw [List.length_map, List.length_take]; omega
    have wl := waysL_len w.folk w.posts h1 j (by omega)
    have ex : gExtend (((waysL w.folk w.posts j).map PyData.int).map .p) [.l ((w.posts.take j).map fun p => pI (wy w.folk w.posts[j] p))] = some (.p .none, ((waysL w.folk w.posts (j + 1)).map PyData.int).map .p) := by
      rw [gExtend_l (by simp only [List.length_map, List.length_take]; omega)]
      congr 2
      show _ = ((waysL w.folk w.posts j ++ waysJ w.folk w.posts j).map PyData.int).map OD.p
      rw [List.map_append, List.map_append]
      congr 1
      unfold waysJ
      rw [List.map_map, List.map_map, gd]; rfl
    refine ⟨[wF w, iL (waysL w.folk w.posts j), pI (j : Int), pI (w.posts[j] : Int), .h, .h], [wF w, iL (waysL w.folk w.posts (j + 1)), .h, .h, .h, .h], ?_, ?_, rfl⟩
    · simp [prts]
    · generalize ((w.posts.take j).map fun p => pI (wy w.folk w.posts[j] p)) = Z at *
      generalize ((w.posts.take j).map fun p : Nat => PyData.int (p : Int)) = Y at *
      generalize (w.posts[j] : Int) = q at *
      simp only [wF, iL] at *
      generalize foD w.folk = FF at *
      generalize iN w.posts = II at *
      generalize barD w.bar = BB at *
      generalize ((waysL w.folk w.posts j).map PyData.int).map OD.p = ZZ at *
      generalize ((waysL w.folk w.posts (j + 1)).map PyData.int).map OD.p = Z2 at *
      simp [Watch_thin_p1, wN_2, sl, il, hol, cp, ex, -gSlice_list]
  subst he
  rw [enumL_len, List.length_map] at lp
  have fz := frzs_w w
  have cl := nl_iL (waysL w.folk w.posts w.posts.length)
  simp only [wF, iL, wO] at *
  generalize (foD w.folk) = FF at *
  generalize FF.map OD.p = F2 at *
  generalize (iN w.posts) = II at *
  generalize II.map OD.p = I2 at *
  generalize barO w.bar = B2 at *
  generalize barD w.bar = BB at *
  generalize ((waysL w.folk w.posts w.posts.length).map PyData.int).map OD.p = ZZ at *
  simp [fz, wN_2, lp, cl, -frzs_cons]
theorem thin_l2 (z : OD) (hz : nlR z = true) (hz2 : ∀ e, clsd (z :: e) = clsd e) : (sLk 0 (sFor (iSeq (eUn (gFld "Watch" "chosen") (eAt 0))) (gNm 3) Watch_thin_p2)) [wO w, z, .h, .h, .l [], .h] = .nx [wO w, z, .h, .h, .l ((iN (leftOf w.folk w.mark w.posts)).map .p), .h] := by
  have fl := ok.fl; have pl := ok.pl
  obtain ⟨e', lp, he⟩ := forGo_ix (g := gNm 3) (f := Watch_thin_p2) (iN w.posts) (fun j e => e = [wF w, z, .h, .h, .l ((iN ((w.posts.take j).foldl (keepF w.folk w.mark) [])).map .p), .h]) [wF w, z, .h, .h, .l [], .h] rfl fun j hj e he => by
    subst he
    rw [List.length_map] at hj
    rw [iN_at hj]
    obtain ⟨k1, k2⟩ := keep_sub w.folk w.mark (w.posts.take j) []
    have kv : ∀ p ∈ (w.posts.take j).foldl (keepF w.folk w.mark) [], p < w.folk.length := fun p hp => ok.pv p (List.mem_of_mem_take ((k1 p hp).resolve_left (fun h => nomatch h)))
    have kl : ((w.posts.take j).foldl (keepF w.folk w.mark) []).length ≤ 500 := by rw [List.length_take] at k2; simp at k2; omega
    have tk : (w.posts.take (j + 1)).foldl (keepF w.folk w.mark) [] = keepF w.folk w.mark ((w.posts.take j).foldl (keepF w.folk w.mark) []) w.posts[j] := by
      rw [List.take_succ, List.getElem?_eq_getElem hj, List.foldl_append]; rfl
    have fa := is_far_ok w (x := .l ((iN ((w.posts.take j).foldl (keepF w.folk w.mark) [])).map .p)) (.inr rfl) (ok.pv _ (List.getElem_mem hj)) kv (by omega)
    rw [tk]
    generalize (w.posts.take j).foldl (keepF w.folk w.mark) [] = L at *
    have e1 : (iN (L ++ [w.posts[j]])).map OD.p = (iN L).map OD.p ++ [pI (w.posts[j] : Int)] := by simp
    have ll : ((iN L).map OD.p).length < 100000 := by simp; omega
    refine ⟨[wF w, z, .h, pI (w.posts[j] : Int), .l ((iN L).map .p), .h], [wF w, z, .h, .h, .l ((iN (keepF w.folk w.mark L w.posts[j])).map .p), .h], rfl, ?_, rfl⟩
    unfold keepF
    cases hf : farW w.folk w.mark w.posts[j] L with
    | true =>
      rw [if_pos rfl, e1]
      rw [hf] at fa
      generalize (iN L).map OD.p = LL at *
      generalize (w.posts[j] : Int) = q at *
      simp only [wF] at *
      generalize foD w.folk = FF at *
      generalize iN w.posts = II at *
      generalize barD w.bar = BB at *
      simp [Watch_thin_p2, wN_n, fa, ll]
    | false =>
      rw [if_neg Bool.false_ne_true]
      rw [hf] at fa
      generalize (iN L).map OD.p = LL at *
      generalize (w.posts[j] : Int) = q at *
      simp only [wF] at *
      generalize foD w.folk = FF at *
      generalize iN w.posts = II at *
      generalize barD w.bar = BB at *
      simp [Watch_thin_p2, wN_n, fa]
  subst he
  rw [List.length_map, List.take_length, show w.posts.foldl (keepF w.folk w.mark) [] = leftOf w.folk w.mark w.posts from rfl] at lp
  have fz := frzs_w w
  have cl := nl_iN (leftOf w.folk w.mark w.posts)
  have it : itsF (.p (.list (iN w.posts))) = some (iN w.posts) := rfl
  simp only [wF, wO] at *
  generalize (iN (leftOf w.folk w.mark w.posts)).map OD.p = LL at *
  generalize (foD w.folk) = FF at *
  generalize FF.map OD.p = F2 at *
  generalize (iN w.posts) = II at *
  generalize II.map OD.p = I2 at *
  generalize barO w.bar = B2 at *
  generalize barD w.bar = BB at *
  simp [fz, wN_2, lp, cl, hz2, -frzs_cons]
end
theorem mut_fld (w : Wt) : wN.length < 900 := by decide
theorem thin_ok {w : Wt} (ok : Ok w) (h1 : w.posts.length ≤ 100) (h2 : waysL w.folk w.posts w.posts.length ≠ []) : φ_Watch_thin [wO w] = .ok (.p .none) [wO (thin w)] := by
  have l1 := thin_l1 ok h1
  have mi := gMin1_iL h2
  have ok2 : Ok { w with mark := mn (waysL w.folk w.posts w.posts.length), bar := some w.posts } := ⟨ok.fl, ok.pl, ok.pv⟩
  have l2 := thin_l2 ok2 (iL (waysL w.folk w.posts w.posts.length)) (nl_iL _) (fun e => by rw [clsd_l, nl_iL]; rfl)
  have s1 : (sSet 1 (eLst aNil)) [wO w, .h, .h, .h, .h, .h] = .nx [wO w, .l [], .h, .h, .h, .h] := by simp
  have s3 : (sFldS 0 "Watch" "least_way" (eCall (c1 gMin1) (vCons (eAt 1) vNil))) [wO w, iL (waysL w.folk w.posts w.posts.length), .h, .h, .h, .h] = .nx [wO { w with mark := mn (waysL w.folk w.posts w.posts.length) }, iL (waysL w.folk w.posts w.posts.length), .h, .h, .h, .h] := by
    generalize mn (waysL w.folk w.posts w.posts.length) = m at *
    simp only [wO, iL] at *
    generalize ((waysL w.folk w.posts w.posts.length).map PyData.int).map OD.p = ZZ at *
    generalize (foD w.folk).map OD.p = F2 at *
    generalize (iN w.posts).map OD.p = I2 at *
    generalize barO w.bar = B2 at *
    simp [mi, wN_3, wN_l]
  have s4 : (sFldS 0 "Watch" "barring" (eLk 0 (eCall (c1 gList) (vCons (eVal (eUn (gFld "Watch" "chosen") (eAt 0))) vNil)))) [wO { w with mark := mn (waysL w.folk w.posts w.posts.length) }, iL (waysL w.folk w.posts w.posts.length), .h, .h, .h, .h] = .nx [wO { w with mark := mn (waysL w.folk w.posts w.posts.length), bar := some w.posts }, iL (waysL w.folk w.posts w.posts.length), .h, .h, .h, .h] := by
    have fz := frzs_w { w with mark := mn (waysL w.folk w.posts w.posts.length) }
    have nl := nl_iN w.posts
    have eb : barO (some w.posts) = .l ((iN w.posts).map .p) := rfl
    generalize mn (waysL w.folk w.posts w.posts.length) = m at *
    simp only [wO, iL, eb] at *
    generalize ((waysL w.folk w.posts w.posts.length).map PyData.int).map OD.p = ZZ at *
    generalize (foD w.folk) = FF at *
    generalize FF.map OD.p = F2 at *
    generalize (iN w.posts) = II at *
    generalize hI : II.map OD.p = I2 at *
    generalize barO w.bar = B2 at *
    generalize barD w.bar = BB at *
    simp [fz, wN_2, wN_4, wN_l, nl, hI, -frzs_cons]
  have s5 : (sSet 4 (eLst aNil)) [wO { w with mark := mn (waysL w.folk w.posts w.posts.length), bar := some w.posts }, iL (waysL w.folk w.posts w.posts.length), .h, .h, .h, .h] = .nx [wO { w with mark := mn (waysL w.folk w.posts w.posts.length), bar := some w.posts }, iL (waysL w.folk w.posts w.posts.length), .h, .h, .l [], .h] := by simp
  have s7 : (sFldS 0 "Watch" "chosen" (eMv 4)) [wO { w with mark := mn (waysL w.folk w.posts w.posts.length), bar := some w.posts }, iL (waysL w.folk w.posts w.posts.length), .h, .h, .l ((iN (leftOf w.folk (mn (waysL w.folk w.posts w.posts.length)) w.posts)).map .p), .h] = .nx [wO (thin w), iL (waysL w.folk w.posts w.posts.length), .h, .h, .h, .h] := by
    unfold thin
    generalize mn (waysL w.folk w.posts w.posts.length) = m at *
    simp only [wO, iL] at *
    generalize ((waysL w.folk w.posts w.posts.length).map PyData.int).map OD.p = ZZ at *
    generalize (foD w.folk).map OD.p = F2 at *
    generalize (iN w.posts).map OD.p = I2 at *
    generalize (iN (leftOf w.folk m w.posts)).map OD.p = LL at *
    generalize barO (some w.posts) = B2 at *
    simp [wN_2, wN_l]
  unfold φ_Watch_thin
  rw [fnOfBody_ap]
  show (match (sSeq (sSet 1 (eLst aNil)) _) [wO w, .h, .h, .h, .h, .h] with
    | .st => DL.R.st
    | .nx e => DL.R.ok (OD.p .none) (mask [0] e 1)
    | .rt d e => DL.R.ok d (mask [0] e 1)
    | .ex C f e => DL.R.ex C f (mask [0] e 1)) = _
  rw [seq_to s1 (seq_to l1 (seq_to s3 (seq_to s4 (seq_to s5 (seq_to l2 s7)))))]
  rfl
/-! ### one that comes -/
def newF (w : Wt) (x y : Int) : Wt := { w with folk := w.folk ++ [(x, y)] }
def laid (w : Wt) (x y : Int) : Wt := if farW (w.folk ++ [(x, y)]) w.mark w.folk.length w.posts then { newF w x y with posts := w.posts ++ [w.folk.length] } else newF w x y
def came (w : Wt) (x y : Int) : Wt := if w.many < ((laid w x y).posts.length : Int) then thin (laid w x y) else laid w x y
theorem foD_app (fs : List (Int × Int)) (x y : Int) : (foD (fs ++ [(x, y)])).map OD.p = (foD fs).map OD.p ++ [OD.p (.tuple [.int x, .int y])] := by simp [eF]
theorem iN_app (ps : List Nat) (n : Nat) : (iN (ps ++ [n])).map OD.p = (iN ps).map OD.p ++ [pI (n : Int)] := by simp
theorem come_t (w : Wt) (x y n : Int) : Watch_come_p1 [wO w, pI x, pI y, pI n] = .ok (decide (w.many < (w.posts.length : Int))) [wO w, pI x, pI y, pI n] := by
  have fz := frzs_w w
  have ln : gLen (.p (.list (iN w.posts))) = some (pI (w.posts.length : Int)) := by rw [gLen_list, List.length_map]
  simp only [wO] at *
  generalize (w.posts.length : Int) = L at *
  generalize (foD w.folk) = FF at *
  generalize FF.map OD.p = F2 at *
  generalize (iN w.posts) = II at *
  generalize II.map OD.p = I2 at *
  generalize barO w.bar = B2 at *
  generalize barD w.bar = BB at *
  simp [Watch_come_p1, fz, wN_0, wN_2, ln, -frzs_cons, -gLen_list]
theorem come_b {w : Wt} (x y n : Int) (h : φ_Watch_thin [wO w] = .ok (.p .none) [wO (thin w)]) : Watch_come_p0 [wO w, pI x, pI y, pI n] = .nx [wO (thin w), pI x, pI y, pI n] := by
  have ok1 : okR "Watch" "thin" (wO w) = true := by simp [wN_n]
  generalize thin w = w2 at *
  simp only [wO] at *
  generalize (foD w.folk).map OD.p = F2 at *
  generalize (iN w.posts).map OD.p = I2 at *
  generalize barO w.bar = B2 at *
  generalize (foD w2.folk).map OD.p = F3 at *
  generalize (iN w2.posts).map OD.p = I3 at *
  generalize barO w2.bar = B3 at *
  simp [Watch_come_p0, wN_n, h]
theorem come_ok {w : Wt} (x y : Int) (fl : w.folk.length ≤ 400) (pl : w.posts.length ≤ 90) (pv : ∀ p ∈ w.posts, p < w.folk.length)
    (hw : w.many < ((laid w x y).posts.length : Int) → waysL (laid w x y).folk (laid w x y).posts (laid w x y).posts.length ≠ [] ∧ ((thin (laid w x y)).posts.length : Int) ≤ w.many) :
    φ_Watch_come [wO w, pI x, pI y] = .ok (pI (w.folk.length : Int)) [wO (came w x y), pI x, pI y] := by
  have s1 : (sSet 3 (eLk 0 (eCall (c1 gLen) (vCons (eVal (eUn (gFld "Watch" "places") (eAt 0))) vNil)))) [wO w, pI x, pI y, .h] = .nx [wO w, pI x, pI y, pI (w.folk.length : Int)] := by
    have fz := frzs_w w
    have ln : gLen (.p (.list (foD w.folk))) = some (pI (w.folk.length : Int)) := by rw [gLen_list, List.length_map]
    simp only [wO] at *
    generalize (w.folk.length : Int) = L at *
    generalize (foD w.folk) = FF at *
    generalize FF.map OD.p = F2 at *
    generalize (iN w.posts) = II at *
    generalize II.map OD.p = I2 at *
    generalize barO w.bar = B2 at *
    generalize barD w.bar = BB at *
    simp [fz, wN_1, ln, -frzs_cons, -gLen_list]
  have s2 : (sExp (eMutP (pFld "Watch" "places" (pNm 0)) gAppend (aCons (eTup (aCons (eVar 1) (aCons (eVar 2) aNil))) aNil))) [wO w, pI x, pI y, pI (w.folk.length : Int)] = .nx [wO (newF w x y), pI x, pI y, pI (w.folk.length : Int)] := by
    have ll : ((foD w.folk).map OD.p).length < 100000 := by simp; omega
    have ea := foD_app w.folk x y
    simp only [wO, newF] at *
    rw [ea]
    generalize (w.folk.length : Int) = L at *
    generalize (foD w.folk).map OD.p = F2 at *
    generalize (iN w.posts).map OD.p = I2 at *
    generalize barO w.bar = B2 at *
    simp [wN_1, ll]
  have okn : ∀ p ∈ w.posts, p < (newF w x y).folk.length := fun p hp => by
    have := pv p hp
    show p < (w.folk ++ [(x, y)]).length
    simp; omega
  have fa := is_far_ok (newF w x y) (n := w.folk.length) (ps := w.posts) (x := .p (.list (iN w.posts))) (.inl rfl) (by show _ < (w.folk ++ [(x, y)]).length; simp) okn (by omega)
  rw [show farW (newF w x y).folk (newF w x y).mark w.folk.length w.posts = farW (w.folk ++ [(x, y)]) w.mark w.folk.length w.posts from rfl] at fa
  have s3 : (sIf (eB (eLk 0 (eMt "Watch" "is_far" φ_Watch_is_far (pNm 0) (lpCons (bSlot 3) (lpCons (bVal (eUn (gFld "Watch" "chosen") (eAt 0))) lpNil))))) (sExp (eMutP (pFld "Watch" "chosen" (pNm 0)) gAppend (aCons (eVar 3) aNil))) sNil) [wO (newF w x y), pI x, pI y, pI (w.folk.length : Int)] = .nx [wO (laid w x y), pI x, pI y, pI (w.folk.length : Int)] := by
    have fz := frzs_w (newF w x y)
    have ll : ((iN w.posts).map OD.p).length < 100000 := by simp; omega
    have ia := iN_app w.posts w.folk.length
    unfold laid
    cases hf : farW (w.folk ++ [(x, y)]) w.mark w.folk.length w.posts with
    | true =>
      rw [if_pos rfl]
      rw [hf] at fa
      simp only [wO, wF, newF] at *
      rw [ia]
      generalize (w.folk.length : Int) = L at *
      generalize (foD (w.folk ++ [(x, y)])) = FF at *
      generalize FF.map OD.p = F2 at *
      generalize (iN w.posts) = II at *
      generalize II.map OD.p = I2 at *
      generalize barO w.bar = B2 at *
      generalize barD w.bar = BB at *
      simp [fz, wN_2, wN_n, fa, ll, -frzs_cons]
    | false =>
      rw [if_neg Bool.false_ne_true]
      rw [hf] at fa
      simp only [wO, wF, newF] at *
      generalize (w.folk.length : Int) = L at *
      generalize (foD (w.folk ++ [(x, y)])) = FF at *
      generalize FF.map OD.p = F2 at *
      generalize (iN w.posts) = II at *
      generalize II.map OD.p = I2 at *
      generalize barO w.bar = B2 at *
      generalize barD w.bar = BB at *
      simp [fz, wN_2, wN_n, fa, -frzs_cons]
  have lm : (laid w x y).many = w.many := by unfold laid newF; split <;> rfl
  have lf : (laid w x y).folk = w.folk ++ [(x, y)] := by unfold laid newF; split <;> rfl
  have okl : Ok (laid w x y) := by
    refine ⟨by rw [lf]; simp; omega, ?_, fun p hp => ?_⟩
    · unfold laid newF; split
      · simp; omega
      · simp; omega
    · rw [lf]
      have : p ∈ w.posts ∨ p = w.folk.length := by
        unfold laid newF at hp
        split at hp
        · exact (List.mem_append.1 hp).imp_right List.mem_singleton.1
        · exact .inl hp
      rcases this with h | h
      · have := pv p h; simp; omega
      · simp; omega
  have ll2 : (laid w x y).posts.length ≤ 100 := by
    unfold laid newF; split
    · simp; omega
    · simp; omega
  have s4 : (sWhile (fun _ => 3) Watch_come_p1 Watch_come_p0) [wO (laid w x y), pI x, pI y, pI (w.folk.length : Int)] = .nx [wO (came w x y), pI x, pI y, pI (w.folk.length : Int)] := by
    rw [sWhile_ap]
    have t1 := come_t (laid w x y) x y (w.folk.length : Int)
    rw [lm] at t1
    unfold came
    by_cases c : w.many < ((laid w x y).posts.length : Int)
    · rw [if_pos c]
      obtain ⟨c1, c2⟩ := hw c
      have b1 := come_b x y (w.folk.length : Int) (thin_ok okl ll2 c1)
      have t2 := come_t (thin (laid w x y)) x y (w.folk.length : Int)
      rw [show (thin (laid w x y)).many = (laid w x y).many from rfl, lm] at t2
      rw [show decide (w.many < ((laid w x y).posts.length : Int)) = true by simpa using c] at t1
      rw [show decide (w.many < ((thin (laid w x y)).posts.length : Int)) = false by simpa using c2] at t2
      rw [whGo, t1, R.out_ok, if_pos rfl, b1, Out.seq_nx, whGo, t2, R.out_ok, if_neg Bool.false_ne_true]
    · rw [if_neg c]
      rw [show decide (w.many < ((laid w x y).posts.length : Int)) = false by simpa using c] at t1
      rw [whGo, t1, R.out_ok, if_neg Bool.false_ne_true]
  have s5 : (sRet (eMv 3)) [wO (came w x y), pI x, pI y, pI (w.folk.length : Int)] = .rt (pI (w.folk.length : Int)) [wO (came w x y), pI x, pI y, pI (w.folk.length : Int)] := by simp
  unfold φ_Watch_come
  rw [fnOfBody_ap]
  show (match (sSeq (sSet 3 (eLk 0 (eCall (c1 gLen) (vCons (eVal (eUn (gFld "Watch" "places") (eAt 0))) vNil)))) _) [wO w, pI x, pI y, .h] with
    | .st => DL.R.st
    | .nx e => DL.R.ok (OD.p .none) (mask [0, 1, 2] e 3)
    | .rt d e => DL.R.ok d (mask [0, 1, 2] e 3)
    | .ex C f e => DL.R.ex C f (mask [0, 1, 2] e 3)) = _
  rw [seq_to s1 (seq_to s2 (seq_to s3 (seq_to s4 s5)))]
  rfl
/-! a new one -/
def newW (many : Int) : Wt := ⟨many, [], [], 0, none⟩
theorem look_many_ok {many : Int} (h : 1 ≤ many) : φ_look_at_many [pI many] = .ok (.p .none) [pI many] := by
  have a : ¬ many < 1 := by omega
  simp [φ_look_at_many, fnOfBody_ap, a]
theorem init_ok {many : Int} (h : 1 ≤ many) : φ_Watch_init [.ob "Watch" [] [], pI many] = .ok (.p .none) [wO (newW many), pI many] := by
  have lk_ := look_many_ok h
  have n1 : ¬ (("many" : Str) = "places") ∧ ¬ (("many" : Str) = "chosen") ∧ ¬ (("many" : Str) = "least_way") ∧ ¬ (("many" : Str) = "barring") ∧ ¬ (("places" : Str) = "chosen") ∧ ¬ (("places" : Str) = "least_way") ∧ ¬ (("places" : Str) = "barring") ∧ ¬ (("chosen" : Str) = "least_way") ∧ ¬ (("chosen" : Str) = "barring") ∧ ¬ (("least_way" : Str) = "barring") := by decide +kernel
  obtain ⟨a1, a2, a3, a4, a5, a6, a7, a8, a9, a10⟩ := n1
  simp [φ_Watch_init, fnOfBody_ap, lk_, a1, a2, a3, a4, a5, a6, a7, a8, a9, a10, wO, newW, barO, wN]
/-! ### what holds of a watch -/
theorem sf_sym (p q : Int × Int) : sf p q = sf q p := by
  unfold sf big absI
  repeat' split <;> omega
theorem sf_self (p : Int × Int) : sf p p = 0 := by
  unfold sf big absI
  simp
theorem sf_nn (p q : Int × Int) : 0 ≤ sf p q := le_big.2 (.inl (absI_nn _))
theorem sf_tri (p q r : Int × Int) : sf p r ≤ sf p q + sf q r := by
  obtain ⟨a1, a2⟩ := big_le.1 (Int.le_refl (sf p q))
  obtain ⟨b1, b2⟩ := big_le.1 (Int.le_refl (sf q r))
  have c1 := absI_le.1 a1; have c2 := absI_le.1 a2; have c3 := absI_le.1 b1; have c4 := absI_le.1 b2
  exact big_le.2 ⟨absI_le.2 ⟨by omega, by omega⟩, absI_le.2 ⟨by omega, by omega⟩⟩
theorem wy_sym (fs) (i j : Nat) : wy fs i j = wy fs j i := sf_sym _ _
theorem wy_self (fs) (i : Nat) : wy fs i i = 0 := sf_self _
theorem wy_nn (fs) (i j : Nat) : 0 ≤ wy fs i j := sf_nn _ _
theorem wy_tri (fs) (i j k : Nat) : wy fs i k ≤ wy fs i j + wy fs j k := sf_tri _ _ _
theorem fk_app {fs : List (Int × Int)} {i : Nat} (h : i < fs.length) (q) : fk (fs ++ [q]) i = fk fs i := by
  unfold fk
  rw [List.getD_eq_getElem?_getD, List.getD_eq_getElem?_getD, List.getElem?_append_left h]
theorem fk_new (fs : List (Int × Int)) (q) : fk (fs ++ [q]) fs.length = q := by
  unfold fk
  rw [List.getD_eq_getElem?_getD, List.getElem?_append_right (Nat.le_refl _)]; simp
theorem wy_app {fs : List (Int × Int)} {i j : Nat} (h : i < fs.length) (h2 : j < fs.length) (q) : wy (fs ++ [q]) i j = wy fs i j := by
  unfold wy; rw [fk_app h, fk_app h2]
/-- of each two, the later one first -/
def PW (P : Nat → Nat → Prop) (ps : List Nat) : Prop := ∀ j, j < ps.length → ∀ i, i < j → P (ps.getD j 0) (ps.getD i 0)
theorem getD_app {ps : List Nat} {i : Nat} (h : i < ps.length) (l) : (ps ++ l).getD i 0 = ps.getD i 0 := by
  rw [List.getD_eq_getElem?_getD, List.getD_eq_getElem?_getD, List.getElem?_append_left h]
theorem getD_new (ps : List Nat) (n : Nat) : (ps ++ [n]).getD ps.length 0 = n := by
  rw [List.getD_eq_getElem?_getD, List.getElem?_append_right (Nat.le_refl _)]; simp
theorem getD_mem {ps : List Nat} {i : Nat} (h : i < ps.length) : ps.getD i 0 ∈ ps := by
  rw [List.getD_eq_getElem?_getD, List.getElem?_eq_getElem h]; exact List.getElem_mem h
theorem mem_getD {ps : List Nat} {p : Nat} (h : p ∈ ps) : ∃ i, i < ps.length ∧ ps.getD i 0 = p := by
  obtain ⟨i, hi, e⟩ := List.mem_iff_getElem.1 h
  exact ⟨i, hi, by rw [List.getD_eq_getElem?_getD, List.getElem?_eq_getElem hi]; exact e⟩
theorem PW.app {P : Nat → Nat → Prop} {ps : List Nat} {n : Nat} (h : PW P ps) (hn : ∀ p ∈ ps, P n p) : PW P (ps ++ [n]) := fun j hj i hi => by
  rw [List.length_append, List.length_singleton] at hj
  rcases Nat.lt_or_ge j ps.length with q | q
  · rw [getD_app q, getD_app (by omega)]; exact h j q i hi
  · have : j = ps.length := by omega
    subst this
    rw [getD_new, getD_app hi]; exact hn _ (getD_mem hi)
theorem PW.mono {P Q : Nat → Nat → Prop} {ps : List Nat} (h : PW P ps) (i : ∀ a ∈ ps, ∀ b ∈ ps, P a b → Q a b) : PW Q ps := fun j hj k hk => i _ (getD_mem hj) _ (getD_mem (by omega)) (h j hj k hk)
theorem waysL_mem {fs : List (Int × Int)} {ps : List Nat} {x : Int} : ∀ {n}, n ≤ ps.length → (x ∈ waysL fs ps n ↔ ∃ j, j < n ∧ ∃ i, i < j ∧ x = wy fs (ps.getD j 0) (ps.getD i 0))
  | 0, _ => ⟨fun h => (nomatch h), fun ⟨j, h, _⟩ => absurd h (Nat.not_lt_zero j)⟩
  | n + 1, hn => by
    have ih := waysL_mem (fs := fs) (ps := ps) (x := x) (n := n) (by omega)
    unfold waysL waysJ
    rw [List.mem_append, ih, List.mem_map]
    constructor
    · rintro (⟨j, hj, r⟩ | ⟨o, ho, e⟩)
      · exact ⟨j, by omega, r⟩
      · obtain ⟨i, hi, e2⟩ := mem_getD ho
        rw [List.length_take] at hi
        refine ⟨n, by omega, i, by omega, ?_⟩
        rw [← e, ← e2, List.getD_eq_getElem?_getD (l := ps.take n), List.getElem?_take, if_pos (by omega), ← List.getD_eq_getElem?_getD]
    · rintro ⟨j, hj, i, hi, e⟩
      rcases Nat.lt_or_ge j n with q | q
      · exact .inl ⟨j, q, i, hi, e⟩
      · have : j = n := by omega
        subst this
        refine .inr ⟨ps.getD i 0, ?_, e.symm⟩
        have : (ps.take j).getD i 0 ∈ ps.take j := getD_mem (by rw [List.length_take]; omega)
        rwa [List.getD_eq_getElem?_getD, List.getElem?_take, if_pos hi, ← List.getD_eq_getElem?_getD] at this
theorem keep_all (fs : List (Int × Int)) (m : Int) (m0 : 0 ≤ m) : ∀ (l acc : List Nat), PW (fun a b => 2 * m < wy fs a b) acc →
    (∃ S : List Nat, S.Sublist l ∧ l.foldl (keepF fs m) acc = acc ++ S) ∧ PW (fun a b => 2 * m < wy fs a b) (l.foldl (keepF fs m) acc) ∧ (∀ p ∈ l, ∃ r ∈ l.foldl (keepF fs m) acc, wy fs p r ≤ 2 * m)
  | [], acc, h => ⟨⟨[], List.Sublist.refl _, by simp⟩, h, fun _ h => nomatch h⟩
  | a :: l, acc, h => by
    rw [List.foldl_cons]
    cases hf : farW fs m a acc with
    | true =>
      have ke : keepF fs m acc a = acc ++ [a] := by unfold keepF; rw [hf]; rfl
      rw [ke]
      have hall : ∀ p ∈ acc, 2 * m < wy fs a p := fun p hp => of_decide_eq_true (List.all_eq_true.1 hf p hp)
      obtain ⟨⟨S, hs, e⟩, h2, h3⟩ := keep_all fs m m0 l (acc ++ [a]) (h.app hall)
      refine ⟨⟨a :: S, hs.cons_cons a, by rw [e]; simp⟩, h2, fun p hp => ?_⟩
      rcases List.mem_cons.1 hp with rfl | hp
      · exact ⟨p, by rw [e]; simp, by rw [wy_self]; omega⟩
      · exact h3 p hp
    | false =>
      have ke : keepF fs m acc a = acc := by unfold keepF; rw [hf]; rfl
      rw [ke]
      obtain ⟨⟨S, hs, e⟩, h2, h3⟩ := keep_all fs m m0 l acc h
      refine ⟨⟨S, hs.cons a, e⟩, h2, fun p hp => ?_⟩
      rcases List.mem_cons.1 hp with rfl | hp
      · have : ∃ r ∈ acc, ¬ 2 * m < wy fs p r := by
          refine Classical.byContradiction fun z => ?_
          have : farW fs m p acc = true := List.all_eq_true.2 fun r hr => decide_eq_true (Classical.byContradiction fun q => z ⟨r, hr, q⟩)
          rw [this] at hf; cases hf
        obtain ⟨r, hr, hq⟩ := this
        exact ⟨r, by rw [e]; exact List.mem_append_left _ hr, by omega⟩
      · exact h3 p hp
structure Inv (w : Wt) : Prop where
  many : 1 ≤ w.many
  pl : (w.posts.length : Int) ≤ w.many
  pn : w.posts.length ≤ w.folk.length
  pv : ∀ p ∈ w.posts, p < w.folk.length
  m0 : 0 ≤ w.mark
  ne : w.folk ≠ [] → w.posts ≠ []
  apart : PW (fun a b => 2 * w.mark < wy w.folk a b) w.posts
  near : ∀ n, n < w.folk.length → ∃ p ∈ w.posts, wy w.folk n p ≤ 4 * w.mark
  bar : (w.mark = 0 ∧ w.bar = none) ∨ (0 < w.mark ∧ ∃ B, w.bar = some B ∧ (B.length : Int) = w.many + 1 ∧ B.length ≤ w.folk.length ∧ (∀ p ∈ B, p < w.folk.length) ∧ PW (fun a b => w.mark ≤ wy w.folk a b) B)
theorem inv_new {many : Int} (h : 1 ≤ many) : Inv (newW many) := ⟨h, by simp [newW]; omega, by simp [newW], (fun _ h => nomatch h), Int.le_refl 0, fun h => absurd rfl h, (fun j hj => absurd hj (Nat.not_lt_zero j)), (fun n hn => absurd hn (Nat.not_lt_zero n)), .inl ⟨rfl, rfl⟩⟩
theorem laid_f (w : Wt) (x y : Int) : (laid w x y).many = w.many ∧ (laid w x y).folk = w.folk ++ [(x, y)] ∧ (laid w x y).mark = w.mark ∧ (laid w x y).bar = w.bar := by unfold laid newF; split <;> exact ⟨rfl, rfl, rfl, rfl⟩
/-- behind the laying: all but the number of posts -/
theorem laid_inv {w : Wt} (I : Inv w) (x y : Int) : ((laid w x y).posts.length : Int) ≤ w.many + 1 ∧ (laid w x y).posts.length ≤ w.folk.length + 1 ∧ (∀ p ∈ (laid w x y).posts, p < w.folk.length + 1) ∧ (laid w x y).posts ≠ [] ∧ PW (fun a b => 2 * w.mark < wy (w.folk ++ [(x, y)]) a b) (laid w x y).posts ∧ (∀ n, n < w.folk.length + 1 → ∃ p ∈ (laid w x y).posts, wy (w.folk ++ [(x, y)]) n p ≤ 4 * w.mark) := by
  have pl := I.pl; have pn := I.pn; have m0 := I.m0
  have ap : PW (fun a b => 2 * w.mark < wy (w.folk ++ [(x, y)]) a b) w.posts := I.apart.mono fun a ha b hb h => by rw [wy_app (I.pv a ha) (I.pv b hb)]; exact h
  have nr : ∀ n, n < w.folk.length → ∃ p ∈ w.posts, wy (w.folk ++ [(x, y)]) n p ≤ 4 * w.mark := fun n hn => by
    obtain ⟨p, hp, h⟩ := I.near n hn
    exact ⟨p, hp, by rw [wy_app hn (I.pv p hp)]; exact h⟩
  cases hf : farW (w.folk ++ [(x, y)]) w.mark w.folk.length w.posts with
  | true =>
    have e : (laid w x y).posts = w.posts ++ [w.folk.length] := by unfold laid newF; rw [hf]; rfl
    rw [e]
    refine ⟨by simp; omega, by simp; omega, fun p hp => ?_, by simp, ap.app fun p hp => of_decide_eq_true (List.all_eq_true.1 hf p hp), fun n hn => ?_⟩
    · rcases List.mem_append.1 hp with h | h
      · have := I.pv p h; omega
      · rw [List.mem_singleton.1 h]; omega
    · rcases Nat.lt_or_ge n w.folk.length with q | q
      · obtain ⟨p, hp, h⟩ := nr n q
        exact ⟨p, List.mem_append_left _ hp, h⟩
      · have : n = w.folk.length := by omega
        subst this
        exact ⟨w.folk.length, by simp, by rw [wy_self]; omega⟩
  | false =>
    have e : (laid w x y).posts = w.posts := by unfold laid newF; rw [hf]; rfl
    rw [e]
    have : ∃ r ∈ w.posts, ¬ 2 * w.mark < wy (w.folk ++ [(x, y)]) w.folk.length r := by
      refine Classical.byContradiction fun z => ?_
      have : farW (w.folk ++ [(x, y)]) w.mark w.folk.length w.posts = true := List.all_eq_true.2 fun r hr => decide_eq_true (Classical.byContradiction fun q => z ⟨r, hr, q⟩)
      rw [this] at hf; cases hf
    obtain ⟨r, hr, hq⟩ := this
    refine ⟨by omega, by omega, fun p hp => by have := I.pv p hp; omega, List.ne_nil_of_mem hr, ap, fun n hn => ?_⟩
    rcases Nat.lt_or_ge n w.folk.length with q | q
    · exact nr n q
    · have : n = w.folk.length := by omega
      subst this
      exact ⟨r, hr, by omega⟩
theorem bar_app {w : Wt} (I : Inv w) (x y : Int) : (w.mark = 0 ∧ w.bar = none) ∨ (0 < w.mark ∧ ∃ B, w.bar = some B ∧ (B.length : Int) = w.many + 1 ∧ B.length ≤ (w.folk ++ [(x, y)]).length ∧ (∀ p ∈ B, p < (w.folk ++ [(x, y)]).length) ∧ PW (fun a b => w.mark ≤ wy (w.folk ++ [(x, y)]) a b) B) := by
  rcases I.bar with h | ⟨h, B, e, l1, l2, v, a⟩
  · exact .inl h
  · exact .inr ⟨h, B, e, l1, by simp; omega, fun p hp => by have := v p hp; simp; omega, a.mono fun a ha b hb h => by rw [wy_app (v a ha) (v b hb)]; exact h⟩
theorem came_inv {w : Wt} (I : Inv w) (x y : Int) : Inv (came w x y) ∧ (came w x y).folk = w.folk ++ [(x, y)] ∧ (came w x y).many = w.many ∧
    (w.many < ((laid w x y).posts.length : Int) → waysL (laid w x y).folk (laid w x y).posts (laid w x y).posts.length ≠ [] ∧ ((thin (laid w x y)).posts.length : Int) ≤ w.many) := by
  obtain ⟨f1, f2, f3, f4⟩ := laid_f w x y
  obtain ⟨l1, l2, l3, l4, l5, l6⟩ := laid_inv I x y
  have hm := I.many; have m0 := I.m0
  by_cases c : w.many < ((laid w x y).posts.length : Int)
  · have e : came w x y = thin (laid w x y) := by unfold came; rw [if_pos c]
    have len : ((laid w x y).posts.length : Int) = w.many + 1 := by omega
    have two : 2 ≤ (laid w x y).posts.length := by omega
    have nz : waysL (laid w x y).folk (laid w x y).posts (laid w x y).posts.length ≠ [] := List.ne_nil_of_mem ((waysL_mem (Nat.le_refl _)).2 ⟨1, by omega, 0, by omega, rfl⟩)
    rw [e]
    unfold thin
    rw [f2] at nz ⊢
    rw [f1]
    generalize (laid w x y).posts = ps at *
    obtain ⟨j, hj, i, hi, ej⟩ := (waysL_mem (Nat.le_refl _)).1 (mn_mem nz)
    have ml : ∀ j, j < ps.length → ∀ i, i < j → mn (waysL (w.folk ++ [(x, y)]) ps ps.length) ≤ wy (w.folk ++ [(x, y)]) (ps.getD j 0) (ps.getD i 0) := fun j hj i hi => mn_le ((waysL_mem (Nat.le_refl _)).2 ⟨j, hj, i, hi, rfl⟩)
    have mg : 2 * w.mark < mn (waysL (w.folk ++ [(x, y)]) ps ps.length) := by rw [ej]; exact l5 j hj i hi
    generalize mn (waysL (w.folk ++ [(x, y)]) ps ps.length) = m at *
    obtain ⟨⟨S, hS, eS⟩, k1, k2⟩ := keep_all (w.folk ++ [(x, y)]) m (by omega) ps [] (fun j hj => absurd hj (Nat.not_lt_zero j))
    rw [List.nil_append] at eS
    rw [show ps.foldl (keepF (w.folk ++ [(x, y)]) m) [] = leftOf (w.folk ++ [(x, y)]) m ps from rfl] at eS k1 k2
    have few : (leftOf (w.folk ++ [(x, y)]) m ps).length < ps.length := by
      rw [eS]
      refine Nat.lt_of_le_of_ne hS.length_le fun z => ?_
      have := hS.eq_of_length z
      rw [this] at eS
      rw [eS] at k1
      have := k1 j hj i hi
      omega
    have sub : ∀ p ∈ leftOf (w.folk ++ [(x, y)]) m ps, p ∈ ps := fun p hp => hS.subset (by rw [← eS]; exact hp)
    refine ⟨⟨hm, by show ((leftOf (w.folk ++ [(x, y)]) m ps).length : Int) ≤ w.many; omega, by show (leftOf (w.folk ++ [(x, y)]) m ps).length ≤ (w.folk ++ [(x, y)]).length; simp; omega, fun p hp => by have := l3 p (sub p hp); show p < (w.folk ++ [(x, y)]).length; simp; omega, by show 0 ≤ m; omega, fun _ z => ?_, k1, fun n hn => ?_, .inr ⟨by show 0 < m; omega, ps, rfl, len, by show ps.length ≤ (w.folk ++ [(x, y)]).length; simp; omega, fun p hp => by have := l3 p hp; show p < (w.folk ++ [(x, y)]).length; simp; omega, ml⟩⟩, rfl, rfl, fun _ => ⟨nz, by show ((leftOf (w.folk ++ [(x, y)]) m ps).length : Int) ≤ w.many; omega⟩⟩
    · obtain ⟨p, hp⟩ := List.exists_mem_of_ne_nil _ l4
      obtain ⟨r, hr, _⟩ := k2 p hp
      rw [show leftOf (w.folk ++ [(x, y)]) m ps = [] from z] at hr
      cases hr
    · have hn : n < w.folk.length + 1 := by have : n < (w.folk ++ [(x, y)]).length := hn; simpa using this
      obtain ⟨p, hp, h1⟩ := l6 n hn
      obtain ⟨r, hr, h2⟩ := k2 p hp
      refine ⟨r, hr, ?_⟩
      have := wy_tri (w.folk ++ [(x, y)]) n p r
      show wy (w.folk ++ [(x, y)]) n r ≤ 4 * m
      omega
  · have e : came w x y = laid w x y := by unfold came; rw [if_neg c]
    rw [e]
    refine ⟨⟨by rw [f1]; exact hm, by rw [f1]; omega, by rw [f2]; simp; omega, fun p hp => by rw [f2]; have := l3 p hp; simp; omega, by rw [f3]; exact m0, fun _ => l4, by rw [f2, f3]; exact l5, fun n hn => by rw [f2] at hn ⊢; rw [f3]; exact l6 n (by simpa using hn), ?_⟩, f2, f1, fun z => absurd z c⟩
    rw [f1, f2, f3, f4]
    exact bar_app I x y
/-! ### a look by a method -/
theorem lk_len {env : Env'} {i : Nat} {x : OD} (h : lk env i = some x) : i < env.length := by
  obtain ⟨h1, _⟩ := lk_some h
  exact (List.getElem?_eq_some_iff.1 h1).1
theorem lk_put {env : Env'} {i : Nat} {x : OD} (h : i < env.length) (nx : x ≠ .h) : lk (env.set i x) i = some x := by
  unfold lk
  rw [List.getElem?_set_self h]
  cases x <;> first | rfl | exact absurd rfl nx
/-- a look by a method without arguments -/
theorem look0 {w : Wt} {i : Nat} {m : Str} {φ : Fn} {d : OD} {env : Env'} (hk : lk env i = some (wO w)) (hm : fIx m wN = none) (h : φ [wF w] = .ok d [wF w]) (nl : nlR d = true) : eLk i (eMt "Watch" m φ (pNm i) lpNil) env = .ok d env := by
  have hl := lk_len hk
  have k2 : lk ((env.map hidO).set i (wF w)) i = some (wF w) := lk_put (by rw [List.length_map]; exact hl) (fun z => nomatch z)
  rw [eLk_ap, hk]
  dsimp only
  rw [frzs_w]
  dsimp only
  rw [show (OD.fo "Watch" wN [.int w.many, .list (foD w.folk), .list (iN w.posts), .int w.mark, barD w.bar]) = wF w from rfl]
  generalize (env.map hidO).set i (wF w) = e2 at *
  have : eMt "Watch" m φ (pNm i) lpNil e2 = .ok d e2 := by
    simp only [wF] at *
    generalize foD w.folk = FF at *
    generalize iN w.posts = II at *
    generalize barD w.bar = BB at *
    simp [k2, hm, h]
  rw [this]
  dsimp only
  rw [if_pos nl]
/-! ### a place drawn -/
theorem place_ok {d m : Int} (hd : 0 ≤ d ∧ d < 1000003) (hm : 0 ≤ m ∧ m < 1000003) (R : List Int) : ∃ x y, φ_law_place [pu (d :: m :: R)] = .ok (.p (eF (x, y))) [pu R] := by
  have p1 := gPop_pl d (m :: R)
  have p2 := gPop_pl m R
  have m1 : DL.MulOk m 10000000000000000000000000 := mulOk_l _ (by omega) (by omega)
  have m2 : DL.MulOk d 10000000000000000000000000 := mulOk_l _ (by omega) (by omega)
  by_cases c : d % 16 = 1
  · refine ⟨m * 10000000000000000000000000 - 5000000000000000000000000000000, d * 10000000000000000000000000 - 5000000000000000000000000000000, ?_⟩
    simp only [pu] at *
    generalize pl (d :: m :: R) = P1 at *
    generalize pl (m :: R) = P2 at *
    generalize pl R = P3 at *
    simp [φ_law_place, fnOfBody_ap, p1, p2, c, m1, m2, eF]
  · have k2 := pick4 (r := d / 16 % 4) (by omega) 3 10 100 1000 (by omega)
    obtain ⟨s, hs, s0⟩ : ∃ s : Int, (if d / 16 % 4 = 0 then (3 : Int) else if d / 16 % 4 = 1 then 10 else if d / 16 % 4 = 2 then 100 else 1000) = s ∧ 0 < s := ⟨_, rfl, by repeat' split <;> omega⟩
    rw [hs] at k2
    refine ⟨d / 64 % s - s / 2, m % s - s / 2, ?_⟩
    simp only [pu] at *
    generalize pl (d :: m :: R) = P1 at *
    generalize pl (m :: R) = P2 at *
    generalize pl R = P3 at *
    simp [φ_law_place, fnOfBody_ap, p1, p2, c, k2, s0, eF]
/-! ### tables: of which class an error is -/
def clsT : List Str := ["NoMany", "NoPosts", "NoReach", "NoRing", "NoLine", "NoWord", "NoFolk", "NoPost", "NoTable", "NoWay", "NoThing", "NoText", "NoName"]
theorem law_classes_ok {D : Str} {f} (hD : D ∈ known) : φ_law_classes [.er D f] = .ok (.l (((clsT.map (erSub D)).map PyData.bool).map .p)) [.er D f] := by
  have g : ∀ T, gIsE known T (.er D f) = some (.p (.bool (erSub D T))) := fun T => gIsE_er _ _ _ _ hD
  simp only [clsT, List.map_cons, List.map_nil]
  simp [φ_law_classes, fnOfBody_ap, g]
theorem law_which_ok {D : Str} {f} (hD : D ∈ known) (j : Nat) (hb : clsT.map (erSub D) = (List.range 13).map fun i => decide (i = j)) (hj13 : j < 13) : φ_law_which [.er D f] = .ok (pI (j : Int)) [.er D f] := by
  have cl := law_classes_ok (f := f) hD
  have ve : gIsE known "ValueError" (.er D f) = some (.p (.bool true)) := by
    rw [gIsE_er _ _ _ _ hD]
    unfold erSub; simp
  have hi : gIxT (.l (((clsT.map (erSub D)).map PyData.bool).map .p)) = some (.p (.int (j : Int))) := by
    unfold gIxT
    rw [its_l]
    show (toBls _).bind _ = _
    rw [toBls_map, hb, Option.bind_some]
    have : ∀ j, j < 13 → ixTrue ((List.range 13).map fun i => decide (i = j)) = some j := by decide
    rw [this j hj13]; rfl
  have hc : gCntT (.l (((clsT.map (erSub D)).map PyData.bool).map .p)) = some (.p (.int 1)) := by
    unfold gCntT
    rw [its_l]
    show (toBls _).map _ = _
    rw [toBls_map, hb, Option.map_some]
    have : ∀ j, j < 13 → ((List.range 13).map fun i => decide (i = j)).count true = 1 := by decide
    rw [this j hj13]; rfl
  generalize ((clsT.map (erSub D)).map PyData.bool) = Z at *
  simp [φ_law_which, fnOfBody_ap, ve, cl, hc, hi]
/-! ### the model -/
def mK : List Str := ["many", "folk", "posts", "mark", "bar"]
theorem mK_0 : fIx "many" mK = some 0 := by decide +kernel
theorem mK_1 : fIx "folk" mK = some 1 := by decide +kernel
theorem mK_2 : fIx "posts" mK = some 2 := by decide +kernel
theorem mK_3 : fIx "mark" mK = some 3 := by decide +kernel
theorem mK_4 : fIx "bar" mK = some 4 := by decide +kernel
theorem mK_l : mK.length = 5 := rfl
abbrev mO (w : Wt) : OD := .dc mK [pI w.many, .p (.list (foD w.folk)), .p (.list (iN w.posts)), pI w.mark, .p (barD w.bar)]
section
variable (w : Wt)
theorem mway_ok {i j : Nat} (hi : i < w.folk.length) (hj : j < w.folk.length) : φ_law_way [mO w, pI (i : Int), pI (j : Int)] = .ok (pI (wy w.folk i j)) [mO w, pI (i : Int), pI (j : Int)] := by
  have i1 := ixF hi
  have i2 := ixF hj
  unfold wy sf big absI
  simp only [mO] at *
  generalize foD w.folk = FF at *
  generalize fk w.folk i = p at *
  generalize fk w.folk j = q at *
  simp [φ_law_way, fnOfBody_ap, mK_1, i1, i2, eF, prts, -gIx_list]
theorem farW_sel (fs : List (Int × Int)) (m : Int) (n : Nat) (ps : List Nat) : decide (ps.filter (fun p => decide (wy fs n p ≤ 2 * m)) = []) = farW fs m n ps := by
  rw [Bool.eq_iff_iff]
  unfold farW
  rw [decide_eq_true_iff, List.filter_eq_nil_iff, List.all_eq_true]
  constructor
  · intro h p hp
    have := h p hp
    simp at this ⊢; omega
  · intro h p hp
    have := h p hp
    simp at this ⊢; omega
end
/-! ### the model: is far, thinned -/
section
variable (w : Wt)
theorem mfar_ok {n : Nat} {ps : List Nat} {x : OD} (hx : IsL x (iN ps)) (hn : n < w.folk.length) (hp : ∀ p ∈ ps, p < w.folk.length) (hl : ps.length ≤ 1000) : φ_law_is_far [mO w, pI (n : Int), x] = .ok (.p (.bool (farW w.folk w.mark n ps))) [mO w, pI (n : Int), x] := by
  have lk2 : lk [mO w, pI (n : Int), x, .h] 2 = some x := hx.lk rfl
  have cp := lcGoA_sel (i := 2) (x0 := x) (js := [3]) (g := gNm 3) (t := law_is_far_p1) (f := law_is_far_p0) (fun p : Nat => PyData.int (p : Int)) (fun p => decide (wy w.folk n p ≤ 2 * w.mark)) (fun p : Nat => pI (p : Int)) [mO w, pI (n : Int), x, .h] lk2 ps fun p hq => by
    have wk := mway_ok w hn (hp p hq)
    refine ⟨[mO w, pI (n : Int), x, pI (p : Int)], [mO w, pI (n : Int), x, pI (p : Int)], rfl, ?_, fun _ => rfl, fun _ => ⟨[mO w, pI (n : Int), x, pI (p : Int)], rfl, rfl⟩⟩
    generalize wy w.folk n p = z at *
    simp only [mO] at *
    generalize foD w.folk = FF at *
    generalize iN w.posts = II at *
    generalize barD w.bar = BB at *
    simp [law_is_far_p1, mK_3, wk]
  have hit := hx.it
  have hn' : (iN ps).length ≤ 40000 := by rw [List.length_map]; omega
  have fs := farW_sel w.folk w.mark n ps
  have e0 : gEq (.l ((ps.filter fun p => decide (wy w.folk n p ≤ 2 * w.mark)).map fun p : Nat => pI (p : Int))) (.l []) = some (.p (.bool (farW w.folk w.mark n ps))) := by
    have h := IsL.eq0 (x := .l ((iN (ps.filter fun p => decide (wy w.folk n p ≤ 2 * w.mark))).map .p)) (ds := iN (ps.filter fun p => decide (wy w.folk n p ≤ 2 * w.mark))) (.inr rfl) 1 (nms_iff.2 fun d hd => by obtain ⟨n, _, rfl⟩ := List.mem_map.1 hd; rfl)
    rw [← fs]
    rw [List.map_map] at h
    refine (show gEq _ _ = _ from h).trans ?_
    simp
  rw [show ps.map (fun p : Nat => PyData.int (p : Int)) = iN ps from rfl] at cp
  generalize (ps.filter fun p => decide (wy w.folk n p ≤ 2 * w.mark)).map (fun p : Nat => pI (p : Int)) = Z at *
  generalize iN ps = PP at *
  generalize farW w.folk w.mark n ps = b at *
  simp only [mO] at *
  generalize foD w.folk = FF at *
  generalize iN w.posts = II at *
  generalize barD w.bar = BB at *
  simp [φ_law_is_far, fnOfBody_ap, lk2, hit, hn', hol, cp, e0]
end
section
variable {w : Wt} (ok : Ok w)
include ok
theorem mthin_l1 (h1 : w.posts.length ≤ 100) (z y : OD) : (sFor (iArgs rng1 (vCons (eVal (eCall (c1 gLen) (vCons (eVal (ePl (pKey (qC (.str "posts")) (pNm 0)))) vNil))) vNil)) (gNm 2) law_thinned_p1) [mO w, .l [], .h, .h, .h] = .nx [mO w, iL (waysL w.folk w.posts w.posts.length), .h, .h, .h] := by
  have fl := ok.fl; have pl := ok.pl
  obtain ⟨e', lp, he⟩ := forGo_rng0 (g := gNm 2) (f := law_thinned_p1) w.posts.length (fun j e => e = [mO w, iL (waysL w.folk w.posts j), .h, .h, .h]) [mO w, .l [], .h, .h, .h] rfl fun j hj e he => by
    subst he
    refine ⟨_, _, rfl, ?_, rfl⟩
    have gd : w.posts.getD j 0 = w.posts[j] := by simp [hj]
    have ix := (show gIx (.p (.list (iN w.posts))) (pI (j : Int)) = some (pI (w.posts[j] : Int)) by rw [gIx_list, atI_n, List.getElem?_map, List.getElem?_eq_getElem hj]; rfl)
    have cp := lcGo_enc (js := [4]) (g := gNm 4) (t := tYs) (f := law_thinned_p0) (fun p : Nat => PyData.int (p : Int)) (fun p => pI (wy w.folk w.posts[j] p)) [mO w, iL (waysL w.folk w.posts j), pI (j : Int), .h, .h] (w.posts.take j) fun p hp => by
      have wk := mway_ok w (ok.pv _ (List.getElem_mem hj)) (ok.pv p (List.mem_of_mem_take hp))
      refine ⟨[mO w, iL (waysL w.folk w.posts j), pI (j : Int), .h, pI (p : Int)], [mO w, iL (waysL w.folk w.posts j), pI (j : Int), .h, pI (p : Int)], [mO w, iL (waysL w.folk w.posts j), pI (j : Int), .h, pI (p : Int)], rfl, rfl, ?_, rfl⟩
      generalize wy w.folk w.posts[j] p = z at *
      generalize (w.posts[j] : Int) = q at *
      simp only [mO, iL] at *
      generalize foD w.folk = FF at *
      generalize iN w.posts = II at *
      generalize barD w.bar = BB at *
      generalize ((waysL w.folk w.posts j).map PyData.int).map OD.p = LL at *
      simp [law_thinned_p0, mK_2, ix, wk, -gIx_list]
    have sl : cut (iN w.posts) none (some (j : Int)) = iN (w.posts.take j) := by rw [cut_toN]; exact List.map_take.symm
    have tl : (iN (w.posts.take j)).length ≤ 40000 := by simp; omega
    have zl := waysL_len w.folk w.posts h1 j (by omega)
    have zj : (waysJ w.folk w.posts j).length ≤ 100 := by unfold waysJ; rw [List.length_map, List.length_take]; omega
    have ad : gAdd (iL (waysL w.folk w.posts j)) (.l ((w.posts.take j).map fun p => pI (wy w.folk w.posts[j] p))) = some (iL (waysL w.folk w.posts (j + 1))) := by
      rw [show (w.posts.take j).map (fun p => pI (wy w.folk w.posts[j] p)) = ((waysJ w.folk w.posts j).map PyData.int).map .p by unfold waysJ; rw [gd, List.map_map, List.map_map]; rfl]
      rw [show waysL w.folk w.posts (j + 1) = waysL w.folk w.posts j ++ waysJ w.folk w.posts j from rfl]
      unfold iL
      rw [gAdd_ll, gCat_ap, its_l, its_l]
      dsimp only
      rw [if_pos (by simp; omega), List.map_append (f := PyData.int)]
    rw [show (w.posts.take j).map (fun p : Nat => PyData.int (p : Int)) = iN (w.posts.take j) from rfl] at cp
    have it := its_l (iN (w.posts.take j))
    generalize (w.posts.take j).map (fun p => pI (wy w.folk w.posts[j] p)) = Z at *
    simp only [mO, iL] at *
    generalize foD w.folk = FF at *
    generalize iN w.posts = II at *
    generalize barD w.bar = BB at *
    generalize ((waysL w.folk w.posts (j + 1)).map PyData.int).map OD.p = LL2 at *
    generalize ((waysL w.folk w.posts j).map PyData.int).map OD.p = LL at *
    generalize iN (w.posts.take j) = TT at *
    simp [law_thinned_p1, mK_2, sl, tl, hol, cp, ad, -gAdd_ll]
  subst he
  have ln : gLen (.p (.list (iN w.posts))) = some (pI (w.posts.length : Int)) := by rw [gLen_list, List.length_map]
  have rg := rng1_nat (n := w.posts.length) (by omega)
  simp only [mO, iL] at *
  generalize foD w.folk = FF at *
  generalize iN w.posts = II at *
  generalize barD w.bar = BB at *
  generalize ((waysL w.folk w.posts w.posts.length).map PyData.int).map OD.p = LL2 at *
  generalize (w.posts.length : Int) = L at *
  simp [mK_2, ln, rg, lp, -gLen_list]
end
/-! ### the model: thinned, one that comes, how far -/
section
variable {w : Wt} (ok : Ok w)
include ok
theorem mthin_l2 (z : OD) : (sFor (iSeq (ePl (pKey (qC (.str "posts")) (pNm 0)))) (gNm 4) law_thinned_p2) [mO w, z, .h, .l [], .h] = .nx [mO w, z, .h, .l ((iN (leftOf w.folk w.mark w.posts)).map .p), .h] := by
  have fl := ok.fl; have pl := ok.pl
  obtain ⟨e', lp, he⟩ := forGo_ix (g := gNm 4) (f := law_thinned_p2) (iN w.posts) (fun j e => e = [mO w, z, .h, .l ((iN ((w.posts.take j).foldl (keepF w.folk w.mark) [])).map .p), .h]) [mO w, z, .h, .l [], .h] rfl fun j hj e he => by
    subst he
    rw [List.length_map] at hj
    rw [iN_at hj]
    have ks := keep_sub w.folk w.mark (w.posts.take j) []
    have kv : ∀ p ∈ (w.posts.take j).foldl (keepF w.folk w.mark) [], p < w.folk.length := fun p hp => by
      rcases ks.1 p hp with h | h
      · cases h
      · exact ok.pv p (List.mem_of_mem_take h)
    have kl : ((w.posts.take j).foldl (keepF w.folk w.mark) []).length ≤ 500 := by
      have := ks.2
      rw [List.length_take] at this
      simp at this; omega
    have tk : (w.posts.take (j + 1)).foldl (keepF w.folk w.mark) [] = keepF w.folk w.mark ((w.posts.take j).foldl (keepF w.folk w.mark) []) w.posts[j] := by
      rw [List.take_add_one, List.getElem?_eq_getElem hj, List.foldl_append]; rfl
    have fa := mfar_ok w (x := .l ((iN ((w.posts.take j).foldl (keepF w.folk w.mark) [])).map .p)) (.inr rfl) (ok.pv _ (List.getElem_mem hj)) kv (by omega)
    rw [tk]
    generalize (w.posts.take j).foldl (keepF w.folk w.mark) [] = L at *
    have ad : gAdd (.l ((iN L).map .p)) (.l [pI (w.posts[j] : Int)]) = some (.l ((iN (L ++ [w.posts[j]])).map .p)) := by
      rw [show OD.l [pI (w.posts[j] : Int)] = .l ([PyData.int (w.posts[j] : Int)].map .p) from rfl, gAdd_ll, gCat_ap, its_l, its_l]
      dsimp only
      rw [if_pos (by simp; omega)]
      simp
    refine ⟨[mO w, z, .h, .l ((iN L).map .p), pI (w.posts[j] : Int)], [mO w, z, .h, .l ((iN (keepF w.folk w.mark L w.posts[j])).map .p), .h], rfl, ?_, rfl⟩
    unfold keepF
    cases hf : farW w.folk w.mark w.posts[j] L with
    | true =>
      rw [if_pos rfl]
      rw [hf] at fa
      generalize (iN (L ++ [w.posts[j]])).map OD.p = LL2 at *
      generalize (iN L).map OD.p = LL at *
      generalize (w.posts[j] : Int) = q at *
      simp only [mO] at *
      generalize foD w.folk = FF at *
      generalize iN w.posts = II at *
      generalize barD w.bar = BB at *
      simp [law_thinned_p2, fa, ad, -gAdd_ll]
    | false =>
      rw [if_neg Bool.false_ne_true]
      rw [hf] at fa
      generalize (iN L).map OD.p = LL at *
      generalize (w.posts[j] : Int) = q at *
      simp only [mO] at *
      generalize foD w.folk = FF at *
      generalize iN w.posts = II at *
      generalize barD w.bar = BB at *
      simp [law_thinned_p2, fa]
  subst he
  rw [List.length_map, List.take_length, show w.posts.foldl (keepF w.folk w.mark) [] = leftOf w.folk w.mark w.posts from rfl] at lp
  have hn' : (iN w.posts).length ≤ 40000 := by rw [List.length_map]; omega
  simp only [mO] at *
  generalize (iN (leftOf w.folk w.mark w.posts)).map OD.p = LL at *
  generalize (foD w.folk) = FF at *
  generalize (iN w.posts) = II at *
  generalize barD w.bar = BB at *
  simp [mK_2, hn', hol, lp]
end
theorem mthin_ok {w : Wt} (ok : Ok w) (h1 : w.posts.length ≤ 100) (h2 : waysL w.folk w.posts w.posts.length ≠ []) : φ_law_thinned [mO w] = .ok (.p .none) [mO (thin w)] := by
  have l1 := mthin_l1 ok h1 .h .h
  have mi := gMin1_iL h2
  have ok2 : Ok { w with mark := mn (waysL w.folk w.posts w.posts.length), bar := some w.posts } := ⟨ok.fl, ok.pl, ok.pv⟩
  have l2 := mthin_l2 ok2 (iL (waysL w.folk w.posts w.posts.length))
  have s1 : (sSet 1 (eLst aNil)) [mO w, .h, .h, .h, .h] = .nx [mO w, .l [], .h, .h, .h] := by simp
  have s3 : (sKey (pNm 0) (qC (.str "mark")) (eFz (eCall (c1 gMin1) (vCons (eAt 1) vNil)))) [mO w, iL (waysL w.folk w.posts w.posts.length), .h, .h, .h] = .nx [mO { w with mark := mn (waysL w.folk w.posts w.posts.length) }, iL (waysL w.folk w.posts w.posts.length), .h, .h, .h] := by
    generalize mn (waysL w.folk w.posts w.posts.length) = m at *
    simp only [mO, iL] at *
    generalize ((waysL w.folk w.posts w.posts.length).map PyData.int).map OD.p = ZZ at *
    generalize (foD w.folk) = F2 at *
    generalize (iN w.posts) = I2 at *
    generalize barD w.bar = B2 at *
    simp [mi, mK_3, mK_l, putD]
  have s4 : (sKey (pNm 0) (qC (.str "bar")) (ePl (pKey (qC (.str "posts")) (pNm 0)))) [mO { w with mark := mn (waysL w.folk w.posts w.posts.length) }, iL (waysL w.folk w.posts w.posts.length), .h, .h, .h] = .nx [mO { w with mark := mn (waysL w.folk w.posts w.posts.length), bar := some w.posts }, iL (waysL w.folk w.posts w.posts.length), .h, .h, .h] := by
    have eb : barD (some w.posts) = .list (iN w.posts) := rfl
    generalize mn (waysL w.folk w.posts w.posts.length) = m at *
    simp only [mO, iL, eb] at *
    generalize ((waysL w.folk w.posts w.posts.length).map PyData.int).map OD.p = ZZ at *
    generalize (foD w.folk) = FF at *
    generalize (iN w.posts) = II at *
    generalize barD w.bar = BB at *
    simp [mK_2, mK_4, mK_l, putD]
  have s5 : (sSet 3 (eLst aNil)) [mO { w with mark := mn (waysL w.folk w.posts w.posts.length), bar := some w.posts }, iL (waysL w.folk w.posts w.posts.length), .h, .h, .h] = .nx [mO { w with mark := mn (waysL w.folk w.posts w.posts.length), bar := some w.posts }, iL (waysL w.folk w.posts w.posts.length), .h, .l [], .h] := by simp
  have s7 : (sKey (pNm 0) (qC (.str "posts")) (eVar 3)) [mO { w with mark := mn (waysL w.folk w.posts w.posts.length), bar := some w.posts }, iL (waysL w.folk w.posts w.posts.length), .h, .l ((iN (leftOf w.folk (mn (waysL w.folk w.posts w.posts.length)) w.posts)).map .p), .h] = .nx [mO (thin w), iL (waysL w.folk w.posts w.posts.length), .h, .p (.list (iN (leftOf w.folk (mn (waysL w.folk w.posts w.posts.length)) w.posts))), .h] := by
    unfold thin
    generalize mn (waysL w.folk w.posts w.posts.length) = m at *
    have fz := frz_lp (iN (leftOf w.folk m w.posts))
    simp only [mO, iL] at *
    generalize ((waysL w.folk w.posts w.posts.length).map PyData.int).map OD.p = ZZ at *
    generalize (foD w.folk) = F2 at *
    generalize (iN w.posts) = I2 at *
    generalize (iN (leftOf w.folk m w.posts)) = L1 at *
    generalize L1.map OD.p = LL at *
    generalize barD (some w.posts) = B2 at *
    simp [mK_2, mK_l, putD, fz, -frz_l]
  unfold φ_law_thinned
  rw [fnOfBody_ap]
  show (match (sSeq (sSet 1 (eLst aNil)) _) [mO w, .h, .h, .h, .h] with
    | .st => DL.R.st
    | .nx e => DL.R.ok (OD.p .none) (mask [0] e 1)
    | .rt d e => DL.R.ok d (mask [0] e 1)
    | .ex C f e => DL.R.ex C f (mask [0] e 1)) = _
  rw [seq_to s1 (seq_to l1 (seq_to s3 (seq_to s4 (seq_to s5 (seq_to l2 s7)))))]
  rfl
theorem mcome_ok {w : Wt} (x y : Int) (fl : w.folk.length ≤ 400) (pl : w.posts.length ≤ 90) (pv : ∀ p ∈ w.posts, p < w.folk.length)
    (hw : w.many < ((laid w x y).posts.length : Int) → waysL (laid w x y).folk (laid w x y).posts (laid w x y).posts.length ≠ []) :
    φ_law_come [mO w, .p (eF (x, y))] = .ok (pI (w.folk.length : Int)) [mO (came w x y), .p (eF (x, y))] := by
  have s1 : (sSet 2 (eCall (c1 gLen) (vCons (eVal (ePl (pKey (qC (.str "folk")) (pNm 0)))) vNil))) [mO w, .p (eF (x, y)), .h] = .nx [mO w, .p (eF (x, y)), pI (w.folk.length : Int)] := by
    have ln : gLen (.p (.list (foD w.folk))) = some (pI (w.folk.length : Int)) := by rw [gLen_list, List.length_map]
    simp only [mO] at *
    generalize (w.folk.length : Int) = L at *
    generalize (foD w.folk) = FF at *
    generalize (iN w.posts) = II at *
    generalize barD w.bar = BB at *
    simp [mK_1, ln, -gLen_list]
  have s2 : (sKey (pNm 0) (qC (.str "folk")) (eFz (eBin gAdd (eVal (ePl (pKey (qC (.str "folk")) (pNm 0)))) (eVal (eLst (aCons (eVar 1) aNil)))))) [mO w, .p (eF (x, y)), pI (w.folk.length : Int)] = .nx [mO (newF w x y), .p (eF (x, y)), pI (w.folk.length : Int)] := by
    have ad : gAdd (.p (.list (foD w.folk))) (.l [.p (eF (x, y))]) = some (.l ((foD (w.folk ++ [(x, y)])).map .p)) := by
      rw [show OD.l [.p (eF (x, y))] = .l ([eF (x, y)].map .p) from rfl, gAdd_pl, gCat_ap, its_list, its_l]
      dsimp only
      rw [if_pos (by simp; omega)]
      simp
    have fz := frz_lp (foD (w.folk ++ [(x, y)]))
    simp only [mO, newF] at *
    generalize (w.folk.length : Int) = L at *
    generalize eF (x, y) = E at *
    generalize (foD (w.folk ++ [(x, y)])) = F3 at *
    generalize F3.map OD.p = F4 at *
    generalize (foD w.folk) = F2 at *
    generalize (iN w.posts) = I2 at *
    generalize barD w.bar = B2 at *
    simp [mK_1, mK_l, putD, ad, fz, -gAdd_pl, -frz_l]
  have okn : ∀ p ∈ w.posts, p < (newF w x y).folk.length := fun p hp => by
    have := pv p hp
    show p < (w.folk ++ [(x, y)]).length
    simp; omega
  have fa := mfar_ok (newF w x y) (n := w.folk.length) (ps := w.posts) (x := .p (.list (iN w.posts))) (.inl rfl) (by show _ < (w.folk ++ [(x, y)]).length; simp) okn (by omega)
  rw [show farW (newF w x y).folk (newF w x y).mark w.folk.length w.posts = farW (w.folk ++ [(x, y)]) w.mark w.folk.length w.posts from rfl] at fa
  have lp : (laid w x y).posts.length ≤ 100 := by unfold laid newF; split <;> simp <;> omega
  have s3 : (sIf (eB (eFn φ_law_is_far (bLate 0 (bCons (bSlot 2) (bCons (bVal (ePl (pKey (qC (.str "posts")) (pNm 0)))) bNil))))) (sKey (pNm 0) (qC (.str "posts")) (eFz (eBin gAdd (eVal (ePl (pKey (qC (.str "posts")) (pNm 0)))) (eVal (eLst (aCons (eVar 2) aNil)))))) sNil) [mO (newF w x y), .p (eF (x, y)), pI (w.folk.length : Int)] = .nx [mO (laid w x y), .p (eF (x, y)), pI (w.folk.length : Int)] := by
    have ad : gAdd (.p (.list (iN w.posts))) (.l [pI (w.folk.length : Int)]) = some (.l ((iN (w.posts ++ [w.folk.length])).map .p)) := by
      rw [show OD.l [pI (w.folk.length : Int)] = .l ([PyData.int (w.folk.length : Int)].map .p) from rfl, gAdd_pl, gCat_ap, its_list, its_l]
      dsimp only
      rw [if_pos (by simp; omega)]
      simp
    have fz := frz_lp (iN (w.posts ++ [w.folk.length]))
    unfold laid
    cases hf : farW (w.folk ++ [(x, y)]) w.mark w.folk.length w.posts with
    | true =>
      rw [if_pos rfl]
      rw [hf] at fa
      simp only [mO, newF] at *
      generalize (w.folk.length : Int) = L at *
      generalize eF (x, y) = E at *
      generalize (foD (w.folk ++ [(x, y)])) = FF at *
      generalize (iN (w.posts ++ [w.folk.length])) = I3 at *
      generalize I3.map OD.p = I4 at *
      generalize (iN w.posts) = II at *
      generalize barD w.bar = BB at *
      simp [mK_2, mK_l, putD, fa, ad, fz, -gAdd_pl, -frz_l]
    | false =>
      rw [if_neg Bool.false_ne_true]
      rw [hf] at fa
      simp only [mO, newF] at *
      generalize (w.folk.length : Int) = L at *
      generalize eF (x, y) = E at *
      generalize (foD (w.folk ++ [(x, y)])) = FF at *
      generalize (iN w.posts) = II at *
      generalize barD w.bar = BB at *
      simp [mK_2, fa]
  have lm : (laid w x y).many = w.many := by unfold laid newF; split <;> rfl
  have lf : (laid w x y).folk = w.folk ++ [(x, y)] := by unfold laid newF; split <;> rfl
  have lv : ∀ p ∈ (laid w x y).posts, p < (laid w x y).folk.length := fun p hp => by
    rw [lf]
    unfold laid newF at hp
    split at hp
    · rcases List.mem_append.1 hp with h | h
      · have := pv p h; simp; omega
      · rw [List.mem_singleton.1 h]; simp
    · have := pv p hp; simp; omega
  have s4 : (sIf (eB (eBin gGt (eVal (eCall (c1 gLen) (vCons (eVal (ePl (pKey (qC (.str "posts")) (pNm 0)))) vNil))) (eVal (ePl (pKey (qC (.str "many")) (pNm 0)))))) (sExp (eFn φ_law_thinned (bCons (bSlot 0) bNil))) sNil) [mO (laid w x y), .p (eF (x, y)), pI (w.folk.length : Int)] = .nx [mO (came w x y), .p (eF (x, y)), pI (w.folk.length : Int)] := by
    have ln : gLen (.p (.list (iN (laid w x y).posts))) = some (pI ((laid w x y).posts.length : Int)) := by rw [gLen_list, List.length_map]
    unfold came
    by_cases c : w.many < ((laid w x y).posts.length : Int)
    · have th := mthin_ok (w := laid w x y) ⟨by rw [lf]; simp; omega, by omega, lv⟩ lp (hw c)
      rw [if_pos c]
      rw [← lm] at c
      generalize thin (laid w x y) = w2 at *
      generalize laid w x y = w1 at *
      simp only [mO] at *
      generalize eF (x, y) = E at *
      generalize (w1.posts.length : Int) = L at *
      generalize (foD w1.folk) = FF at *
      generalize (iN w1.posts) = II at *
      generalize barD w1.bar = BB at *
      generalize (foD w2.folk) = FF2 at *
      generalize (iN w2.posts) = II2 at *
      generalize barD w2.bar = BB2 at *
      simp [mK_2, mK_0, ln, c, th, -gLen_list]
    · rw [if_neg c]
      rw [← lm] at c
      generalize laid w x y = w1 at *
      simp only [mO] at *
      generalize eF (x, y) = E at *
      generalize (w1.posts.length : Int) = L at *
      generalize (foD w1.folk) = FF at *
      generalize (iN w1.posts) = II at *
      generalize barD w1.bar = BB at *
      simp [mK_2, mK_0, ln, c, -gLen_list]
  have s5 : (sRet (eMv 2)) [mO (came w x y), .p (eF (x, y)), pI (w.folk.length : Int)] = .rt (pI (w.folk.length : Int)) [mO (came w x y), .p (eF (x, y)), pI (w.folk.length : Int)] := by simp
  unfold φ_law_come
  rw [fnOfBody_ap]
  show (match (sSeq _ _) [mO w, .p (eF (x, y)), .h] with
    | .st => DL.R.st
    | .nx e => DL.R.ok (OD.p .none) (mask [0, 1] e 2)
    | .rt d e => DL.R.ok d (mask [0, 1] e 2)
    | .ex C f e => DL.R.ex C f (mask [0, 1] e 2)) = _
  rw [seq_to s1 (seq_to s2 (seq_to s3 (seq_to s4 s5)))]
  rfl
/-! ### a watch is as its model -/
theorem whole_ok (z : Int) : φ_law_whole [pI z] = .ok (.p (.bool true)) [pI z] := by simp [φ_law_whole, fnOfBody_ap]
theorem wholes_ok {x : OD} {zs : List Int} (hx : IsL x (zs.map .int)) (hl : zs.length ≤ 1000) : φ_law_wholes [x] = .ok (.p (.bool true)) [x] := by
  have lk0 : lk [x, .h] 0 = some x := hx.lk rfl
  have cp := lcGoA_sel (i := 0) (x0 := x) (js := [1]) (g := gNm 1) (t := law_wholes_p1) (f := law_wholes_p0) PyData.int (fun _ => false) (fun _ : Int => .h) [x, .h] lk0 zs fun z _ => by
    refine ⟨[x, pI z], [x, pI z], rfl, ?_, fun _ => rfl, fun h => nomatch h⟩
    have := whole_ok z
    simp [law_wholes_p1, this]
  have hit := hx.it
  have hn' : (zs.map PyData.int).length ≤ 40000 := by rw [List.length_map]; omega
  rw [show (zs.filter fun _ => false).map (fun _ : Int => OD.h) = [] by simp] at cp
  have isl : gIsi "list" x = some (.p (.bool true)) := by
    rcases hx with h | h <;> subst h <;> simp
  generalize zs.map PyData.int = ZZ at *
  simp [φ_law_wholes, fnOfBody_ap, lk0, hit, hn', hol, cp, isl]
section
variable {w : Wt} (ok : Ok w)
include ok
theorem mreach_ok (ne : w.folk ≠ [] → w.posts ≠ []) : φ_law_far [mO w] = .ok (pI (rchW w.folk w.posts)) [mO w] := by
  have fl := ok.fl; have pl := ok.pl
  have lp := forGo_fold (g := gNm 2) (f := law_far_p1) (fun n : Nat => PyData.int (n : Int)) (fun a : Int => [mO w, pI a, .h, .h]) (fun a n => big a (mn (w.posts.map fun p => wy w.folk n p))) (fun _ => True) (List.range w.folk.length) 0 trivial fun a n _ hn => ⟨trivial, by
    have hn := List.mem_range.1 hn
    have pn := ne (fun z => by rw [z] at hn; exact absurd hn (Nat.not_lt_zero n))
    have cp := lcGo_enc (js := [3]) (g := gNm 3) (t := tYs) (f := law_far_p0) (fun p : Nat => PyData.int (p : Int)) (fun p => pI (wy w.folk n p)) [mO w, pI a, pI (n : Int), .h] w.posts fun p hp => by
      have wk := mway_ok w hn (ok.pv p hp)
      refine ⟨[mO w, pI a, pI (n : Int), pI (p : Int)], [mO w, pI a, pI (n : Int), pI (p : Int)], [mO w, pI a, pI (n : Int), pI (p : Int)], rfl, rfl, ?_, rfl⟩
      generalize wy w.folk n p = z at *
      simp only [mO] at *
      generalize foD w.folk = FF at *
      generalize iN w.posts = II at *
      generalize barD w.bar = BB at *
      simp [law_far_p0, wk]
    have il : (iN w.posts).length ≤ 40000 := by rw [List.length_map]; omega
    have mi := gMin1_iL (zs := w.posts.map fun p => wy w.folk n p) (fun z => pn (List.map_eq_nil_iff.1 z))
    rw [iL_fn, List.map_map] at mi
    rw [show ((fun n => OD.p (PyData.int n)) ∘ fun p => wy w.folk n p) = fun p => pI (wy w.folk n p) from rfl] at mi
    refine ⟨[mO w, pI a, pI (n : Int), .h], rfl, ?_⟩
    rw [show w.posts.map (fun p : Nat => PyData.int (p : Int)) = iN w.posts from rfl] at cp
    unfold big
    generalize mn (w.posts.map fun p => wy w.folk n p) = m at *
    generalize (w.posts.map fun p => pI (wy w.folk n p)) = Z at *
    simp only [mO] at *
    generalize foD w.folk = FF at *
    generalize iN w.posts = II at *
    generalize barD w.bar = BB at *
    simp [law_far_p1, mK_2, il, hol, cp, mi]⟩
  obtain ⟨lp, _⟩ := lp
  have ln : gLen (.p (.list (foD w.folk))) = some (pI (w.folk.length : Int)) := by rw [gLen_list, List.length_map]
  have rg := rng1_nat (n := w.folk.length) (by omega)
  have re : rngL 0 w.folk.length = (List.range w.folk.length).map fun n : Nat => PyData.int (n : Int) := by
    apply List.ext_getElem?
    intro j
    by_cases hj : j < w.folk.length
    · rw [List.getElem?_map, List.getElem?_range hj]
      have h2 : j < (rngL 0 w.folk.length).length := by rw [rngL_len]; exact hj
      rw [List.getElem?_eq_getElem h2, (rngL_get (List.getElem?_eq_getElem h2)).2]
      simp
    · rw [List.getElem?_eq_none (by rw [rngL_len]; omega), List.getElem?_eq_none (by simp; omega)]
  rw [← re] at lp
  rw [show (List.range w.folk.length).foldl (fun a n => big a (mn (w.posts.map fun p => wy w.folk n p))) 0 = rchW w.folk w.posts from rfl] at lp
  generalize rchW w.folk w.posts = r at *
  generalize rngL 0 w.folk.length = RR at *
  generalize (w.folk.length : Int) = L at *
  simp only [mO] at *
  generalize foD w.folk = FF at *
  generalize iN w.posts = II at *
  generalize barD w.bar = BB at *
  simp [φ_law_far, fnOfBody_ap, mK_1, ln, rg, lp, -gLen_list]
end
theorem nms_foD (fs : List (Int × Int)) : nms 1 (foD fs) = true := nms_iff.2 fun d hd => by obtain ⟨p, _, rfl⟩ := List.mem_map.1 hd; simp [eF, nm, nms]
theorem nms_iN (ps : List Nat) : nms 1 (iN ps) = true := nms_iff.2 fun d hd => by obtain ⟨p, _, rfl⟩ := List.mem_map.1 hd; simp [nm]
theorem vw_bar (b) : vw (barO b) = some (barD b) := by
  cases b with
  | none => rfl
  | some ps => exact IsL.vw (.inr rfl)
theorem nm_bar (b) : nm 2 (barD b) = true := by
  cases b with
  | none => rfl
  | some ps => show nms 1 (iN ps) = true; exact nms_iN ps
abbrev SO (w : Wt) (a b c d e : OD) : Env' := [wO w, mO w, a, b, c, d, e]
section
variable {w : Wt} (I : Inv w) (fl : w.folk.length ≤ 60)
include I fl
theorem so_s1 : law_is_so_s1 (SO w (.l ((foD w.folk).map .p)) .h .h .h .h) = .nx (SO w (.l ((foD w.folk).map .p)) .h .h .h .h) := by
  have n1 := IsL.neN (x := .l ((foD w.folk).map .p)) (y := .p (.list (foD w.folk))) (.inr rfl) (.inl rfl) 1 (nms_foD _)
  simp only [SO, wO, mO] at *
  generalize (foD w.folk).map OD.p = F2 at *
  generalize foD w.folk = FF at *
  generalize (iN w.posts).map OD.p = I2 at *
  generalize iN w.posts = II at *
  generalize barO w.bar = B2 at *
  generalize barD w.bar = BB at *
  simp [law_is_so_s1, mK_0, mK_1, wN_0, n1]
theorem so_s2 : law_is_so_s2 (SO w (.l ((foD w.folk).map .p)) .h .h .h .h) = .nx (SO w (.l ((foD w.folk).map .p)) .h .h .h .h) := by
  have lp := forGoA_fold (i := 2) (x := .l ((foD w.folk).map .p)) (g := gNm 3) (f := law_is_so_p0) eF (fun _ : Unit => SO w (.l ((foD w.folk).map .p)) .h .h .h .h) (fun _ => rfl) (fun _ _ => ()) (fun _ => True) w.folk () trivial fun _ p _ hp => ⟨trivial, by
    refine ⟨SO w (.l ((foD w.folk).map .p)) (.p (eF p)) .h .h .h, rfl, ?_⟩
    have w1 := whole_ok p.1
    have w2 := whole_ok p.2
    simp only [SO, wO, mO, eF] at *
    generalize (foD w.folk).map OD.p = F2 at *
    generalize foD w.folk = FF at *
    generalize (iN w.posts).map OD.p = I2 at *
    generalize iN w.posts = II at *
    generalize barO w.bar = B2 at *
    generalize barD w.bar = BB at *
    simp [law_is_so_p0, w1, w2]⟩
  have hn' : (foD w.folk).length ≤ 40000 := by rw [List.length_map]; omega
  have it : itsA (.l ((foD w.folk).map .p)) = some (foD w.folk) := its_l (foD w.folk)
  obtain ⟨lp, _⟩ := lp
  simp only [SO, wO, mO] at *
  rw [show w.folk.map eF = foD w.folk from rfl] at lp
  generalize (foD w.folk).map OD.p = F2 at *
  generalize foD w.folk = FF at *
  generalize (iN w.posts).map OD.p = I2 at *
  generalize iN w.posts = II at *
  generalize barO w.bar = B2 at *
  generalize barD w.bar = BB at *
  simp [law_is_so_s2, it, hn', hol, lp]
end
/-! ### a watch is as its model: the rest -/
theorem iN_zs (ps : List Nat) : iN ps = (ps.map fun n : Nat => (n : Int)).map PyData.int := by simp
theorem sIf_false {t : Env' → R Bool} {f : Env' → Out} {e e' : Env'} (h : t e = .ok false e') : sIf t f sNil e = .nx e' := by simp [h]
abbrev To (w : Wt) : OD := .l [.l ((iN w.posts).map .p), barO w.bar]
section
variable {w : Wt} (I : Inv w) (fl : w.folk.length ≤ 60)
include I fl
theorem so_s0 : law_is_so_s0 (SO w .h .h .h .h .h) = .nx (SO w (.l ((foD w.folk).map .p)) .h .h .h .h) := by
  have l0 := look0 (w := w) (i := 0) (m := "folk") (env := SO w .h .h .h .h .h) rfl wN_n.2.2.2.2.1 (folk_m w) (nl_foD _)
  simp only [SO, wO, mO] at *
  generalize (foD w.folk).map OD.p = F2 at *
  generalize foD w.folk = FF at *
  generalize (iN w.posts).map OD.p = I2 at *
  generalize iN w.posts = II at *
  generalize barO w.bar = B2 at *
  generalize barD w.bar = BB at *
  simp [law_is_so_s0, l0, -eLk_ap]
theorem so_s3 : law_is_so_s3 (SO w (.l ((foD w.folk).map .p)) .h .h .h .h) = .nx (SO w (.l ((foD w.folk).map .p)) .h (To w) .h .h) := by
  have l0 := look0 (w := w) (i := 0) (m := "posts") (env := SO w (.l ((foD w.folk).map .p)) .h .h .h .h) rfl wN_n.2.2.2.2.2.1 (posts_m w) (nl_iN _)
  have nlb : nlR (barO w.bar) = true := by
    cases w.bar with
    | none => exact nlD_n
    | some ps => exact nl_iN ps
  have l1 := look0 (w := w) (i := 0) (m := "bar") (env := SO w (.l ((foD w.folk).map .p)) .h .h .h .h) rfl wN_n.2.2.2.2.2.2.2.1 (bar_m w) nlb
  simp only [SO, wO, mO, To] at *
  generalize (foD w.folk).map OD.p = F2 at *
  generalize foD w.folk = FF at *
  generalize (iN w.posts).map OD.p = I2 at *
  generalize iN w.posts = II at *
  generalize barO w.bar = B2 at *
  generalize barD w.bar = BB at *
  simp [law_is_so_s3, l0, l1, -eLk_ap]
theorem so_s4 : law_is_so_s4 (SO w (.l ((foD w.folk).map .p)) .h (To w) .h .h) = .nx (SO w (.l ((foD w.folk).map .p)) .h (To w) .h .h) := by
  have wh := wholes_ok (x := .l ((iN w.posts).map .p)) (zs := w.posts.map fun n : Nat => (n : Int)) (.inr (by rw [← iN_zs])) (by rw [List.length_map]; have := I.pn; omega)
  have x0 : ixN 2 (0 : Int) = some 0 := by decide +kernel
  have n1 : gNe (To w) (.l [.p (.list (iN w.posts)), .p (barD w.bar)]) = some (.p (.bool false)) := by
    refine gNe_no (a := .list [.list (iN w.posts), barD w.bar]) 3 ?_ ?_ ?_
    · show (vws [_, _]).map _ = _
      have h1 : vw (.l ((iN w.posts).map .p)) = some (.list (iN w.posts)) := IsL.vw (.inr rfl)
      simp only [vws, h1, vw_bar, Option.bind_some, Option.map_some]
    · rfl
    · rw [nm]
      refine nms_iff.2 fun d hd => ?_
      simp only [List.mem_cons, List.not_mem_nil, or_false] at hd
      rcases hd with rfl | rfl
      · show nms 1 _ = true; exact nms_iN _
      · exact nm_bar _
  simp only [SO, wO, mO, To] at *
  generalize (foD w.folk).map OD.p = F2 at *
  generalize foD w.folk = FF at *
  generalize (iN w.posts).map OD.p = I2 at *
  generalize iN w.posts = II at *
  generalize barO w.bar = B2 at *
  generalize barD w.bar = BB at *
  simp [law_is_so_s4, mK_2, mK_4, wh, x0, n1]
theorem so_s5 : law_is_so_s5 (SO w (.l ((foD w.folk).map .p)) .h (To w) .h .h) = .nx (SO w (.l ((foD w.folk).map .p)) .h (To w) .h .h) := by
  have x1 : ixN 2 (1 : Int) = some 1 := by decide +kernel
  cases e : w.bar with
  | none =>
    simp only [SO, wO, mO, To, e, barO, barD] at *
    generalize (foD w.folk).map OD.p = F2 at *
    generalize foD w.folk = FF at *
    generalize (iN w.posts).map OD.p = I2 at *
    generalize iN w.posts = II at *
    have nn : nnI true (.l [.l I2, .p .none]) 1 = some (.p (.bool false)) := by simp [nnI, atI, x1]; rfl
    simp [law_is_so_s5, nn]
  | some ps =>
    have bl : ps.length ≤ 60 := by
      rcases I.bar with ⟨_, z⟩ | ⟨_, B, z, _, l, _⟩
      · rw [z] at e; cases e
      · rw [z] at e; cases e; omega
    have wh := wholes_ok (x := .l ((iN ps).map .p)) (zs := ps.map fun n : Nat => (n : Int)) (.inr (by rw [← iN_zs])) (by rw [List.length_map]; omega)
    simp only [SO, wO, mO, To, e, barO, barD] at *
    generalize (foD w.folk).map OD.p = F2 at *
    generalize foD w.folk = FF at *
    generalize (iN w.posts).map OD.p = I2 at *
    generalize iN w.posts = II at *
    generalize (iN ps).map OD.p = B2 at *
    generalize iN ps = BB at *
    have nn : nnI true (.l [.l I2, .l B2]) 1 = some (.p (.bool true)) := by simp [nnI, atI, x1]; rfl
    simp [law_is_so_s5, nn, x1, wh]
theorem so_p1l (a b c : OD) (xs : List OD) (h : xs.length < 100000) : law_is_so_p1 (SO w a .h b (.l xs) c) = .nx (SO w a .h b .h c) := by
  have isn : gIsN true (.l xs) (.p .none) = some (.p (.bool true)) := rfl
  simp only [SO, wO, mO] at *
  generalize (foD w.folk).map OD.p = F2 at *
  generalize foD w.folk = FF at *
  generalize (iN w.posts).map OD.p = I2 at *
  generalize iN w.posts = II at *
  generalize barO w.bar = B2 at *
  generalize barD w.bar = BB at *
  simp [law_is_so_p1, isn, h]
theorem so_p1n (a b c : OD) : law_is_so_p1 (SO w a .h b (.p .none) c) = .nx (SO w a .h b .h c) := by
  have isn : gIsN true (.p .none) (.p .none) = some (.p (.bool false)) := rfl
  simp only [SO, wO, mO] at *
  generalize (foD w.folk).map OD.p = F2 at *
  generalize foD w.folk = FF at *
  generalize (iN w.posts).map OD.p = I2 at *
  generalize iN w.posts = II at *
  generalize barO w.bar = B2 at *
  generalize barD w.bar = BB at *
  simp [law_is_so_p1, isn]
theorem so_s6 : law_is_so_s6 (SO w (.l ((foD w.folk).map .p)) .h (To w) .h .h) = .nx (SO w .h .h .h .h .h) := by
  have pn := I.pn
  have r1 := so_p1l (w := w) I fl .h .h .h ((iN w.posts).map .p) (by simp; omega)
  have r3 := so_p1l (w := w) I fl .h .h .h ((foD w.folk).map .p) (by simp; omega)
  have r2 : law_is_so_p1 (SO w .h .h .h (barO w.bar) .h) = .nx (SO w .h .h .h .h .h) := by
    cases e : w.bar with
    | none => exact so_p1n (w := w) I fl .h .h .h
    | some ps =>
      have bl : ps.length ≤ 60 := by
        rcases I.bar with ⟨_, z⟩ | ⟨_, B, z, _, l, _⟩
        · rw [z] at e; cases e
        · rw [z] at e; cases e; omega
      exact so_p1l (w := w) I fl .h .h .h ((iN ps).map .p) (by simp; omega)
  have lp : forGoO (gNm 5) law_is_so_p1 [.l ((iN w.posts).map .p), barO w.bar, .l ((foD w.folk).map .p)] (SO w .h .h .h .h .h) = .nx (SO w .h .h .h .h .h) := by
    rw [forGoO_cons, show gNm 5 (.l ((iN w.posts).map .p)) (SO w .h .h .h .h .h) = some (SO w .h .h .h (.l ((iN w.posts).map .p)) .h) from rfl]
    dsimp only
    rw [r1, Out.seq_nx, forGoO_cons, show gNm 5 (barO w.bar) (SO w .h .h .h .h .h) = some (SO w .h .h .h (barO w.bar) .h) from rfl]
    dsimp only
    rw [r2, Out.seq_nx, forGoO_cons, show gNm 5 (.l ((foD w.folk).map .p)) (SO w .h .h .h .h .h) = some (SO w .h .h .h (.l ((foD w.folk).map .p)) .h) from rfl]
    dsimp only
    rw [r3, Out.seq_nx]; rfl
  simp only [SO, wO, mO, To] at *
  generalize (foD w.folk).map OD.p = F2 at *
  generalize foD w.folk = FF at *
  generalize (iN w.posts).map OD.p = I2 at *
  generalize iN w.posts = II at *
  generalize barO w.bar = B2 at *
  generalize barD w.bar = BB at *
  simp [law_is_so_s6, lp]
theorem so_s7 : law_is_so_s7 (SO w .h .h .h .h .h) = .nx (SO w .h .h .h .h (.l [pI w.mark, pI (rchW w.folk w.posts)])) := by
  have ok : Ok w := ⟨by omega, by have := I.pn; omega, I.pv⟩
  have l0 := look0 (w := w) (i := 0) (m := "mark") (env := SO w .h .h .h .h .h) rfl wN_n.2.2.2.2.2.2.1 (mark_m w) (by simp)
  have l1 := look0 (w := w) (i := 0) (m := "reach") (env := SO w .h .h .h .h .h) rfl wN_n.2.2.2.2.2.2.2.2 (reach_m ok I.ne) (by simp)
  generalize rchW w.folk w.posts = r at *
  simp only [SO, wO, mO] at *
  generalize (foD w.folk).map OD.p = F2 at *
  generalize foD w.folk = FF at *
  generalize (iN w.posts).map OD.p = I2 at *
  generalize iN w.posts = II at *
  generalize barO w.bar = B2 at *
  generalize barD w.bar = BB at *
  simp [law_is_so_s7, l0, l1, -eLk_ap]
theorem so_s8 : law_is_so_s8 (SO w .h .h .h .h (.l [pI w.mark, pI (rchW w.folk w.posts)])) = .rt (.p (.bool true)) (SO w .h .h .h .h (.l [pI w.mark, pI (rchW w.folk w.posts)])) := by
  have ok : Ok w := ⟨by omega, by have := I.pn; omega, I.pv⟩
  have mr := mreach_ok ok I.ne
  have wh := wholes_ok (x := .l [pI w.mark, pI (rchW w.folk w.posts)]) (zs := [w.mark, rchW w.folk w.posts]) (.inr rfl) (by simp)
  have e1 : gEq (.l [pI w.mark, pI (rchW w.folk w.posts)]) (.l [pI w.mark, pI (rchW w.folk w.posts)]) = some (.p (.bool true)) := IsL.eqY (x := .l [pI w.mark, pI (rchW w.folk w.posts)]) (ds := [.int w.mark, .int (rchW w.folk w.posts)]) (.inr rfl) (.inr rfl) 1 (by simp [nm, nms])
  generalize rchW w.folk w.posts = r at *
  simp only [SO, wO, mO] at *
  generalize (foD w.folk).map OD.p = F2 at *
  generalize foD w.folk = FF at *
  generalize (iN w.posts).map OD.p = I2 at *
  generalize iN w.posts = II at *
  generalize barO w.bar = B2 at *
  generalize barD w.bar = BB at *
  simp [law_is_so_s8, mK_3, wh, mr, e1]
theorem so_ok : φ_law_is_so [wO w, mO w] = .ok (.p (.bool true)) [wO w, mO w] := by
  unfold φ_law_is_so
  rw [fnOfBody_ap]
  change (match (sSeq law_is_so_s0 _) (SO w .h .h .h .h .h) with
    | .st => DL.R.st
    | .nx e => DL.R.ok (OD.p .none) (mask [0, 1] e 2)
    | .rt d e => DL.R.ok d (mask [0, 1] e 2)
    | .ex C f e => DL.R.ex C f (mask [0, 1] e 2)) = _
  rw [seq_to (so_s0 I fl) (seq_to (so_s1 I fl) (seq_to (so_s2 I fl) (seq_to (so_s3 I fl) (seq_to (so_s4 I fl) (seq_to (so_s5 I fl) (seq_to (so_s6 I fl) (seq_to (so_s7 I fl) (so_s8 I fl))))))))]
  rfl
end
/-! ### the law holds -/
theorem refused_ok {m : Int} (h : m < 1) : φ_law_refused [pI m] = .ok (.p (.bool true)) [pI m] := by
  have lm : φ_look_at_many [pI m] = .ex "NoMany" none [pI m] := by simp [φ_look_at_many, fnOfBody_ap, h]
  have init : φ_Watch_init [.ob "Watch" [] [], pI m] = .ex "NoMany" none [.ob "Watch" [] [], pI m] := by simp [φ_Watch_init, fnOfBody_ap, lm]
  have kn : ("NoMany" : Str) ∈ known := by decide +kernel
  have wi := law_which_ok (D := "NoMany") (f := none) kn 0 (by decide +kernel) (by decide)
  rw [show ((0 : Nat) : Int) = 0 from rfl] at wi
  have st : law_refused_p0 [pI m, .p .none, .h] = .ex "NoMany" none [pI m, .p .none, .h] := by simp [law_refused_p0, init]
  simp [φ_law_refused, fnOfBody_ap, st, kn, wi]
abbrev K50 (ns R : List Int) (WS MS : List OD) (k t p n : OD) : Env' := [.sc ns, pu R, .l WS, .l MS, k, .h, .h, t, p, n]
theorem pick2 (a b : Int) : gIx (.l [pI a, pI b]) (pI 0) = some (pI a) ∧ gIx (.l [pI a, pI b]) (pI 1) = some (pI b) := by
  have x0 : ixN 2 (0 : Int) = some 0 := by decide +kernel
  have x1 : ixN 2 (1 : Int) = some 1 := by decide +kernel
  constructor <;> simp [gIx_l, atI, x0, x1]
theorem made_ok (ns : List Int) {d : Int} (R : List Int) (WS MS : List OD) (k : OD) (hd : 0 ≤ d) (hw : WS.length ≤ 3) (hm : MS.length ≤ 3) : ∃ m : Int, 1 ≤ m ∧ law_p0 (K50 ns (d :: R) WS MS k .h .h .h) = .nx (K50 ns R (WS ++ [wO (newW m)]) (MS ++ [mO (newW m)]) .h .h .h .h) := by
  have p1 := gPop_pl d R
  obtain ⟨m, hm1, hc⟩ : ∃ m : Int, 1 ≤ m ∧ gIx (.l [pI (1 + d / 8 % 5), pI (100000000000000000000000000000 + d)]) (pI (if d % 8 = 7 then 1 else 0)) = some (pI m) := by
    by_cases c : d % 8 = 7
    · exact ⟨100000000000000000000000000000 + d, by omega, by rw [if_pos c]; exact (pick2 _ _).2⟩
    · exact ⟨1 + d / 8 % 5, by omega, by rw [if_neg c]; exact (pick2 _ _).1⟩
  have io := init_ok hm1
  have e2 : mO (newW m) = .dc mK [pI m, .p (.list []), .p (.list []), pI 0, .p .none] := rfl
  have e3 : mK = (["many", "folk", "posts", "mark", "bar"] : List Str) := rfl
  refine ⟨m, hm1, ?_⟩
  rw [e2, e3]
  have w1 : WS.length < 100000 := by omega
  have w2 : MS.length < 100000 := by omega
  simp only [K50, pu, wO] at *
  generalize (foD (newW m).folk).map OD.p = F2 at *
  generalize (iN (newW m).posts).map OD.p = I2 at *
  generalize barO (newW m).bar = B2 at *
  generalize pl (d :: R) = P1 at *
  generalize pl R = P2 at *
  by_cases c : d % 8 = 7
  · simp only [c, if_true] at hc
    simp [law_p0, p1, c, hc, io, w1, w2, -gIx_l]
  · simp only [c, if_false] at hc
    simp [law_p0, p1, c, hc, io, w1, w2, -gIx_l]
theorem atW (c : Int) : ∃ k : Int, (if c % 3 = 0 then (1 : Int) else 0) = k ∧ (k = 0 ∨ k = 1) := ⟨_, rfl, by split <;> simp⟩

theorem turn0 {ns : List Int} {c d m : Int} {R : List Int} (hk : (if c % 3 = 0 then (1 : Int) else 0) = 0) (hd : 0 ≤ d ∧ d < 1000003) (hm : 0 ≤ m ∧ m < 1000003) {a b : Wt} (I : Inv a) (fl : a.folk.length ≤ 50) (t : OD) :
    ∃ w, Inv w ∧ w.folk.length = a.folk.length + 1 ∧ law_p1 (K50 ns (c :: d :: m :: R) [wO a, wO b] [mO a, mO b] .h t .h .h) = .nx (K50 ns R [wO w, wO b] [mO w, mO b] .h .h .h .h) := by
  obtain ⟨x, y, pk⟩ := place_ok hd hm R
  obtain ⟨J, f, mn', hw⟩ := came_inv I x y
  have pn := I.pn
  have co := come_ok x y (by omega) (by omega) I.pv hw
  have mc := mcome_ok x y (by omega) (by omega) I.pv fun z => (hw z).1
  have fl2 : (came a x y).folk.length = a.folk.length + 1 := by rw [f]; simp
  have so := so_ok J (by omega)
  have wh := whole_ok (a.folk.length : Int)
  have p1 := gPop_pl c (d :: m :: R)
  have xj : ixN 2 (0 : Int) = some 0 := by decide +kernel
  refine ⟨came a x y, J, fl2, ?_⟩
  generalize hw1 : came a x y = w at *
  have s0 : law_s0 (K50 ns (c :: d :: m :: R) [wO a, wO b] [mO a, mO b] .h t .h .h) = .nx (K50 ns (d :: m :: R) [wO a, wO b] [mO a, mO b] (pI 0) t .h .h) := by
    simp only [K50, pu] at *
    generalize pl (c :: d :: m :: R) = P1 at *
    generalize pl (d :: m :: R) = P2 at *
    generalize wO a = A1 at *
    generalize wO b = A2 at *
    generalize mO a = A3 at *
    generalize mO b = A4 at *
    simp [law_s0, p1, hk]
  have s1 : law_s1 (K50 ns (d :: m :: R) [wO a, wO b] [mO a, mO b] (pI 0) t .h .h) = .nx (K50 ns R [wO a, wO b] [mO a, mO b] (pI 0) t (.p (eF (x, y))) .h) := by
    simp only [K50, pu] at *
    generalize pl (d :: m :: R) = P1 at *
    generalize pl R = P2 at *
    generalize wO a = A1 at *
    generalize wO b = A2 at *
    generalize mO a = A3 at *
    generalize mO b = A4 at *
    simp [law_s1, pk]
  have s2 : law_s2 (K50 ns R [wO a, wO b] [mO a, mO b] (pI 0) t (.p (eF (x, y))) .h) = .nx (K50 ns R [wO w, wO b] [mO a, mO b] (pI 0) t (.p (eF (x, y))) (pI (a.folk.length : Int))) := by
    generalize mO a = A3 at *
    generalize mO b = A4 at *
    generalize (a.folk.length : Int) = L at *
    simp only [K50, pu, wO, eF] at *
    generalize pl R = P2 at *
    generalize (foD a.folk).map OD.p = F2 at *
    generalize (iN a.posts).map OD.p = I2 at *
    generalize barO a.bar = B2 at *
    generalize (foD b.folk).map OD.p = F3 at *
    generalize (iN b.posts).map OD.p = I3 at *
    generalize barO b.bar = B3 at *
    generalize (foD w.folk).map OD.p = F4 at *
    generalize (iN w.posts).map OD.p = I4 at *
    generalize barO w.bar = B4 at *
    simp [law_s2, xj, prts, wN_n, co]
  have s3 : law_s3 (K50 ns R [wO w, wO b] [mO a, mO b] (pI 0) t (.p (eF (x, y))) (pI (a.folk.length : Int))) = .nx (K50 ns R [wO w, wO b] [mO w, mO b] (pI 0) t (.p (eF (x, y))) (pI (a.folk.length : Int))) := by
    generalize wO a = A1 at *
    generalize wO b = A2 at *
    generalize wO w = A3 at *
    generalize (a.folk.length : Int) = L at *
    generalize eF (x, y) = E at *
    simp only [K50, pu, mO] at *
    generalize pl R = P2 at *
    generalize (foD a.folk) = F2 at *
    generalize (iN a.posts) = I2 at *
    generalize barD a.bar = B2 at *
    generalize (foD b.folk) = F3 at *
    generalize (iN b.posts) = I3 at *
    generalize barD b.bar = B3 at *
    generalize (foD w.folk) = F4 at *
    generalize (iN w.posts) = I4 at *
    generalize barD w.bar = B4 at *
    simp [law_s3, xj, wh, mc]
  have s4 : law_s4 (K50 ns R [wO w, wO b] [mO w, mO b] (pI 0) t (.p (eF (x, y))) (pI (a.folk.length : Int))) = .nx (K50 ns R [wO w, wO b] [mO w, mO b] (pI 0) t (.p (eF (x, y))) (pI (a.folk.length : Int))) := by
    generalize (a.folk.length : Int) = L at *
    generalize eF (x, y) = E at *
    simp only [K50, pu, mO, wO] at *
    generalize pl R = P2 at *
    generalize (foD a.folk).map OD.p = F2 at *
    generalize (iN a.posts).map OD.p = I2 at *
    generalize barO a.bar = B2 at *
    generalize (foD b.folk).map OD.p = F3 at *
    generalize (iN b.posts).map OD.p = I3 at *
    generalize barO b.bar = B3 at *
    generalize (foD w.folk).map OD.p = F4 at *
    generalize (iN w.posts).map OD.p = I4 at *
    generalize barO w.bar = B4 at *
    generalize (foD a.folk) = F5 at *
    generalize (iN a.posts) = I5 at *
    generalize barD a.bar = B5 at *
    generalize (foD b.folk) = F6 at *
    generalize (iN b.posts) = I6 at *
    generalize barD b.bar = B6 at *
    generalize (foD w.folk) = F7 at *
    generalize (iN w.posts) = I7 at *
    generalize barD w.bar = B7 at *
    simp [law_s4, xj, so]
  unfold law_p1
  change (match (sSeq law_s0 _) (K50 ns (c :: d :: m :: R) [wO a, wO b] [mO a, mO b] .h t .h .h) with
    | .nx e => Out.nx (clr [4, 7, 8, 9] e)
    | o => o) = _
  rw [seq_to s0 (seq_to s1 (seq_to s2 (seq_to s3 s4)))]
  rfl
theorem both0 {ns R : List Int} {a b : Wt} (I : Inv a) (fl : a.folk.length ≤ 60) : law_p2 (K50 ns R [wO a, wO b] [mO a, mO b] (pI 0) .h .h .h) = .nx (K50 ns R [wO a, wO b] [mO a, mO b] .h .h .h .h) := by
  have so := so_ok I fl
  have xj : ixN 2 (0 : Int) = some 0 := by decide +kernel
  simp only [K50, pu, mO, wO] at *
  generalize pl R = P2 at *
  generalize (foD a.folk).map OD.p = F2 at *
  generalize (iN a.posts).map OD.p = I2 at *
  generalize barO a.bar = B2 at *
  generalize (foD b.folk).map OD.p = F3 at *
  generalize (iN b.posts).map OD.p = I3 at *
  generalize barO b.bar = B3 at *
  generalize (foD a.folk) = F5 at *
  generalize (iN a.posts) = I5 at *
  generalize barD a.bar = B5 at *
  generalize (foD b.folk) = F6 at *
  generalize (iN b.posts) = I6 at *
  generalize barD b.bar = B6 at *
  simp [law_p2, xj, so]

theorem turn1 {ns : List Int} {c d m : Int} {R : List Int} (hk : (if c % 3 = 0 then (1 : Int) else 0) = 1) (hd : 0 ≤ d ∧ d < 1000003) (hm : 0 ≤ m ∧ m < 1000003) {a b : Wt} (I : Inv b) (fl : b.folk.length ≤ 50) (t : OD) :
    ∃ w, Inv w ∧ w.folk.length = b.folk.length + 1 ∧ law_p1 (K50 ns (c :: d :: m :: R) [wO a, wO b] [mO a, mO b] .h t .h .h) = .nx (K50 ns R [wO a, wO w] [mO a, mO w] .h .h .h .h) := by
  obtain ⟨x, y, pk⟩ := place_ok hd hm R
  obtain ⟨J, f, mn', hw⟩ := came_inv I x y
  have pn := I.pn
  have co := come_ok x y (by omega) (by omega) I.pv hw
  have mc := mcome_ok x y (by omega) (by omega) I.pv fun z => (hw z).1
  have fl2 : (came b x y).folk.length = b.folk.length + 1 := by rw [f]; simp
  have so := so_ok J (by omega)
  have wh := whole_ok (b.folk.length : Int)
  have p1 := gPop_pl c (d :: m :: R)
  have xj : ixN 2 (1 : Int) = some 1 := by decide +kernel
  refine ⟨came b x y, J, fl2, ?_⟩
  generalize hw1 : came b x y = w at *
  have s0 : law_s0 (K50 ns (c :: d :: m :: R) [wO a, wO b] [mO a, mO b] .h t .h .h) = .nx (K50 ns (d :: m :: R) [wO a, wO b] [mO a, mO b] (pI 1) t .h .h) := by
    simp only [K50, pu] at *
    generalize pl (c :: d :: m :: R) = P1 at *
    generalize pl (d :: m :: R) = P2 at *
    generalize wO a = A1 at *
    generalize wO b = A2 at *
    generalize mO a = A3 at *
    generalize mO b = A4 at *
    simp [law_s0, p1, hk]
  have s1 : law_s1 (K50 ns (d :: m :: R) [wO a, wO b] [mO a, mO b] (pI 1) t .h .h) = .nx (K50 ns R [wO a, wO b] [mO a, mO b] (pI 1) t (.p (eF (x, y))) .h) := by
    simp only [K50, pu] at *
    generalize pl (d :: m :: R) = P1 at *
    generalize pl R = P2 at *
    generalize wO a = A1 at *
    generalize wO b = A2 at *
    generalize mO a = A3 at *
    generalize mO b = A4 at *
    simp [law_s1, pk]
  have s2 : law_s2 (K50 ns R [wO a, wO b] [mO a, mO b] (pI 1) t (.p (eF (x, y))) .h) = .nx (K50 ns R [wO a, wO w] [mO a, mO b] (pI 1) t (.p (eF (x, y))) (pI (b.folk.length : Int))) := by
    generalize mO a = A3 at *
    generalize mO b = A4 at *
    generalize (b.folk.length : Int) = L at *
    simp only [K50, pu, wO, eF] at *
    generalize pl R = P2 at *
    generalize (foD a.folk).map OD.p = F2 at *
    generalize (iN a.posts).map OD.p = I2 at *
    generalize barO a.bar = B2 at *
    generalize (foD b.folk).map OD.p = F3 at *
    generalize (iN b.posts).map OD.p = I3 at *
    generalize barO b.bar = B3 at *
    generalize (foD w.folk).map OD.p = F4 at *
    generalize (iN w.posts).map OD.p = I4 at *
    generalize barO w.bar = B4 at *
    simp [law_s2, xj, prts, wN_n, co]
  have s3 : law_s3 (K50 ns R [wO a, wO w] [mO a, mO b] (pI 1) t (.p (eF (x, y))) (pI (b.folk.length : Int))) = .nx (K50 ns R [wO a, wO w] [mO a, mO w] (pI 1) t (.p (eF (x, y))) (pI (b.folk.length : Int))) := by
    generalize wO a = A1 at *
    generalize wO b = A2 at *
    generalize wO w = A3 at *
    generalize (b.folk.length : Int) = L at *
    generalize eF (x, y) = E at *
    simp only [K50, pu, mO] at *
    generalize pl R = P2 at *
    generalize (foD a.folk) = F2 at *
    generalize (iN a.posts) = I2 at *
    generalize barD a.bar = B2 at *
    generalize (foD b.folk) = F3 at *
    generalize (iN b.posts) = I3 at *
    generalize barD b.bar = B3 at *
    generalize (foD w.folk) = F4 at *
    generalize (iN w.posts) = I4 at *
    generalize barD w.bar = B4 at *
    simp [law_s3, xj, wh, mc]
  have s4 : law_s4 (K50 ns R [wO a, wO w] [mO a, mO w] (pI 1) t (.p (eF (x, y))) (pI (b.folk.length : Int))) = .nx (K50 ns R [wO a, wO w] [mO a, mO w] (pI 1) t (.p (eF (x, y))) (pI (b.folk.length : Int))) := by
    generalize (b.folk.length : Int) = L at *
    generalize eF (x, y) = E at *
    simp only [K50, pu, mO, wO] at *
    generalize pl R = P2 at *
    generalize (foD a.folk).map OD.p = F2 at *
    generalize (iN a.posts).map OD.p = I2 at *
    generalize barO a.bar = B2 at *
    generalize (foD b.folk).map OD.p = F3 at *
    generalize (iN b.posts).map OD.p = I3 at *
    generalize barO b.bar = B3 at *
    generalize (foD w.folk).map OD.p = F4 at *
    generalize (iN w.posts).map OD.p = I4 at *
    generalize barO w.bar = B4 at *
    generalize (foD a.folk) = F5 at *
    generalize (iN a.posts) = I5 at *
    generalize barD a.bar = B5 at *
    generalize (foD b.folk) = F6 at *
    generalize (iN b.posts) = I6 at *
    generalize barD b.bar = B6 at *
    generalize (foD w.folk) = F7 at *
    generalize (iN w.posts) = I7 at *
    generalize barD w.bar = B7 at *
    simp [law_s4, xj, so]
  unfold law_p1
  change (match (sSeq law_s0 _) (K50 ns (c :: d :: m :: R) [wO a, wO b] [mO a, mO b] .h t .h .h) with
    | .nx e => Out.nx (clr [4, 7, 8, 9] e)
    | o => o) = _
  rw [seq_to s0 (seq_to s1 (seq_to s2 (seq_to s3 s4)))]
  rfl
theorem both1 {ns R : List Int} {a b : Wt} (I : Inv b) (fl : b.folk.length ≤ 60) : law_p2 (K50 ns R [wO a, wO b] [mO a, mO b] (pI 1) .h .h .h) = .nx (K50 ns R [wO a, wO b] [mO a, mO b] .h .h .h .h) := by
  have so := so_ok I fl
  have xj : ixN 2 (1 : Int) = some 1 := by decide +kernel
  simp only [K50, pu, mO, wO] at *
  generalize pl R = P2 at *
  generalize (foD a.folk).map OD.p = F2 at *
  generalize (iN a.posts).map OD.p = I2 at *
  generalize barO a.bar = B2 at *
  generalize (foD b.folk).map OD.p = F3 at *
  generalize (iN b.posts).map OD.p = I3 at *
  generalize barO b.bar = B3 at *
  generalize (foD a.folk) = F5 at *
  generalize (iN a.posts) = I5 at *
  generalize barD a.bar = B5 at *
  generalize (foD b.folk) = F6 at *
  generalize (iN b.posts) = I6 at *
  generalize barD b.bar = B6 at *
  simp [law_p2, xj, so]
theorem law_true : LawTrue φ_law := fun ns _ => by
  obtain ⟨R, hl, hR, dg⟩ := digits_pu ns (.inl rfl)
  obtain ⟨d1, R, rfl, hl1⟩ := pu_cons (n := 119) (R := R) (by omega)
  obtain ⟨d2, R, rfl, hl2⟩ := pu_cons (n := 118) (R := R) (by omega)
  obtain ⟨c, R, rfl, hl3⟩ := pu_cons (n := 117) (R := R) (by omega)
  have h1 := hR.hd; have h2 := hR.tl.hd; have h3 := hR.tl.tl.hd; have hR2 := hR.tl.tl.tl
  have s5 : law_s5 [.sc ns, .h, .h, .h, .h, .h, .h, .h, .h, .h] = .nx [.sc ns, pu (d1 :: d2 :: c :: R), .h, .h, .h, .h, .h, .h, .h, .h] := by
    simp only [pu] at *
    generalize pl (d1 :: d2 :: c :: R) = P at *
    simp [law_s5, dg]
  have s6 : law_s6 [.sc ns, pu (d1 :: d2 :: c :: R), .h, .h, .h, .h, .h, .h, .h, .h] = .nx [.sc ns, pu (d1 :: d2 :: c :: R), .l [], .h, .h, .h, .h, .h, .h, .h] := by simp [law_s6]
  have s7 : law_s7 [.sc ns, pu (d1 :: d2 :: c :: R), .l [], .h, .h, .h, .h, .h, .h, .h] = .nx (K50 ns (d1 :: d2 :: c :: R) [] [] .h .h .h .h) := by simp [law_s7]
  obtain ⟨m1, hm1, r1⟩ := made_ok ns (d2 :: c :: R) [] [] (pI 0) h1.1 (by simp) (by simp)
  obtain ⟨m2, hm2, r2⟩ := made_ok ns (c :: R) [wO (newW m1)] [mO (newW m1)] (pI 1) h2.1 (by simp) (by simp)
  rw [List.nil_append, List.nil_append] at r1
  have rg2 := rng1_nat (n := 2) (by decide)
  rw [show ((2 : Nat) : Int) = 2 from rfl] at rg2
  have rl2 : rngL 0 2 = [.int 0, .int 1] := rfl
  have s8 : law_s8 (K50 ns (d1 :: d2 :: c :: R) [] [] .h .h .h .h) = .nx (K50 ns (c :: R) [wO (newW m1), wO (newW m2)] [mO (newW m1), mO (newW m2)] .h .h .h .h) := by
    have lp : forGo (gNm 4) law_p0 [.int 0, .int 1] (K50 ns (d1 :: d2 :: c :: R) [] [] .h .h .h .h) = .nx (K50 ns (c :: R) [wO (newW m1), wO (newW m2)] [mO (newW m1), mO (newW m2)] .h .h .h .h) := by
      rw [forGo_cons, show gNm 4 (.p (.int 0)) (K50 ns (d1 :: d2 :: c :: R) [] [] .h .h .h .h) = some (K50 ns (d1 :: d2 :: c :: R) [] [] (pI 0) .h .h .h) from rfl]
      dsimp only
      rw [r1, Out.seq_nx, forGo_cons, show gNm 4 (.p (.int 1)) (K50 ns (d2 :: c :: R) [wO (newW m1)] [mO (newW m1)] .h .h .h .h) = some (K50 ns (d2 :: c :: R) [wO (newW m1)] [mO (newW m1)] (pI 1) .h .h .h) from rfl]
      dsimp only
      rw [r2, Out.seq_nx]; rfl
    simp only [K50] at *
    generalize pu (d1 :: d2 :: c :: R) = P1 at *
    generalize pu (c :: R) = P2 at *
    generalize wO (newW m1) = A1 at *
    generalize wO (newW m2) = A2 at *
    generalize mO (newW m1) = A3 at *
    generalize mO (newW m2) = A4 at *
    simp [law_s8, rg2, rl2, lp]
  obtain ⟨n, hn⟩ := Int.eq_ofNat_of_zero_le (show 0 ≤ c % 37 by omega)
  have n36 : n ≤ 36 := by omega
  obtain ⟨e', lp, a, b, S, Ia, Ib, lab, hS, hSl, he⟩ := forGo_rng0 (g := gNm 7) (f := law_p1) n (fun j e => ∃ (a b : Wt) (S : List Int), Inv a ∧ Inv b ∧ a.folk.length + b.folk.length = j ∧ Dgs S ∧ S.length + 3 * j = R.length ∧ e = K50 ns S [wO a, wO b] [mO a, mO b] .h .h .h .h) (K50 ns R [wO (newW m1), wO (newW m2)] [mO (newW m1), mO (newW m2)] .h .h .h .h)
    ⟨newW m1, newW m2, R, inv_new hm1, inv_new hm2, rfl, hR2, rfl, rfl⟩ fun j hj e ⟨a, b, S, Ia, Ib, lab, hS, hSl, he⟩ => by
      subst he
      obtain ⟨x, S1, rfl, h5⟩ := pu_cons (n := 2) (R := S) (by omega)
      obtain ⟨y, S2, rfl, h6⟩ := pu_cons (n := 1) (R := S1) (by omega)
      obtain ⟨z, S3, rfl, h7⟩ := pu_cons (n := 0) (R := S2) (by omega)
      simp only [List.length_cons] at hSl
      obtain ⟨k, hk, hk2⟩ := atW x
      rcases hk2 with rfl | rfl
      · obtain ⟨w, J, wl, tk⟩ := turn0 (ns := ns) (R := S3) hk hS.tl.hd hS.tl.tl.hd (a := a) (b := b) Ia (by omega) (pI (j : Int))
        exact ⟨_, _, rfl, tk, w, b, S3, J, Ib, by omega, hS.tl.tl.tl, by omega, rfl⟩
      · obtain ⟨w, J, wl, tk⟩ := turn1 (ns := ns) (R := S3) hk hS.tl.hd hS.tl.tl.hd (a := a) (b := b) Ib (by omega) (pI (j : Int))
        exact ⟨_, _, rfl, tk, a, w, S3, Ia, J, by omega, hS.tl.tl.tl, by omega, rfl⟩
  subst he
  have s9 : law_s9 (K50 ns (c :: R) [wO (newW m1), wO (newW m2)] [mO (newW m1), mO (newW m2)] .h .h .h .h) = .nx (K50 ns S [wO a, wO b] [mO a, mO b] .h .h .h .h) := by
    have p1 := gPop_pl c R
    have rg := rng1_nat (n := n) (by omega)
    simp only [K50, pu] at *
    generalize pl (c :: R) = P1 at *
    generalize pl R = P2 at *
    generalize pl S = P3 at *
    generalize wO (newW m1) = A1 at *
    generalize wO (newW m2) = A2 at *
    generalize mO (newW m1) = A3 at *
    generalize mO (newW m2) = A4 at *
    generalize wO a = A5 at *
    generalize wO b = A6 at *
    generalize mO a = A7 at *
    generalize mO b = A8 at *
    simp [law_s9, p1, hn, rg, lp]
  have b0 := both0 (ns := ns) (R := S) (a := a) (b := b) Ia (by omega)
  have b1 := both1 (ns := ns) (R := S) (a := a) (b := b) Ib (by omega)
  have s10 : law_s10 (K50 ns S [wO a, wO b] [mO a, mO b] .h .h .h .h) = .nx (K50 ns S [wO a, wO b] [mO a, mO b] .h .h .h .h) := by
    have lp : forGo (gNm 4) law_p2 [.int 0, .int 1] (K50 ns S [wO a, wO b] [mO a, mO b] .h .h .h .h) = .nx (K50 ns S [wO a, wO b] [mO a, mO b] .h .h .h .h) := by
      rw [forGo_cons, show gNm 4 (.p (.int 0)) (K50 ns S [wO a, wO b] [mO a, mO b] .h .h .h .h) = some (K50 ns S [wO a, wO b] [mO a, mO b] (pI 0) .h .h .h) from rfl]
      dsimp only
      rw [b0, Out.seq_nx, forGo_cons, show gNm 4 (.p (.int 1)) (K50 ns S [wO a, wO b] [mO a, mO b] .h .h .h .h) = some (K50 ns S [wO a, wO b] [mO a, mO b] (pI 1) .h .h .h) from rfl]
      dsimp only
      rw [b1, Out.seq_nx]; rfl
    simp only [K50] at *
    generalize pu S = P3 at *
    generalize wO a = A5 at *
    generalize wO b = A6 at *
    generalize mO a = A7 at *
    generalize mO b = A8 at *
    simp [law_s10, rg2, rl2, lp]
  have s11 : law_s11 (K50 ns S [wO a, wO b] [mO a, mO b] .h .h .h .h) = .rt (.p (.bool true)) (K50 ns S [wO a, wO b] [mO a, mO b] .h .h .h .h) := by
    have r1 := refused_ok (m := 0) (by decide)
    have r2 := refused_ok (m := -1) (by decide)
    have r3 := refused_ok (m := -100000000000000000000000000000) (by decide)
    simp only [K50] at *
    generalize pu S = P3 at *
    generalize wO a = A5 at *
    generalize wO b = A6 at *
    generalize mO a = A7 at *
    generalize mO b = A8 at *
    simp [law_s11, r1, r2, r3]
  refine ⟨mask [0] (K50 ns S [wO a, wO b] [mO a, mO b] .h .h .h .h) 1, ?_⟩
  unfold φ_law
  rw [fnOfBody_ap]
  change (match (sSeq law_s5 _) [.sc ns, .h, .h, .h, .h, .h, .h, .h, .h, .h] with
    | .st => DL.R.st
    | .nx e => DL.R.ok (OD.p .none) (mask [0] e 1)
    | .rt d e => DL.R.ok d (mask [0] e 1)
    | .ex C f e => DL.R.ex C f (mask [0] e 1)) = _
  rw [seq_to s5 (seq_to s6 (seq_to s7 (seq_to s8 (seq_to s9 (seq_to s10 s11)))))]
  rfl
end Lw

namespace Lw
open PySem PySem.Spec PyProof.Rows L2 DL
def topS (i : Nat) : Stmt := PySem.Challenge.pw_nearposts_k50_folk_that_come.main.body.getD i (.Pass ⟨0, 0, 0, 0⟩)
structure Ads where
  a_NoFolk : Addr
  a_NoLine : Addr
  a_NoMany : Addr
  a_NoName : Addr
  a_NoPost : Addr
  a_NoPosts : Addr
  a_NoReach : Addr
  a_NoRing : Addr
  a_NoTable : Addr
  a_NoText : Addr
  a_NoThing : Addr
  a_NoWay : Addr
  a_NoWord : Addr
  a_PostError : Addr
structure Txt (K : PySem.W.Frag) (mg : Mg) (A : Ads) : Prop where
  er_NoMany : ErC K mg "NoMany" A.a_NoMany
  xc_NoMany : PySem.W.excIn K A.a_NoMany [.type "ValueError", .type "Exception", .type "BaseException", .type "object"] "ValueError.__new__" = true
  te_NoFolk : TeC K mg "NoFolk" A.a_NoFolk
  te_NoLine : TeC K mg "NoLine" A.a_NoLine
  te_NoMany : TeC K mg "NoMany" A.a_NoMany
  te_NoName : TeC K mg "NoName" A.a_NoName
  te_NoPost : TeC K mg "NoPost" A.a_NoPost
  te_NoPosts : TeC K mg "NoPosts" A.a_NoPosts
  te_NoReach : TeC K mg "NoReach" A.a_NoReach
  te_NoRing : TeC K mg "NoRing" A.a_NoRing
  te_NoTable : TeC K mg "NoTable" A.a_NoTable
  te_NoText : TeC K mg "NoText" A.a_NoText
  te_NoThing : TeC K mg "NoThing" A.a_NoThing
  te_NoWay : TeC K mg "NoWay" A.a_NoWay
  te_NoWord : TeC K mg "NoWord" A.a_NoWord
  te_PostError : TeC K mg "PostError" A.a_PostError
  cat_PostError : ∀ C ∈ known, ∃ Ca, mg C = some (.ref Ca) ∧ PySem.W.nsIn K mainGlobals C = some (some (.ref Ca)) ∧ PySem.W.exmOne K (.ref Ca) (.ref A.a_PostError) = some true
  ki_NoFolk : ∀ D ∈ known, ∃ Da, ErC K mg D Da ∧ PySem.W.kitOne K (.ref Da) (.ref A.a_NoFolk) = some (erSub D "NoFolk")
  ki_NoLine : ∀ D ∈ known, ∃ Da, ErC K mg D Da ∧ PySem.W.kitOne K (.ref Da) (.ref A.a_NoLine) = some (erSub D "NoLine")
  ki_NoMany : ∀ D ∈ known, ∃ Da, ErC K mg D Da ∧ PySem.W.kitOne K (.ref Da) (.ref A.a_NoMany) = some (erSub D "NoMany")
  ki_NoName : ∀ D ∈ known, ∃ Da, ErC K mg D Da ∧ PySem.W.kitOne K (.ref Da) (.ref A.a_NoName) = some (erSub D "NoName")
  ki_NoPost : ∀ D ∈ known, ∃ Da, ErC K mg D Da ∧ PySem.W.kitOne K (.ref Da) (.ref A.a_NoPost) = some (erSub D "NoPost")
  ki_NoPosts : ∀ D ∈ known, ∃ Da, ErC K mg D Da ∧ PySem.W.kitOne K (.ref Da) (.ref A.a_NoPosts) = some (erSub D "NoPosts")
  ki_NoReach : ∀ D ∈ known, ∃ Da, ErC K mg D Da ∧ PySem.W.kitOne K (.ref Da) (.ref A.a_NoReach) = some (erSub D "NoReach")
  ki_NoRing : ∀ D ∈ known, ∃ Da, ErC K mg D Da ∧ PySem.W.kitOne K (.ref Da) (.ref A.a_NoRing) = some (erSub D "NoRing")
  ki_NoTable : ∀ D ∈ known, ∃ Da, ErC K mg D Da ∧ PySem.W.kitOne K (.ref Da) (.ref A.a_NoTable) = some (erSub D "NoTable")
  ki_NoText : ∀ D ∈ known, ∃ Da, ErC K mg D Da ∧ PySem.W.kitOne K (.ref Da) (.ref A.a_NoText) = some (erSub D "NoText")
  ki_NoThing : ∀ D ∈ known, ∃ Da, ErC K mg D Da ∧ PySem.W.kitOne K (.ref Da) (.ref A.a_NoThing) = some (erSub D "NoThing")
  ki_NoWay : ∀ D ∈ known, ∃ Da, ErC K mg D Da ∧ PySem.W.kitOne K (.ref Da) (.ref A.a_NoWay) = some (erSub D "NoWay")
  ki_NoWord : ∀ D ∈ known, ∃ Da, ErC K mg D Da ∧ PySem.W.kitOne K (.ref Da) (.ref A.a_NoWord) = some (erSub D "NoWord")
  kv : ∀ D ∈ known, ∃ Da, ErC K mg D Da ∧ PySem.W.kitOne K (.ref Da) (.type "ValueError") = some true
  cl_Watch : ClC K mg "Watch" ["many", "places", "chosen", "least_way", "barring"]
  b_ValueError : mg "ValueError" = none
  b_abs : mg "abs" = none
  b_all : mg "all" = none
  b_bool : mg "bool" = none
  b_enumerate : mg "enumerate" = none
  b_int : mg "int" = none
  b_isinstance : mg "isinstance" = none
  b_len : mg "len" = none
  b_list : mg "list" = none
  b_max : mg "max" = none
  b_min : mg "min" = none
  b_range : mg "range" = none
  b_reversed : mg "reversed" = none
  b_sum : mg "sum" = none
  b_tuple : mg "tuple" = none
abbrev st_law_digits : Stmt := topS 21
theorem sc_law_digits : FnScope ["_law_script", "_law_at", "_law_parts", "_law_unit", "_law_found", "_law_first", "_law_rest", "_law_k"] ["_law_script", "_law_at", "_law_parts"] (defScope st_law_digits) := ⟨rfl, rfl, rfl, by decide +kernel, rfl, by decide +kernel, by decide +kernel⟩
theorem ok_law_digits {P : Program} {w : World} {K : PySem.W.Frag} {mg : Mg} {base : Heap} {A : Ads} (T : Txt K mg A) {f : Addr} {fd : FuncData} (F : Fun K "_law_digits" "_law_digits" st_law_digits f fd)  :
    FnOk P w K mg base (L2.CX P w) 1 f fd ["_law_script", "_law_at", "_law_parts"] (spD K mg 3 φ_law_digits) :=
  fn_ok [0, 1, 2] F sc_law_digits (by decide) fun cdv A outer s H E hr =>
  have tk := takes_of (X := cxOf (L2.CX P w) P w K mg base ["_law_script", "_law_at", "_law_parts", "_law_unit", "_law_found", "_law_first", "_law_rest", "_law_k"] "_law_digits" (defScope st_law_digits) f cdv A outer s H E) (E := E) rfl rfl rfl rfl
  have po := passes_of (X := cxOf (L2.CX P w) P w K mg base ["_law_script", "_law_at", "_law_parts", "_law_unit", "_law_found", "_law_first", "_law_rest", "_law_k"] "_law_digits" (defScope st_law_digits) f cdv A outer s H E) rfl
  (dss_cons (ds_set 3 sc_law_digits.nd (de_callB (cr_sum rfl) c_sum (by decide +kernel) rfl T.b_sum (dv_cons (dv_of (de_lc 8 [("_law_k", 7)] rfl sc_law_digits.nd (blkOk_by (by (show L2.blkC ["_law_script", "_law_at", "_law_parts", "_law_unit", "_law_found", "_law_first", "_law_rest", "_law_k"] (defScope st_law_digits) _ _ = true); decide +kernel)) (di_rng3 rfl T.b_range (dv_cons (dv_at 1) (dv_cons (dv_of (de_callB (call_min2 rfl) c_min2 (by decide +kernel) rfl T.b_min (dv_cons (dv_of (de_callB call_len c_len PySem.boot_len rfl T.b_len (dv_cons (dv_at 0) dv_nil))) (dv_cons (dv_of de_int) dv_nil)))) (dv_cons (dv_at 2) dv_nil)))) (fun _ _ _ _ _ => (dg_name 7 sc_law_digits.nd)) (fun _ _ _ _ _ => dts_nil) (fun _ _ _ _ _ => (de_ix ix_seq s_ix (fun _ _ => rfl) (dv_at 0) (dv_at 7))))) dv_nil)))
  (dss_cons (ds_set 4 sc_law_digits.nd (de_lst da_nil))
  (dss_cons (ds_set 5 sc_law_digits.nd (de_bin op_mod s_mod (dv_of (de_bin op_addD s_add (dv_of (de_bin op_mulD s_mul (dv_at 3) (dv_of de_int))) (dv_of de_int))) (dv_of de_int)))
  (dss_cons (ds_set 6 sc_law_digits.nd (de_bin op_mulD s_mul (dv_at 3) (dv_of (de_callT call_int1 c_int (by decide +kernel) rfl T.b_int (dv_cons (dv_of (de_cmp op_ge s_ge (nomark _) (dv_at 3) (dv_of (de_bin op_pow s_pow (dv_of de_int) (dv_of de_int))))) dv_nil)))))
  (dss_cons (ds_fgt [5, 6] (ds_for po rfl (di_rng1 rfl T.b_range (dv_cons (dv_of de_int) dv_nil)) (dg_name 7 sc_law_digits.nd) (dss_fgt [7] (dss_cons (ds_set 5 sc_law_digits.nd (de_bin op_mod s_mod (dv_of (de_bin op_addD s_add (dv_of (de_bin op_addD s_add (dv_of (de_bin op_mulD s_mul (dv_at 5) (dv_at 5))) (dv_at 3))) (dv_of (de_bin op_mulD s_mul (dv_of de_int) (dv_at 7))))) (dv_of de_int)))
  (dss_cons (ds_if (dt_cmp op_gt s_gt (nomark _) (dv_at 6) (dv_of de_int)) (dss_one (ds_exp (de_mut 4 PySem.F.slot_list_append PySem.F.type_list_append mt_append m_append (da_cons (de_bin op_mod s_mod (dv_at 6) (dv_of de_int)) da_nil)))) (dss_one (ds_exp (de_mut 4 PySem.F.slot_list_append PySem.F.type_list_append mt_append m_append (da_cons (de_bin op_mod s_mod (dv_of (de_bin op_mod s_mod (dv_of (de_bin op_mulD s_mul (dv_at 5) (dv_at 5))) (dv_of de_int))) (dv_of de_int)) da_nil)))))
  (dss_one (ds_set 6 sc_law_digits.nd (de_bin op_fdivW s_fdiv (dv_at 6) (dv_of de_int)))))))))
  (dss_one (ds_ret (de_listRev rfl rfl T.b_list rfl T.b_reversed (dv_at 4)))))))))
abbrev st_look_at_many : Stmt := topS 16
theorem sc_look_at_many : FnScope ["many"] ["many"] (defScope st_look_at_many) := ⟨rfl, rfl, rfl, by decide +kernel, rfl, by decide +kernel, by decide +kernel⟩
theorem ok_look_at_many {P : Program} {w : World} {K : PySem.W.Frag} {mg : Mg} {base : Heap} {A : Ads} (T : Txt K mg A) {f : Addr} {fd : FuncData} (F : Fun K "look_at_many" "look_at_many" st_look_at_many f fd)  :
    FnOk P w K mg base (L2.CX P w) 1 f fd ["many"] (spD K mg 1 φ_look_at_many) :=
  fn_ok [0] F sc_look_at_many (by decide) fun cdv A outer s H E hr =>
  have tk := takes_of (X := cxOf (L2.CX P w) P w K mg base ["many"] "look_at_many" (defScope st_look_at_many) f cdv A outer s H E) (E := E) rfl rfl rfl rfl
  have po := passes_of (X := cxOf (L2.CX P w) P w K mg base ["many"] "look_at_many" (defScope st_look_at_many) f cdv A outer s H E) rfl
  (dss_one (ds_if (dt_cmp op_lt s_lt (nomark _) (dv_at 0) (dv_of de_int)) (dss_one (ds_raise rfl tk T.er_NoMany T.xc_NoMany rfl)) dss_nil))
abbrev st_Watch_init : Stmt := inClass (topS 18) 0
theorem sc_Watch_init : FnScope ["self", "many"] ["self", "many"] (defScope st_Watch_init) := ⟨rfl, rfl, rfl, by decide +kernel, rfl, by decide +kernel, by decide +kernel⟩
theorem ok_Watch_init {P : Program} {w : World} {K : PySem.W.Frag} {mg : Mg} {base : Heap} {A : Ads} (T : Txt K mg A) {f : Addr} {fd : FuncData} (F : Fun K "__init__" "Watch.__init__" st_Watch_init f fd) (D_look_at_many : Def P w K mg base "look_at_many" 1 φ_look_at_many 1) :
    FnOk P w K mg base (L2.CX P w) 2 f fd ["self", "many"] (spD K mg 2 φ_Watch_init) :=
  fn_ok [0, 1] F sc_Watch_init (by decide) fun cdv A outer s H E hr =>
  have tk := takes_of (X := cxOf (L2.CX P w) P w K mg base ["self", "many"] "Watch.__init__" (defScope st_Watch_init) f cdv A outer s H E) (E := E) rfl rfl rfl rfl
  have po := passes_of (X := cxOf (L2.CX P w) P w K mg base ["self", "many"] "Watch.__init__" (defScope st_Watch_init) f cdv A outer s H E) rfl
  (dss_cons (ds_exp (de_call D_look_at_many hr tk (db_cons (db_slot 1) db_nil)))
  (dss_cons (ds_fld 0 T.cl_Watch (de_var 1))
  (dss_cons (ds_fld 0 T.cl_Watch (de_lst da_nil))
  (dss_cons (ds_fld 0 T.cl_Watch (de_lst da_nil))
  (dss_cons (ds_fld 0 T.cl_Watch de_int)
  (dss_one (ds_fld 0 T.cl_Watch de_non)))))))
abbrev st_law_place : Stmt := topS 22
theorem sc_law_place : FnScope ["_law_purse", "_law_digit", "_law_number", "_law_size"] ["_law_purse"] (defScope st_law_place) := ⟨rfl, rfl, rfl, by decide +kernel, rfl, by decide +kernel, by decide +kernel⟩
theorem ok_law_place {P : Program} {w : World} {K : PySem.W.Frag} {mg : Mg} {base : Heap} {A : Ads} (T : Txt K mg A) {f : Addr} {fd : FuncData} (F : Fun K "_law_place" "_law_place" st_law_place f fd)  :
    FnOk P w K mg base (L2.CX P w) 1 f fd ["_law_purse"] (spD K mg 1 φ_law_place) :=
  fn_ok [0] F sc_law_place (by decide) fun cdv A outer s H E hr =>
  have tk := takes_of (X := cxOf (L2.CX P w) P w K mg base ["_law_purse", "_law_digit", "_law_number", "_law_size"] "_law_place" (defScope st_law_place) f cdv A outer s H E) (E := E) rfl rfl rfl rfl
  have po := passes_of (X := cxOf (L2.CX P w) P w K mg base ["_law_purse", "_law_digit", "_law_number", "_law_size"] "_law_place" (defScope st_law_place) f cdv A outer s H E) rfl
  (dss_cons (ds_set 1 sc_law_place.nd (de_mut0 0 PySem.F.slot_list_pop PySem.F.type_list_pop mt_pop m_pop))
  (dss_cons (ds_set 2 sc_law_place.nd (de_mut0 0 PySem.F.slot_list_pop PySem.F.type_list_pop mt_pop m_pop))
  (dss_cons (ds_if (dt_cmp (op_eqD hr.units) s_eq (nomark _) (dv_of (de_bin op_mod s_mod (dv_at 1) (dv_of de_int))) (dv_of de_int)) (dss_one (ds_ret (de_tup (da_cons (de_bin op_sub s_sub (dv_of (de_bin op_mulD s_mul (dv_at 2) (dv_of (de_bin op_pow s_pow (dv_of de_int) (dv_of de_int))))) (dv_of (de_bin op_mulD s_mul (dv_of de_int) (dv_of (de_bin op_pow s_pow (dv_of de_int) (dv_of de_int)))))) (da_cons (de_bin op_sub s_sub (dv_of (de_bin op_mulD s_mul (dv_at 1) (dv_of (de_bin op_pow s_pow (dv_of de_int) (dv_of de_int))))) (dv_of (de_bin op_mulD s_mul (dv_of de_int) (dv_of (de_bin op_pow s_pow (dv_of de_int) (dv_of de_int)))))) da_nil))))) dss_nil)
  (dss_cons (ds_set 3 sc_law_place.nd (de_ix ix_seq s_ix (fun _ _ => rfl) (dv_of (de_lst (da_cons de_int (da_cons de_int (da_cons de_int (da_cons de_int da_nil)))))) (dv_of (de_bin op_mod s_mod (dv_of (de_bin op_fdivW s_fdiv (dv_at 1) (dv_of de_int))) (dv_of de_int)))))
  (dss_one (ds_ret (de_tup (da_cons (de_bin op_sub s_sub (dv_of (de_bin op_mod s_mod (dv_of (de_bin op_fdivW s_fdiv (dv_at 1) (dv_of de_int))) (dv_at 3))) (dv_of (de_bin op_fdivW s_fdiv (dv_at 3) (dv_of de_int)))) (da_cons (de_bin op_sub s_sub (dv_of (de_bin op_mod s_mod (dv_at 2) (dv_at 3))) (dv_of (de_bin op_fdivW s_fdiv (dv_at 3) (dv_of de_int)))) da_nil)))))))))
abbrev st_Watch_way : Stmt := inClass (topS 18) 1
theorem sc_Watch_way : FnScope ["self", "one", "other", "x", "y", "u", "v"] ["self", "one", "other"] (defScope st_Watch_way) := ⟨rfl, rfl, rfl, by decide +kernel, rfl, by decide +kernel, by decide +kernel⟩
theorem ok_Watch_way {P : Program} {w : World} {K : PySem.W.Frag} {mg : Mg} {base : Heap} {A : Ads} (T : Txt K mg A) {f : Addr} {fd : FuncData} (F : Fun K "way" "Watch.way" st_Watch_way f fd)  :
    FnOk P w K mg base (L2.CX P w) 1 f fd ["self", "one", "other"] (spD K mg 3 φ_Watch_way) :=
  fn_ok [0, 1, 2] F sc_Watch_way (by decide) fun cdv A outer s H E hr =>
  have tk := takes_of (X := cxOf (L2.CX P w) P w K mg base ["self", "one", "other", "x", "y", "u", "v"] "Watch.way" (defScope st_Watch_way) f cdv A outer s H E) (E := E) rfl rfl rfl rfl
  have po := passes_of (X := cxOf (L2.CX P w) P w K mg base ["self", "one", "other", "x", "y", "u", "v"] "Watch.way" (defScope st_Watch_way) f cdv A outer s H E) rfl
  (dss_cons (ds_asg (de_ix ix_seq s_ix (fun _ _ => rfl) (dv_of (de_fld T.cl_Watch (dv_at 0))) (dv_at 1)) (dg_tup 2 rfl (dgs_cons (dg_name 3 sc_Watch_way.nd) (dgs_cons (dg_name 4 sc_Watch_way.nd) dgs_nil))))
  (dss_cons (ds_asg (de_ix ix_seq s_ix (fun _ _ => rfl) (dv_of (de_fld T.cl_Watch (dv_at 0))) (dv_at 2)) (dg_tup 2 rfl (dgs_cons (dg_name 5 sc_Watch_way.nd) (dgs_cons (dg_name 6 sc_Watch_way.nd) dgs_nil))))
  (dss_one (ds_ret (de_callB (call_max2 rfl) c_max2 (by decide +kernel) rfl T.b_max (dv_cons (dv_of (de_callB call_abs c_abs (by decide +kernel) rfl T.b_abs (dv_cons (dv_of (de_bin op_sub s_sub (dv_at 3) (dv_at 5))) dv_nil))) (dv_cons (dv_of (de_callB call_abs c_abs (by decide +kernel) rfl T.b_abs (dv_cons (dv_of (de_bin op_sub s_sub (dv_at 4) (dv_at 6))) dv_nil))) dv_nil)))))))
abbrev st_Watch_is_far : Stmt := inClass (topS 18) 2
theorem sc_Watch_is_far : FnScope ["self", "number", "posts", "post"] ["self", "number", "posts"] (defScope st_Watch_is_far) := ⟨rfl, rfl, rfl, by decide +kernel, rfl, by decide +kernel, by decide +kernel⟩
theorem ok_Watch_is_far {P : Program} {w : World} {K : PySem.W.Frag} {mg : Mg} {base : Heap} {A : Ads} (T : Txt K mg A) {f : Addr} {fd : FuncData} (F : Fun K "is_far" "Watch.is_far" st_Watch_is_far f fd) (D_Watch_way : DefMt P w K mg base "Watch" "way" 2 φ_Watch_way 1) :
    FnOk P w K mg base (L2.CX P w) 3 f fd ["self", "number", "posts"] (spD K mg 3 φ_Watch_is_far) :=
  fn_ok [0, 1, 2] F sc_Watch_is_far (by decide) fun cdv A outer s H E hr =>
  have tk := takes_of (X := cxOf (L2.CX P w) P w K mg base ["self", "number", "posts", "post"] "Watch.is_far" (defScope st_Watch_is_far) f cdv A outer s H E) (E := E) rfl rfl rfl rfl
  have po := passes_of (X := cxOf (L2.CX P w) P w K mg base ["self", "number", "posts", "post"] "Watch.is_far" (defScope st_Watch_is_far) f cdv A outer s H E) rfl
  (dss_one (ds_ret (de_callB (cr_all rfl) c_all (by decide +kernel) rfl T.b_all (dv_cons (dv_of (de_lcA 4 [("post", 3)] rfl sc_Watch_is_far.nd (blkOk_by (by (show L2.blkC ["self", "number", "posts", "post"] (defScope st_Watch_is_far) _ _ = true); decide +kernel)) (dia_name 2) (fun _ _ _ _ _ => (dg_name 3 sc_Watch_is_far.nd)) (fun _ _ _ _ _ => dts_nil) (fun _ _ _ _ _ => (de_cmp op_gt s_gt (nomark _) (dv_of (de_mt D_Watch_way hr takes0 (plc_name 0) (dp_cons (db_slot 1) (dp_cons (db_slot 3) dp_nil)))) (dv_of (de_bin op_mulD s_mul (dv_of de_int) (dv_of (de_fld T.cl_Watch (dv_at 0))))))))) dv_nil))))
abbrev st_Watch_thin : Stmt := inClass (topS 18) 4
theorem sc_Watch_thin : FnScope ["self", "ways", "at", "post", "left", "other"] ["self"] (defScope st_Watch_thin) := ⟨rfl, rfl, rfl, by decide +kernel, rfl, by decide +kernel, by decide +kernel⟩
theorem ok_Watch_thin {P : Program} {w : World} {K : PySem.W.Frag} {mg : Mg} {base : Heap} {A : Ads} (T : Txt K mg A) {f : Addr} {fd : FuncData} (F : Fun K "thin" "Watch.thin" st_Watch_thin f fd) (D_Watch_way : DefMt P w K mg base "Watch" "way" 2 φ_Watch_way 1) (D_Watch_is_far : DefMt P w K mg base "Watch" "is_far" 2 φ_Watch_is_far 3) :
    FnOk P w K mg base (L2.CX P w) 5 f fd ["self"] (spD K mg 1 φ_Watch_thin) :=
  fn_ok [0] F sc_Watch_thin (by decide) fun cdv A outer s H E hr =>
  have tk := takes_of (X := cxOf (L2.CX P w) P w K mg base ["self", "ways", "at", "post", "left", "other"] "Watch.thin" (defScope st_Watch_thin) f cdv A outer s H E) (E := E) rfl rfl rfl rfl
  have po := passes_of (X := cxOf (L2.CX P w) P w K mg base ["self", "ways", "at", "post", "left", "other"] "Watch.thin" (defScope st_Watch_thin) f cdv A outer s H E) rfl
  (dss_cons (ds_set 1 sc_Watch_thin.nd (de_lst da_nil))
  (dss_cons (ds_lk 0 (ds_for po rfl (di_enum rfl T.b_enumerate (da_cons (de_fld T.cl_Watch (dv_at 0)) da_nil)) (dg_tup 2 rfl (dgs_cons (dg_name 2 sc_Watch_thin.nd) (dgs_cons (dg_name 3 sc_Watch_thin.nd) dgs_nil))) (dss_fgt [2, 3] (dss_one (ds_exp (de_mut 1 PySem.F.slot_list_extend PySem.F.type_list_extend mt_extend m_extend (da_cons (de_lc 6 [("other", 5)] rfl sc_Watch_thin.nd (blkOk_by (by (show L2.blkC ["self", "ways", "at", "post", "left", "other"] (defScope st_Watch_thin) _ _ = true); decide +kernel)) (di_seq (de_slice (dv_of (de_fld T.cl_Watch (dv_at 0))) po0 (po1 (de_var 2)))) (fun _ _ _ _ _ => (dg_name 5 sc_Watch_thin.nd)) (fun _ _ _ _ _ => dts_nil) (fun _ _ _ _ _ => (de_mt D_Watch_way hr takes0 (plc_name 0) (dp_cons (db_slot 3) (dp_cons (db_slot 5) dp_nil))))) da_nil)))))))
  (dss_cons (ds_fld 0 T.cl_Watch (de_callB (cr_min rfl) c_min1 (by decide +kernel) rfl T.b_min (dv_cons (dv_at 1) dv_nil)))
  (dss_cons (ds_fld 0 T.cl_Watch (de_lk 0 (de_callT call_list_of c_list (by decide +kernel) rfl T.b_list (dv_cons (dv_of (de_fld T.cl_Watch (dv_at 0))) dv_nil))))
  (dss_cons (ds_set 4 sc_Watch_thin.nd (de_lst da_nil))
  (dss_cons (ds_lk 0 (ds_for po rfl (di_seq (de_fld T.cl_Watch (dv_at 0))) (dg_name 3 sc_Watch_thin.nd) (dss_fgt [3] (dss_one (ds_if (dt_of (de_mt D_Watch_is_far hr tk (plc_name 0) (dp_cons (db_slot 3) (dp_cons (db_slot 4) dp_nil)))) (dss_one (ds_exp (de_mut 4 PySem.F.slot_list_append PySem.F.type_list_append mt_append m_append (da_cons (de_var 3) da_nil)))) dss_nil)))))
  (dss_one (ds_fld 0 T.cl_Watch (de_mv 4)))))))))
abbrev st_Watch_come : Stmt := inClass (topS 18) 3
theorem sc_Watch_come : FnScope ["self", "x", "y", "number"] ["self", "x", "y"] (defScope st_Watch_come) := ⟨rfl, rfl, rfl, by decide +kernel, rfl, by decide +kernel, by decide +kernel⟩
theorem ok_Watch_come {P : Program} {w : World} {K : PySem.W.Frag} {mg : Mg} {base : Heap} {A : Ads} (T : Txt K mg A) {f : Addr} {fd : FuncData} (F : Fun K "come" "Watch.come" st_Watch_come f fd) (D_Watch_is_far : DefMt P w K mg base "Watch" "is_far" 2 φ_Watch_is_far 3) (D_Watch_thin : DefMt P w K mg base "Watch" "thin" 0 φ_Watch_thin 5) :
    FnOk P w K mg base (L2.CX P w) 7 f fd ["self", "x", "y"] (spD K mg 3 φ_Watch_come) :=
  fn_ok [0, 1, 2] F sc_Watch_come (by decide) fun cdv A outer s H E hr =>
  have tk := takes_of (X := cxOf (L2.CX P w) P w K mg base ["self", "x", "y", "number"] "Watch.come" (defScope st_Watch_come) f cdv A outer s H E) (E := E) rfl rfl rfl rfl
  have po := passes_of (X := cxOf (L2.CX P w) P w K mg base ["self", "x", "y", "number"] "Watch.come" (defScope st_Watch_come) f cdv A outer s H E) rfl
  (dss_cons (ds_set 3 sc_Watch_come.nd (de_lk 0 (de_callB call_len c_len PySem.boot_len rfl T.b_len (dv_cons (dv_of (de_fld T.cl_Watch (dv_at 0))) dv_nil))))
  (dss_cons (ds_exp (de_mutP PySem.F.slot_list_append PySem.F.type_list_append mt_append m_append (plc_fld T.cl_Watch (plc_name 0)) (da_cons (de_tup (da_cons (de_var 1) (da_cons (de_var 2) da_nil))) da_nil)))
  (dss_cons (ds_if (dt_of (de_lk 0 (de_mt D_Watch_is_far hr tk (plc_name 0) (dp_cons (db_slot 3) (dp_cons (db_val (de_fld T.cl_Watch (dv_at 0))) dp_nil))))) (dss_one (ds_exp (de_mutP PySem.F.slot_list_append PySem.F.type_list_append mt_append m_append (plc_fld T.cl_Watch (plc_name 0)) (da_cons (de_var 3) da_nil)))) dss_nil)
  (dss_cons (ds_while (fun _ => 3) po (dt_cmp op_gt s_gt (nomark _) (dv_of (de_lk 0 (de_callB call_len c_len PySem.boot_len rfl T.b_len (dv_cons (dv_of (de_fld T.cl_Watch (dv_at 0))) dv_nil)))) (dv_of (de_fld T.cl_Watch (dv_at 0)))) (dss_one (ds_exp (de_mt0 D_Watch_thin hr tk (plc_name 0)))))
  (dss_one (ds_ret (de_mv 3)))))))
abbrev st_law_way : Stmt := topS 23
theorem sc_law_way : FnScope ["_law_model", "_law_one", "_law_other", "_law_x", "_law_y", "_law_u", "_law_v"] ["_law_model", "_law_one", "_law_other"] (defScope st_law_way) := ⟨rfl, rfl, rfl, by decide +kernel, rfl, by decide +kernel, by decide +kernel⟩
theorem ok_law_way {P : Program} {w : World} {K : PySem.W.Frag} {mg : Mg} {base : Heap} {A : Ads} (T : Txt K mg A) {f : Addr} {fd : FuncData} (F : Fun K "_law_way" "_law_way" st_law_way f fd)  :
    FnOk P w K mg base (L2.CX P w) 1 f fd ["_law_model", "_law_one", "_law_other"] (spD K mg 3 φ_law_way) :=
  fn_ok [0, 1, 2] F sc_law_way (by decide) fun cdv A outer s H E hr =>
  have tk := takes_of (X := cxOf (L2.CX P w) P w K mg base ["_law_model", "_law_one", "_law_other", "_law_x", "_law_y", "_law_u", "_law_v"] "_law_way" (defScope st_law_way) f cdv A outer s H E) (E := E) rfl rfl rfl rfl
  have po := passes_of (X := cxOf (L2.CX P w) P w K mg base ["_law_model", "_law_one", "_law_other", "_law_x", "_law_y", "_law_u", "_law_v"] "_law_way" (defScope st_law_way) f cdv A outer s H E) rfl
  (dss_cons (ds_asg (de_ix ix_seq s_ix (fun _ _ => rfl) (dv_of (de_pl (plc_key (units1 hr) (plc_name 0) qt_str))) (dv_at 1)) (dg_tup 2 rfl (dgs_cons (dg_name 3 sc_law_way.nd) (dgs_cons (dg_name 4 sc_law_way.nd) dgs_nil))))
  (dss_cons (ds_asg (de_ix ix_seq s_ix (fun _ _ => rfl) (dv_of (de_pl (plc_key (units1 hr) (plc_name 0) qt_str))) (dv_at 2)) (dg_tup 2 rfl (dgs_cons (dg_name 5 sc_law_way.nd) (dgs_cons (dg_name 6 sc_law_way.nd) dgs_nil))))
  (dss_one (ds_ret (de_callB (call_max2 rfl) c_max2 (by decide +kernel) rfl T.b_max (dv_cons (dv_of (de_callB call_abs c_abs (by decide +kernel) rfl T.b_abs (dv_cons (dv_of (de_bin op_sub s_sub (dv_at 3) (dv_at 5))) dv_nil))) (dv_cons (dv_of (de_callB call_abs c_abs (by decide +kernel) rfl T.b_abs (dv_cons (dv_of (de_bin op_sub s_sub (dv_at 4) (dv_at 6))) dv_nil))) dv_nil)))))))
abbrev st_law_is_far : Stmt := topS 24
theorem sc_law_is_far : FnScope ["_law_model", "_law_number", "_law_posts", "_law_post"] ["_law_model", "_law_number", "_law_posts"] (defScope st_law_is_far) := ⟨rfl, rfl, rfl, by decide +kernel, rfl, by decide +kernel, by decide +kernel⟩
theorem ok_law_is_far {P : Program} {w : World} {K : PySem.W.Frag} {mg : Mg} {base : Heap} {A : Ads} (T : Txt K mg A) {f : Addr} {fd : FuncData} (F : Fun K "_law_is_far" "_law_is_far" st_law_is_far f fd) (D_law_way : Def P w K mg base "_law_way" 3 φ_law_way 1) :
    FnOk P w K mg base (L2.CX P w) 2 f fd ["_law_model", "_law_number", "_law_posts"] (spD K mg 3 φ_law_is_far) :=
  fn_ok [0, 1, 2] F sc_law_is_far (by decide) fun cdv A outer s H E hr =>
  have tk := takes_of (X := cxOf (L2.CX P w) P w K mg base ["_law_model", "_law_number", "_law_posts", "_law_post"] "_law_is_far" (defScope st_law_is_far) f cdv A outer s H E) (E := E) rfl rfl rfl rfl
  have po := passes_of (X := cxOf (L2.CX P w) P w K mg base ["_law_model", "_law_number", "_law_posts", "_law_post"] "_law_is_far" (defScope st_law_is_far) f cdv A outer s H E) rfl
  (dss_one (ds_ret (de_cmp (op_eqD hr.units) s_eq (nomark _) (dv_of (de_lcA 4 [("_law_post", 3)] rfl sc_law_is_far.nd (blkOk_by (by (show L2.blkC ["_law_model", "_law_number", "_law_posts", "_law_post"] (defScope st_law_is_far) _ _ = true); decide +kernel)) (dia_name 2) (fun _ _ _ _ _ => (dg_name 3 sc_law_is_far.nd)) (fun _ _ _ _ _ => (dts_one (dt_cmp op_le s_le (nomark _) (dv_of (de_call D_law_way hr takes0 (db_cons (db_slot 0) (db_cons (db_slot 1) (db_cons (db_slot 3) db_nil))))) (dv_of (de_bin op_mulD s_mul (dv_of de_int) (dv_of (de_pl (plc_key (units1 hr) (plc_name 0) qt_str)))))))) (fun _ _ _ _ _ => (de_var 3)))) (dv_of (de_lst da_nil)))))
abbrev st_law_thinned : Stmt := topS 25
theorem sc_law_thinned : FnScope ["_law_model", "_law_ways", "_law_at", "_law_left", "_law_post"] ["_law_model"] (defScope st_law_thinned) := ⟨rfl, rfl, rfl, by decide +kernel, rfl, by decide +kernel, by decide +kernel⟩
theorem ok_law_thinned {P : Program} {w : World} {K : PySem.W.Frag} {mg : Mg} {base : Heap} {A : Ads} (T : Txt K mg A) {f : Addr} {fd : FuncData} (F : Fun K "_law_thinned" "_law_thinned" st_law_thinned f fd) (D_law_way : Def P w K mg base "_law_way" 3 φ_law_way 1) (D_law_is_far : Def P w K mg base "_law_is_far" 3 φ_law_is_far 2) :
    FnOk P w K mg base (L2.CX P w) 3 f fd ["_law_model"] (spD K mg 1 φ_law_thinned) :=
  fn_ok [0] F sc_law_thinned (by decide) fun cdv A outer s H E hr =>
  have tk := takes_of (X := cxOf (L2.CX P w) P w K mg base ["_law_model", "_law_ways", "_law_at", "_law_left", "_law_post"] "_law_thinned" (defScope st_law_thinned) f cdv A outer s H E) (E := E) rfl rfl rfl rfl
  have po := passes_of (X := cxOf (L2.CX P w) P w K mg base ["_law_model", "_law_ways", "_law_at", "_law_left", "_law_post"] "_law_thinned" (defScope st_law_thinned) f cdv A outer s H E) rfl
  (dss_cons (ds_set 1 sc_law_thinned.nd (de_lst da_nil))
  (dss_cons (ds_for po rfl (di_rng1 rfl T.b_range (dv_cons (dv_of (de_callB call_len c_len PySem.boot_len rfl T.b_len (dv_cons (dv_of (de_pl (plc_key (units1 hr) (plc_name 0) qt_str))) dv_nil))) dv_nil)) (dg_name 2 sc_law_thinned.nd) (dss_fgt [2] (dss_one (ds_set 1 sc_law_thinned.nd (de_bin op_addD s_add (dv_at 1) (dv_of (de_lc 5 [("_law_post", 4)] rfl sc_law_thinned.nd (blkOk_by (by (show L2.blkC ["_law_model", "_law_ways", "_law_at", "_law_left", "_law_post"] (defScope st_law_thinned) _ _ = true); decide +kernel)) (di_seq (de_slice (dv_of (de_pl (plc_key (units1 hr) (plc_name 0) qt_str))) po0 (po1 (de_var 2)))) (fun _ _ _ _ _ => (dg_name 4 sc_law_thinned.nd)) (fun _ _ _ _ _ => dts_nil) (fun _ _ _ _ _ => (de_call D_law_way hr takes0 (db_late 0 (db_cons (db_val (de_ix ix_seq s_ix (fun _ _ => rfl) (dv_of (de_pl (plc_key (units1 hr) (plc_name 0) qt_str))) (dv_at 2))) (db_cons (db_slot 4) db_nil))))))))))))
  (dss_cons (ds_key (units1 hr) (plc_name 0) qt_str (de_fz (de_callB (cr_min rfl) c_min1 (by decide +kernel) rfl T.b_min (dv_cons (dv_at 1) dv_nil))))
  (dss_cons (ds_key (units1 hr) (plc_name 0) qt_str (de_pl (plc_key (units1 hr) (plc_name 0) qt_str)))
  (dss_cons (ds_set 3 sc_law_thinned.nd (de_lst da_nil))
  (dss_cons (ds_for po rfl (di_seq (de_pl (plc_key (units1 hr) (plc_name 0) qt_str))) (dg_name 4 sc_law_thinned.nd) (dss_fgt [4] (dss_one (ds_if (dt_of (de_call D_law_is_far hr tk (db_cons (db_slot 0) (db_cons (db_slot 4) (db_cons (db_slot 3) db_nil))))) (dss_one (ds_set 3 sc_law_thinned.nd (de_bin op_addD s_add (dv_at 3) (dv_of (de_lst (da_cons (de_var 4) da_nil)))))) dss_nil))))
  (dss_one (ds_key (units1 hr) (plc_name 0) qt_str (de_var 3)))))))))
abbrev st_law_come : Stmt := topS 26
theorem sc_law_come : FnScope ["_law_model", "_law_place_here", "_law_number"] ["_law_model", "_law_place_here"] (defScope st_law_come) := ⟨rfl, rfl, rfl, by decide +kernel, rfl, by decide +kernel, by decide +kernel⟩
theorem ok_law_come {P : Program} {w : World} {K : PySem.W.Frag} {mg : Mg} {base : Heap} {A : Ads} (T : Txt K mg A) {f : Addr} {fd : FuncData} (F : Fun K "_law_come" "_law_come" st_law_come f fd) (D_law_is_far : Def P w K mg base "_law_is_far" 3 φ_law_is_far 2) (D_law_thinned : Def P w K mg base "_law_thinned" 1 φ_law_thinned 3) :
    FnOk P w K mg base (L2.CX P w) 4 f fd ["_law_model", "_law_place_here"] (spD K mg 2 φ_law_come) :=
  fn_ok [0, 1] F sc_law_come (by decide) fun cdv A outer s H E hr =>
  have tk := takes_of (X := cxOf (L2.CX P w) P w K mg base ["_law_model", "_law_place_here", "_law_number"] "_law_come" (defScope st_law_come) f cdv A outer s H E) (E := E) rfl rfl rfl rfl
  have po := passes_of (X := cxOf (L2.CX P w) P w K mg base ["_law_model", "_law_place_here", "_law_number"] "_law_come" (defScope st_law_come) f cdv A outer s H E) rfl
  (dss_cons (ds_set 2 sc_law_come.nd (de_callB call_len c_len PySem.boot_len rfl T.b_len (dv_cons (dv_of (de_pl (plc_key (units1 hr) (plc_name 0) qt_str))) dv_nil)))
  (dss_cons (ds_key (units1 hr) (plc_name 0) qt_str (de_fz (de_bin op_addD s_add (dv_of (de_pl (plc_key (units1 hr) (plc_name 0) qt_str))) (dv_of (de_lst (da_cons (de_var 1) da_nil))))))
  (dss_cons (ds_if (dt_of (de_call D_law_is_far hr tk (db_late 0 (db_cons (db_slot 2) (db_cons (db_val (de_pl (plc_key (units1 hr) (plc_name 0) qt_str))) db_nil))))) (dss_one (ds_key (units1 hr) (plc_name 0) qt_str (de_fz (de_bin op_addD s_add (dv_of (de_pl (plc_key (units1 hr) (plc_name 0) qt_str))) (dv_of (de_lst (da_cons (de_var 2) da_nil))))))) dss_nil)
  (dss_cons (ds_if (dt_cmp op_gt s_gt (nomark _) (dv_of (de_callB call_len c_len PySem.boot_len rfl T.b_len (dv_cons (dv_of (de_pl (plc_key (units1 hr) (plc_name 0) qt_str))) dv_nil))) (dv_of (de_pl (plc_key (units1 hr) (plc_name 0) qt_str)))) (dss_one (ds_exp (de_call D_law_thinned hr tk (db_cons (db_slot 0) db_nil)))) dss_nil)
  (dss_one (ds_ret (de_mv 2)))))))
abbrev st_law_whole : Stmt := topS 20
theorem sc_law_whole : FnScope ["_law_found"] ["_law_found"] (defScope st_law_whole) := ⟨rfl, rfl, rfl, by decide +kernel, rfl, by decide +kernel, by decide +kernel⟩
theorem ok_law_whole {P : Program} {w : World} {K : PySem.W.Frag} {mg : Mg} {base : Heap} {A : Ads} (T : Txt K mg A) {f : Addr} {fd : FuncData} (F : Fun K "_law_whole" "_law_whole" st_law_whole f fd)  :
    FnOk P w K mg base (L2.CX P w) 1 f fd ["_law_found"] (spD K mg 1 φ_law_whole) :=
  fn_ok [0] F sc_law_whole (by decide) fun cdv A outer s H E hr =>
  have tk := takes_of (X := cxOf (L2.CX P w) P w K mg base ["_law_found"] "_law_whole" (defScope st_law_whole) f cdv A outer s H E) (E := E) rfl rfl rfl rfl
  have po := passes_of (X := cxOf (L2.CX P w) P w K mg base ["_law_found"] "_law_whole" (defScope st_law_whole) f cdv A outer s H E) rfl
  (dss_one (ds_ret (de_and (de_isi (T := "int") (by decide +kernel) rfl T.b_int rfl T.b_isinstance (dv_at 0)) (de_one (de_not (de_isi (T := "bool") (by decide +kernel) rfl T.b_bool rfl T.b_isinstance (dv_at 0)))))))
abbrev st_Watch_folk : Stmt := inClass (topS 18) 5
theorem sc_Watch_folk : FnScope ["self"] ["self"] (defScope st_Watch_folk) := ⟨rfl, rfl, rfl, by decide +kernel, rfl, by decide +kernel, by decide +kernel⟩
theorem ok_Watch_folk {P : Program} {w : World} {K : PySem.W.Frag} {mg : Mg} {base : Heap} {A : Ads} (T : Txt K mg A) {f : Addr} {fd : FuncData} (F : Fun K "folk" "Watch.folk" st_Watch_folk f fd)  :
    FnOk P w K mg base (L2.CX P w) 1 f fd ["self"] (spD K mg 1 φ_Watch_folk) :=
  fn_ok [0] F sc_Watch_folk (by decide) fun cdv A outer s H E hr =>
  have tk := takes_of (X := cxOf (L2.CX P w) P w K mg base ["self"] "Watch.folk" (defScope st_Watch_folk) f cdv A outer s H E) (E := E) rfl rfl rfl rfl
  have po := passes_of (X := cxOf (L2.CX P w) P w K mg base ["self"] "Watch.folk" (defScope st_Watch_folk) f cdv A outer s H E) rfl
  (dss_one (ds_ret (de_callT call_list_of c_list (by decide +kernel) rfl T.b_list (dv_cons (dv_of (de_fld T.cl_Watch (dv_at 0))) dv_nil))))
abbrev st_Watch_bar : Stmt := inClass (topS 18) 8
theorem sc_Watch_bar : FnScope ["self"] ["self"] (defScope st_Watch_bar) := ⟨rfl, rfl, rfl, by decide +kernel, rfl, by decide +kernel, by decide +kernel⟩
theorem ok_Watch_bar {P : Program} {w : World} {K : PySem.W.Frag} {mg : Mg} {base : Heap} {A : Ads} (T : Txt K mg A) {f : Addr} {fd : FuncData} (F : Fun K "bar" "Watch.bar" st_Watch_bar f fd)  :
    FnOk P w K mg base (L2.CX P w) 1 f fd ["self"] (spD K mg 1 φ_Watch_bar) :=
  fn_ok [0] F sc_Watch_bar (by decide) fun cdv A outer s H E hr =>
  have tk := takes_of (X := cxOf (L2.CX P w) P w K mg base ["self"] "Watch.bar" (defScope st_Watch_bar) f cdv A outer s H E) (E := E) rfl rfl rfl rfl
  have po := passes_of (X := cxOf (L2.CX P w) P w K mg base ["self"] "Watch.bar" (defScope st_Watch_bar) f cdv A outer s H E) rfl
  (dss_cons (ds_if (dt_cmp op_isN s_isN (nomark _) (dv_of (de_fld T.cl_Watch (dv_at 0))) (dv_of de_non)) (dss_one (ds_ret de_non)) dss_nil)
  (dss_one (ds_ret (de_callT call_list_of c_list (by decide +kernel) rfl T.b_list (dv_cons (dv_of (de_fld T.cl_Watch (dv_at 0))) dv_nil)))))
abbrev st_Watch_posts : Stmt := inClass (topS 18) 6
theorem sc_Watch_posts : FnScope ["self"] ["self"] (defScope st_Watch_posts) := ⟨rfl, rfl, rfl, by decide +kernel, rfl, by decide +kernel, by decide +kernel⟩
theorem ok_Watch_posts {P : Program} {w : World} {K : PySem.W.Frag} {mg : Mg} {base : Heap} {A : Ads} (T : Txt K mg A) {f : Addr} {fd : FuncData} (F : Fun K "posts" "Watch.posts" st_Watch_posts f fd)  :
    FnOk P w K mg base (L2.CX P w) 1 f fd ["self"] (spD K mg 1 φ_Watch_posts) :=
  fn_ok [0] F sc_Watch_posts (by decide) fun cdv A outer s H E hr =>
  have tk := takes_of (X := cxOf (L2.CX P w) P w K mg base ["self"] "Watch.posts" (defScope st_Watch_posts) f cdv A outer s H E) (E := E) rfl rfl rfl rfl
  have po := passes_of (X := cxOf (L2.CX P w) P w K mg base ["self"] "Watch.posts" (defScope st_Watch_posts) f cdv A outer s H E) rfl
  (dss_one (ds_ret (de_callT call_list_of c_list (by decide +kernel) rfl T.b_list (dv_cons (dv_of (de_fld T.cl_Watch (dv_at 0))) dv_nil))))
abbrev st_law_wholes : Stmt := topS 30
theorem sc_law_wholes : FnScope ["_law_row", "_law_number"] ["_law_row"] (defScope st_law_wholes) := ⟨rfl, rfl, rfl, by decide +kernel, rfl, by decide +kernel, by decide +kernel⟩
theorem ok_law_wholes {P : Program} {w : World} {K : PySem.W.Frag} {mg : Mg} {base : Heap} {A : Ads} (T : Txt K mg A) {f : Addr} {fd : FuncData} (F : Fun K "_law_wholes" "_law_wholes" st_law_wholes f fd) (D_law_whole : Def P w K mg base "_law_whole" 1 φ_law_whole 1) :
    FnOk P w K mg base (L2.CX P w) 2 f fd ["_law_row"] (spD K mg 1 φ_law_wholes) :=
  fn_ok [0] F sc_law_wholes (by decide) fun cdv A outer s H E hr =>
  have tk := takes_of (X := cxOf (L2.CX P w) P w K mg base ["_law_row", "_law_number"] "_law_wholes" (defScope st_law_wholes) f cdv A outer s H E) (E := E) rfl rfl rfl rfl
  have po := passes_of (X := cxOf (L2.CX P w) P w K mg base ["_law_row", "_law_number"] "_law_wholes" (defScope st_law_wholes) f cdv A outer s H E) rfl
  (dss_one (ds_ret (de_and (de_isi (T := "list") (by decide +kernel) rfl T.b_list rfl T.b_isinstance (dv_at 0)) (de_one (de_cmp (op_eqD hr.units) s_eq (nomark _) (dv_of (de_lcA 2 [("_law_number", 1)] rfl sc_law_wholes.nd (blkOk_by (by (show L2.blkC ["_law_row", "_law_number"] (defScope st_law_wholes) _ _ = true); decide +kernel)) (dia_name 0) (fun _ _ _ _ _ => (dg_name 1 sc_law_wholes.nd)) (fun _ _ _ _ _ => (dts_one (dt_not (dt_of (de_call D_law_whole hr takes0 (db_cons (db_slot 1) db_nil)))))) (fun _ _ _ _ _ => (de_var 1)))) (dv_of (de_lst da_nil)))))))
abbrev st_Watch_reach : Stmt := inClass (topS 18) 9
theorem sc_Watch_reach : FnScope ["self", "found", "number", "post"] ["self"] (defScope st_Watch_reach) := ⟨rfl, rfl, rfl, by decide +kernel, rfl, by decide +kernel, by decide +kernel⟩
theorem ok_Watch_reach {P : Program} {w : World} {K : PySem.W.Frag} {mg : Mg} {base : Heap} {A : Ads} (T : Txt K mg A) {f : Addr} {fd : FuncData} (F : Fun K "reach" "Watch.reach" st_Watch_reach f fd) (D_Watch_way : DefMt P w K mg base "Watch" "way" 2 φ_Watch_way 1) :
    FnOk P w K mg base (L2.CX P w) 3 f fd ["self"] (spD K mg 1 φ_Watch_reach) :=
  fn_ok [0] F sc_Watch_reach (by decide) fun cdv A outer s H E hr =>
  have tk := takes_of (X := cxOf (L2.CX P w) P w K mg base ["self", "found", "number", "post"] "Watch.reach" (defScope st_Watch_reach) f cdv A outer s H E) (E := E) rfl rfl rfl rfl
  have po := passes_of (X := cxOf (L2.CX P w) P w K mg base ["self", "found", "number", "post"] "Watch.reach" (defScope st_Watch_reach) f cdv A outer s H E) rfl
  (dss_cons (ds_set 1 sc_Watch_reach.nd de_int)
  (dss_cons (ds_for po rfl (di_rng1 rfl T.b_range (dv_cons (dv_of (de_callB call_len c_len PySem.boot_len rfl T.b_len (dv_cons (dv_of (de_fld T.cl_Watch (dv_at 0))) dv_nil))) dv_nil)) (dg_name 2 sc_Watch_reach.nd) (dss_fgt [2] (dss_one (ds_set 1 sc_Watch_reach.nd (de_callB (call_max2 rfl) c_max2 (by decide +kernel) rfl T.b_max (dv_cons (dv_at 1) (dv_cons (dv_of (de_callB (cr_min rfl) c_min1 (by decide +kernel) rfl T.b_min (dv_cons (dv_of (de_lc 4 [("post", 3)] rfl sc_Watch_reach.nd (blkOk_by (by (show L2.blkC ["self", "found", "number", "post"] (defScope st_Watch_reach) _ _ = true); decide +kernel)) (di_seq (de_fld T.cl_Watch (dv_at 0))) (fun _ _ _ _ _ => (dg_name 3 sc_Watch_reach.nd)) (fun _ _ _ _ _ => dts_nil) (fun _ _ _ _ _ => (de_mt D_Watch_way hr takes0 (plc_name 0) (dp_cons (db_slot 2) (dp_cons (db_slot 3) dp_nil)))))) dv_nil))) dv_nil)))))))
  (dss_one (ds_ret (de_mv 1)))))
abbrev st_Watch_mark : Stmt := inClass (topS 18) 7
theorem sc_Watch_mark : FnScope ["self"] ["self"] (defScope st_Watch_mark) := ⟨rfl, rfl, rfl, by decide +kernel, rfl, by decide +kernel, by decide +kernel⟩
theorem ok_Watch_mark {P : Program} {w : World} {K : PySem.W.Frag} {mg : Mg} {base : Heap} {A : Ads} (T : Txt K mg A) {f : Addr} {fd : FuncData} (F : Fun K "mark" "Watch.mark" st_Watch_mark f fd)  :
    FnOk P w K mg base (L2.CX P w) 1 f fd ["self"] (spD K mg 1 φ_Watch_mark) :=
  fn_ok [0] F sc_Watch_mark (by decide) fun cdv A outer s H E hr =>
  have tk := takes_of (X := cxOf (L2.CX P w) P w K mg base ["self"] "Watch.mark" (defScope st_Watch_mark) f cdv A outer s H E) (E := E) rfl rfl rfl rfl
  have po := passes_of (X := cxOf (L2.CX P w) P w K mg base ["self"] "Watch.mark" (defScope st_Watch_mark) f cdv A outer s H E) rfl
  (dss_one (ds_ret (de_fld T.cl_Watch (dv_at 0))))
abbrev st_law_far : Stmt := topS 27
theorem sc_law_far : FnScope ["_law_model", "_law_found", "_law_number", "_law_post"] ["_law_model"] (defScope st_law_far) := ⟨rfl, rfl, rfl, by decide +kernel, rfl, by decide +kernel, by decide +kernel⟩
theorem ok_law_far {P : Program} {w : World} {K : PySem.W.Frag} {mg : Mg} {base : Heap} {A : Ads} (T : Txt K mg A) {f : Addr} {fd : FuncData} (F : Fun K "_law_far" "_law_far" st_law_far f fd) (D_law_way : Def P w K mg base "_law_way" 3 φ_law_way 1) :
    FnOk P w K mg base (L2.CX P w) 2 f fd ["_law_model"] (spD K mg 1 φ_law_far) :=
  fn_ok [0] F sc_law_far (by decide) fun cdv A outer s H E hr =>
  have tk := takes_of (X := cxOf (L2.CX P w) P w K mg base ["_law_model", "_law_found", "_law_number", "_law_post"] "_law_far" (defScope st_law_far) f cdv A outer s H E) (E := E) rfl rfl rfl rfl
  have po := passes_of (X := cxOf (L2.CX P w) P w K mg base ["_law_model", "_law_found", "_law_number", "_law_post"] "_law_far" (defScope st_law_far) f cdv A outer s H E) rfl
  (dss_cons (ds_set 1 sc_law_far.nd de_int)
  (dss_cons (ds_for po rfl (di_rng1 rfl T.b_range (dv_cons (dv_of (de_callB call_len c_len PySem.boot_len rfl T.b_len (dv_cons (dv_of (de_pl (plc_key (units1 hr) (plc_name 0) qt_str))) dv_nil))) dv_nil)) (dg_name 2 sc_law_far.nd) (dss_fgt [2] (dss_one (ds_set 1 sc_law_far.nd (de_callB (call_max2 rfl) c_max2 (by decide +kernel) rfl T.b_max (dv_cons (dv_at 1) (dv_cons (dv_of (de_callB (cr_min rfl) c_min1 (by decide +kernel) rfl T.b_min (dv_cons (dv_of (de_lc 4 [("_law_post", 3)] rfl sc_law_far.nd (blkOk_by (by (show L2.blkC ["_law_model", "_law_found", "_law_number", "_law_post"] (defScope st_law_far) _ _ = true); decide +kernel)) (di_seq (de_pl (plc_key (units1 hr) (plc_name 0) qt_str))) (fun _ _ _ _ _ => (dg_name 3 sc_law_far.nd)) (fun _ _ _ _ _ => dts_nil) (fun _ _ _ _ _ => (de_call D_law_way hr takes0 (db_cons (db_slot 0) (db_cons (db_slot 2) (db_cons (db_slot 3) db_nil))))))) dv_nil))) dv_nil)))))))
  (dss_one (ds_ret (de_mv 1)))))
abbrev st_law_is_so : Stmt := topS 31
theorem sc_law_is_so : FnScope ["_law_watch", "_law_model", "_law_places", "_law_place_here", "_law_told", "_law_row", "_law_numbers"] ["_law_watch", "_law_model"] (defScope st_law_is_so) := ⟨rfl, rfl, rfl, by decide +kernel, rfl, by decide +kernel, by decide +kernel⟩
theorem ok_law_is_so {P : Program} {w : World} {K : PySem.W.Frag} {mg : Mg} {base : Heap} {A : Ads} (T : Txt K mg A) {f : Addr} {fd : FuncData} (F : Fun K "_law_is_so" "_law_is_so" st_law_is_so f fd) (D_Watch_folk : DefMt P w K mg base "Watch" "folk" 0 φ_Watch_folk 1) (D_law_whole : Def P w K mg base "_law_whole" 1 φ_law_whole 1) (D_Watch_bar : DefMt P w K mg base "Watch" "bar" 0 φ_Watch_bar 1) (D_Watch_posts : DefMt P w K mg base "Watch" "posts" 0 φ_Watch_posts 1) (D_law_wholes : Def P w K mg base "_law_wholes" 1 φ_law_wholes 2) (D_Watch_reach : DefMt P w K mg base "Watch" "reach" 0 φ_Watch_reach 3) (D_Watch_mark : DefMt P w K mg base "Watch" "mark" 0 φ_Watch_mark 1) (D_law_far : Def P w K mg base "_law_far" 1 φ_law_far 2) :
    FnOk P w K mg base (L2.CX P w) 5 f fd ["_law_watch", "_law_model"] (spD K mg 2 φ_law_is_so) :=
  fn_ok [0, 1] F sc_law_is_so (by decide) fun cdv A outer s H E hr =>
  have tk := takes_of (X := cxOf (L2.CX P w) P w K mg base ["_law_watch", "_law_model", "_law_places", "_law_place_here", "_law_told", "_law_row", "_law_numbers"] "_law_is_so" (defScope st_law_is_so) f cdv A outer s H E) (E := E) rfl rfl rfl rfl
  have po := passes_of (X := cxOf (L2.CX P w) P w K mg base ["_law_watch", "_law_model", "_law_places", "_law_place_here", "_law_told", "_law_row", "_law_numbers"] "_law_is_so" (defScope st_law_is_so) f cdv A outer s H E) rfl
  (dss_cons (ds_set 2 sc_law_is_so.nd (de_lk 0 (de_mt0 D_Watch_folk hr tk (plc_name 0))))
  (dss_cons (ds_if (dt_w (dw_or (dt_not (dt_of (de_isi (T := "list") (by decide +kernel) rfl T.b_list rfl T.b_isinstance (dv_at 2)))) (dw_or (dt_cmp (op_neD hr.units) s_ne (nomark _) (dv_at 2) (dv_of (de_pl (plc_key (units1 hr) (plc_name 1) qt_str)))) (dw_or1 (dt_cmp (op_neD hr.units) s_ne (nomark _) (dv_of (de_fld T.cl_Watch (dv_at 0))) (dv_of (de_pl (plc_key (units1 hr) (plc_name 1) qt_str)))))))) (dss_one (ds_ret de_bl)) dss_nil)
  (dss_cons (ds_forA po rfl (dia_name 2) (dg_name 3 sc_law_is_so.nd) (dss_fgt [3] (dss_one (ds_if (dt_w (dw_or (dt_not (dt_of (de_isi (T := "tuple") (by decide +kernel) rfl T.b_tuple rfl T.b_isinstance (dv_at 3)))) (dw_or (dt_not (dt_of (de_call D_law_whole hr tk (db_cons (db_val (de_ix ix_seq s_ix (fun _ _ => rfl) (dv_at 3) (dv_of de_int))) db_nil)))) (dw_or1 (dt_not (dt_of (de_call D_law_whole hr tk (db_cons (db_val (de_ix ix_seq s_ix (fun _ _ => rfl) (dv_at 3) (dv_of de_int))) db_nil)))))))) (dss_one (ds_ret de_bl)) dss_nil))))
  (dss_cons (ds_set 4 sc_law_is_so.nd (de_lst (da_cons (de_lk 0 (de_mt0 D_Watch_posts hr tk (plc_name 0))) (da_cons (de_lk 0 (de_mt0 D_Watch_bar hr tk (plc_name 0))) da_nil))))
  (dss_cons (ds_if (dt_w (dw_or (dt_not (dt_of (de_callP D_law_wholes hr tk (dp_plc (plc_itm (plc_name 4) qt_int) dp_nil)))) (dw_or1 (dt_cmp (op_neD hr.units) s_ne (nomark _) (dv_at 4) (dv_of (de_lst (da_cons (de_pl (plc_key (units1 hr) (plc_name 1) qt_str)) (da_cons (de_pl (plc_key (units1 hr) (plc_name 1) qt_str)) da_nil)))))))) (dss_one (ds_ret de_bl)) dss_nil)
  (dss_cons (ds_if (dt_w (dw_and (dt_nnI 4 1 true op_notN hr_notN lit_nat) (dw_and1 (dt_not (dt_of (de_callP D_law_wholes hr tk (dp_plc (plc_itm (plc_name 4) qt_int) dp_nil))))))) (dss_one (ds_ret de_bl)) dss_nil)
  (dss_cons (ds_forO po rfl (de_catO (de_mv 4) (de_lst (da_cons (de_mv 2) da_nil))) (dg_name 5 sc_law_is_so.nd) (dss_fgt [5] (dss_one (ds_if (dt_cmp op_notN s_notN (nomark _) (dv_at 5) (dv_of de_non)) (dss_one (ds_exp (de_mut 5 PySem.F.slot_list_append PySem.F.type_list_append mt_append m_append (da_cons de_int da_nil)))) dss_nil))))
  (dss_cons (ds_set 6 sc_law_is_so.nd (de_lst (da_cons (de_lk 0 (de_mt0 D_Watch_mark hr tk (plc_name 0))) (da_cons (de_lk 0 (de_mt0 D_Watch_reach hr tk (plc_name 0))) da_nil))))
  (dss_one (ds_ret (de_and (de_call D_law_wholes hr tk (db_cons (db_slot 6) db_nil)) (de_one (de_cmp (op_eqD hr.units) s_eq (nomark _) (dv_at 6) (dv_of (de_lst (da_cons (de_pl (plc_key (units1 hr) (plc_name 1) qt_str)) (da_cons (de_call D_law_far hr tk (db_cons (db_slot 1) db_nil)) da_nil)))))))))))))))))
abbrev st_law_classes : Stmt := topS 28
theorem sc_law_classes : FnScope ["_law_kept", "_law_found"] ["_law_kept"] (defScope st_law_classes) := ⟨rfl, rfl, rfl, by decide +kernel, rfl, by decide +kernel, by decide +kernel⟩
theorem ok_law_classes {P : Program} {w : World} {K : PySem.W.Frag} {mg : Mg} {base : Heap} {A : Ads} (T : Txt K mg A) {f : Addr} {fd : FuncData} (F : Fun K "_law_classes" "_law_classes" st_law_classes f fd)  :
    FnOk P w K mg base (L2.CX P w) 1 f fd ["_law_kept"] (spD K mg 1 φ_law_classes) :=
  fn_ok [0] F sc_law_classes (by decide) fun cdv A outer s H E hr =>
  have tk := takes_of (X := cxOf (L2.CX P w) P w K mg base ["_law_kept", "_law_found"] "_law_classes" (defScope st_law_classes) f cdv A outer s H E) (E := E) rfl rfl rfl rfl
  have po := passes_of (X := cxOf (L2.CX P w) P w K mg base ["_law_kept", "_law_found"] "_law_classes" (defScope st_law_classes) f cdv A outer s H E) rfl
  (dss_cons (ds_set 1 sc_law_classes.nd (de_lst (da_cons (de_isE T.te_NoMany.g T.ki_NoMany rfl rfl T.b_isinstance (dv_at 0)) (da_cons (de_isE T.te_NoPosts.g T.ki_NoPosts rfl rfl T.b_isinstance (dv_at 0)) (da_cons (de_isE T.te_NoReach.g T.ki_NoReach rfl rfl T.b_isinstance (dv_at 0)) (da_cons (de_isE T.te_NoRing.g T.ki_NoRing rfl rfl T.b_isinstance (dv_at 0)) da_nil))))))
  (dss_cons (ds_set 1 sc_law_classes.nd (de_bin op_addD s_add (dv_at 1) (dv_of (de_lst (da_cons (de_isE T.te_NoLine.g T.ki_NoLine rfl rfl T.b_isinstance (dv_at 0)) (da_cons (de_isE T.te_NoWord.g T.ki_NoWord rfl rfl T.b_isinstance (dv_at 0)) (da_cons (de_isE T.te_NoFolk.g T.ki_NoFolk rfl rfl T.b_isinstance (dv_at 0)) da_nil)))))))
  (dss_cons (ds_set 1 sc_law_classes.nd (de_bin op_addD s_add (dv_at 1) (dv_of (de_lst (da_cons (de_isE T.te_NoPost.g T.ki_NoPost rfl rfl T.b_isinstance (dv_at 0)) (da_cons (de_isE T.te_NoTable.g T.ki_NoTable rfl rfl T.b_isinstance (dv_at 0)) (da_cons (de_isE T.te_NoWay.g T.ki_NoWay rfl rfl T.b_isinstance (dv_at 0)) da_nil)))))))
  (dss_one (ds_ret (de_bin op_addD s_add (dv_at 1) (dv_of (de_lst (da_cons (de_isE T.te_NoThing.g T.ki_NoThing rfl rfl T.b_isinstance (dv_at 0)) (da_cons (de_isE T.te_NoText.g T.ki_NoText rfl rfl T.b_isinstance (dv_at 0)) (da_cons (de_isE T.te_NoName.g T.ki_NoName rfl rfl T.b_isinstance (dv_at 0)) da_nil)))))))))))
abbrev st_law_which : Stmt := topS 29
theorem sc_law_which : FnScope ["_law_kept"] ["_law_kept"] (defScope st_law_which) := ⟨rfl, rfl, rfl, by decide +kernel, rfl, by decide +kernel, by decide +kernel⟩
theorem ok_law_which {P : Program} {w : World} {K : PySem.W.Frag} {mg : Mg} {base : Heap} {A : Ads} (T : Txt K mg A) {f : Addr} {fd : FuncData} (F : Fun K "_law_which" "_law_which" st_law_which f fd) (D_law_classes : Def P w K mg base "_law_classes" 1 φ_law_classes 1) :
    FnOk P w K mg base (L2.CX P w) 2 f fd ["_law_kept"] (spD K mg 1 φ_law_which) :=
  fn_ok [0] F sc_law_which (by decide) fun cdv A outer s H E hr =>
  have tk := takes_of (X := cxOf (L2.CX P w) P w K mg base ["_law_kept"] "_law_which" (defScope st_law_which) f cdv A outer s H E) (E := E) rfl rfl rfl rfl
  have po := passes_of (X := cxOf (L2.CX P w) P w K mg base ["_law_kept"] "_law_which" (defScope st_law_which) f cdv A outer s H E) rfl
  (dss_cons (ds_if (dt_w (dw_or (dt_not (dt_of (de_isV T.kv rfl T.b_ValueError rfl T.b_isinstance (dv_at 0)))) (dw_or1 (dt_cmp (op_neD hr.units) s_ne (nomark _) (dv_of (de_cntT (units65 hr) (dv_of (de_call D_law_classes hr tk (db_cons (db_slot 0) db_nil))))) (dv_of de_int))))) (dss_one (ds_ret (de_un un_neg s_neg (dv_of de_int)))) dss_nil)
  (dss_one (ds_ret (de_ixT (dv_of (de_call D_law_classes hr tk (db_cons (db_slot 0) db_nil)))))))
abbrev st_law_refused : Stmt := topS 32
theorem sc_law_refused : FnScope ["_law_many", "_law_kept", "e"] ["_law_many"] (defScope st_law_refused) := ⟨rfl, rfl, rfl, by decide +kernel, rfl, by decide +kernel, by decide +kernel⟩
theorem ok_law_refused {P : Program} {w : World} {K : PySem.W.Frag} {mg : Mg} {base : Heap} {A : Ads} (T : Txt K mg A) {f : Addr} {fd : FuncData} (F : Fun K "_law_refused" "_law_refused" st_law_refused f fd) (D_Watch_init : DefM P w K mg base "Watch" 1 φ_Watch_init 2) (D_law_which : Def P w K mg base "_law_which" 1 φ_law_which 2) :
    FnOk P w K mg base (L2.CX P w) 4 f fd ["_law_many"] (spD K mg 1 φ_law_refused) :=
  fn_ok [0] F sc_law_refused (by decide) fun cdv A outer s H E hr =>
  have tk := takes_of (X := cxOf (L2.CX P w) P w K mg base ["_law_many", "_law_kept", "e"] "_law_refused" (defScope st_law_refused) f cdv A outer s H E) (E := E) rfl rfl rfl rfl
  have po := passes_of (X := cxOf (L2.CX P w) P w K mg base ["_law_many", "_law_kept", "e"] "_law_refused" (defScope st_law_refused) f cdv A outer s H E) rfl
  (dss_cons (ds_set 1 sc_law_refused.nd de_non)
  (dss_cons (ds_try 2 1 rfl rfl sc_law_refused.nd rfl rfl rfl rfl ⟨rfl, by decide, .inl T.te_PostError.g⟩ tk (by decide) (by decide) (by decide) (fun W' pn xe tk' po' => (dss_one (ds_exp (de_make D_Watch_init hr tk' (db_cons (db_slot 0) db_nil))))) T.cat_PostError)
  (dss_one (ds_ret (de_cmp (op_eqD hr.units) s_eq (nomark _) (dv_of (de_call D_law_which hr tk (db_cons (db_slot 1) db_nil))) (dv_of de_int))))))
abbrev st_law : Stmt := topS 33
theorem sc_law : FnScope ["_law_script", "_law_purse", "_law_watches", "_law_models", "_law_at", "_law_digit", "_law_many", "_law_turn", "_law_place_here", "_law_number"] ["_law_script"] (defScope st_law) := ⟨rfl, rfl, rfl, by decide +kernel, rfl, by decide +kernel, by decide +kernel⟩
theorem ok_law {P : Program} {w : World} {K : PySem.W.Frag} {mg : Mg} {base : Heap} {A : Ads} (T : Txt K mg A) {f : Addr} {fd : FuncData} (F : Fun K "law" "law" st_law f fd) (D_law_digits : Def P w K mg base "_law_digits" 3 φ_law_digits 1) (D_Watch_init : DefM P w K mg base "Watch" 1 φ_Watch_init 2) (D_law_place : Def P w K mg base "_law_place" 1 φ_law_place 1) (D_Watch_come : DefMt P w K mg base "Watch" "come" 2 φ_Watch_come 7) (D_law_come : Def P w K mg base "_law_come" 2 φ_law_come 4) (D_law_whole : Def P w K mg base "_law_whole" 1 φ_law_whole 1) (D_law_is_so : Def P w K mg base "_law_is_so" 2 φ_law_is_so 5) (D_law_refused : Def P w K mg base "_law_refused" 1 φ_law_refused 4) :
    FnOk P w K mg base (L2.CX P w) 9 f fd ["_law_script"] (spD K mg 1 φ_law) :=
  fn_ok [0] F sc_law (by decide) fun cdv A outer s H E hr =>
  have tk := takes_of (X := cxOf (L2.CX P w) P w K mg base ["_law_script", "_law_purse", "_law_watches", "_law_models", "_law_at", "_law_digit", "_law_many", "_law_turn", "_law_place_here", "_law_number"] "law" (defScope st_law) f cdv A outer s H E) (E := E) rfl rfl rfl rfl
  have po := passes_of (X := cxOf (L2.CX P w) P w K mg base ["_law_script", "_law_purse", "_law_watches", "_law_models", "_law_at", "_law_digit", "_law_many", "_law_turn", "_law_place_here", "_law_number"] "law" (defScope st_law) f cdv A outer s H E) rfl
  (dss_cons (ds_set 1 sc_law.nd (de_call D_law_digits hr tk (db_cons (db_slot 0) (db_cons (db_val de_int) (db_cons (db_val de_int) db_nil)))))
  (dss_cons (ds_set 2 sc_law.nd (de_lst da_nil))
  (dss_cons (ds_set 3 sc_law.nd (de_lst da_nil))
  (dss_cons (ds_for po rfl (di_rng1 rfl T.b_range (dv_cons (dv_of de_int) dv_nil)) (dg_name 4 sc_law.nd) (dss_fgt [4, 5, 6] (dss_cons (ds_set 5 sc_law.nd (de_mut0 1 PySem.F.slot_list_pop PySem.F.type_list_pop mt_pop m_pop))
  (dss_cons (ds_set 6 sc_law.nd (de_ix ix_seq s_ix (fun _ _ => rfl) (dv_of (de_lst (da_cons (de_bin op_addD s_add (dv_of de_int) (dv_of (de_bin op_mod s_mod (dv_of (de_bin op_fdivW s_fdiv (dv_at 5) (dv_of de_int))) (dv_of de_int)))) (da_cons (de_bin op_addD s_add (dv_of (de_bin op_pow s_pow (dv_of de_int) (dv_of de_int))) (dv_at 5)) da_nil)))) (dv_of (de_callT call_int1 c_int (by decide +kernel) rfl T.b_int (dv_cons (dv_of (de_cmp (op_eqD hr.units) s_eq (nomark _) (dv_of (de_bin op_mod s_mod (dv_at 5) (dv_of de_int))) (dv_of de_int))) dv_nil)))))
  (dss_cons (ds_exp (de_mut 2 PySem.F.slot_list_append PySem.F.type_list_append mt_append m_append (da_cons (de_make D_Watch_init hr tk (db_cons (db_slot 6) db_nil)) da_nil)))
  (dss_one (ds_exp (de_mut 3 PySem.F.slot_list_append PySem.F.type_list_append mt_append m_append (da_cons (de_disp (dpr_cons (de_var 6) (dpr_cons (de_fz (de_lst da_nil)) (dpr_cons (de_fz (de_lst da_nil)) (dpr_cons de_int (dpr_cons de_non dpr_nil)))))) da_nil)))))))))
  (dss_cons (ds_for po rfl (di_rng1 rfl T.b_range (dv_cons (dv_of (de_bin op_mod s_mod (dv_of (de_mut0 1 PySem.F.slot_list_pop PySem.F.type_list_pop mt_pop m_pop)) (dv_of de_int))) dv_nil)) (dg_name 7 sc_law.nd) (dss_fgt [4, 7, 8, 9] (dss_cons (ds_set 4 sc_law.nd (de_callT call_int1 c_int (by decide +kernel) rfl T.b_int (dv_cons (dv_of (de_cmp (op_eqD hr.units) s_eq (nomark _) (dv_of (de_bin op_mod s_mod (dv_of (de_mut0 1 PySem.F.slot_list_pop PySem.F.type_list_pop mt_pop m_pop)) (dv_of de_int))) (dv_of de_int))) dv_nil)))
  (dss_cons (ds_set 8 sc_law.nd (de_call D_law_place hr tk (db_cons (db_slot 1) db_nil)))
  (dss_cons (ds_set 9 sc_law.nd (de_mt D_Watch_come hr tk (plc_itm (plc_name 2) (qt_name 4)) (dp_cons (db_val (de_ix ix_seq s_ix (fun _ _ => rfl) (dv_at 8) (dv_of de_int))) (dp_cons (db_val (de_ix ix_seq s_ix (fun _ _ => rfl) (dv_at 8) (dv_of de_int))) dp_nil))))
  (dss_cons (ds_if (dt_w (dw_or (dt_not (dt_of (de_call D_law_whole hr tk (db_cons (db_slot 9) db_nil)))) (dw_or1 (dt_cmp (op_neD hr.units) s_ne (nomark _) (dv_at 9) (dv_of (de_callP D_law_come hr tk (dp_plc (plc_itm (plc_name 3) (qt_name 4)) (dp_cons (db_slot 8) dp_nil)))))))) (dss_one (ds_ret de_bl)) dss_nil)
  (dss_one (ds_if (dt_not (dt_of (de_callP D_law_is_so hr tk (dp_plc (plc_itm (plc_name 2) (qt_name 4)) (dp_plc (plc_itm (plc_name 3) (qt_name 4)) dp_nil))))) (dss_one (ds_ret de_bl)) dss_nil))))))))
  (dss_cons (ds_for po rfl (di_rng1 rfl T.b_range (dv_cons (dv_of de_int) dv_nil)) (dg_name 4 sc_law.nd) (dss_fgt [4] (dss_one (ds_if (dt_w (dw_or (dt_not (dt_of (de_callP D_law_is_so hr tk (dp_plc (plc_itm (plc_name 2) (qt_name 4)) (dp_plc (plc_itm (plc_name 3) (qt_name 4)) dp_nil))))) (dw_or1 (dt_not (dt_of (de_callP D_law_is_so hr tk (dp_plc (plc_itm (plc_name 2) (qt_name 4)) (dp_plc (plc_itm (plc_name 3) (qt_name 4)) dp_nil)))))))) (dss_one (ds_ret de_bl)) dss_nil))))
  (dss_one (ds_ret (de_and (de_call D_law_refused hr tk (db_cons (db_val de_int) db_nil)) (de_and (de_call D_law_refused hr tk (db_cons (db_val (de_un un_neg s_neg (dv_of de_int))) db_nil)) (de_one (de_call D_law_refused hr tk (db_cons (db_val (de_un un_neg s_neg (dv_of (de_bin op_pow s_pow (dv_of de_int) (dv_of de_int))))) db_nil)))))))))))))
end Lw

namespace Lw
open PySem PySem.Spec PyProof.Rows L2 DL
theorem all_mk {l : PySem.W.OpenLaw} {w : World} {K : PySem.W.Frag} {h : Heap} {mg : Str → Option Value} {fa f0 f1 f2 f3 f4 f5 f6 f7 f8 f9 f10 f11 f12 f13 f14 f15 f16 f17 f18 f19 f20 f21 f22 f23 f24 q_NoFolk q_NoLine q_NoMany q_NoName q_NoPost q_NoPosts q_NoReach q_NoRing q_NoTable q_NoText q_NoThing q_NoWay q_NoWord q_PostError q_Watch : Addr} (X : K.In h) (G : h.Ns mainGlobals mg) (hfa : mg "law" = some (.ref fa))
    {od0 an0 : Option Addr} {sl0 : Array (Option Value)} {oc0 kV0 dc0 pm0 cd0 ct0 : Value}
    {od1 an1 : Option Addr} {sl1 : Array (Option Value)} {oc1 kV1 dc1 pm1 cd1 ct1 : Value}
    {od2 an2 : Option Addr} {sl2 : Array (Option Value)} {oc2 kV2 dc2 pm2 cd2 ct2 : Value}
    {od3 an3 : Option Addr} {sl3 : Array (Option Value)} {oc3 kV3 dc3 pm3 cd3 ct3 : Value}
    {od4 an4 : Option Addr} {sl4 : Array (Option Value)} {oc4 kV4 dc4 pm4 cd4 ct4 : Value}
    {od5 an5 : Option Addr} {sl5 : Array (Option Value)} {oc5 kV5 dc5 pm5 cd5 ct5 : Value}
    {od6 an6 : Option Addr} {sl6 : Array (Option Value)} {oc6 kV6 dc6 pm6 cd6 ct6 : Value}
    {od7 an7 : Option Addr} {sl7 : Array (Option Value)} {oc7 kV7 dc7 pm7 cd7 ct7 : Value}
    {od8 an8 : Option Addr} {sl8 : Array (Option Value)} {oc8 kV8 dc8 pm8 cd8 ct8 : Value}
    {od9 an9 : Option Addr} {sl9 : Array (Option Value)} {oc9 kV9 dc9 pm9 cd9 ct9 : Value}
    {od10 an10 : Option Addr} {sl10 : Array (Option Value)} {oc10 kV10 dc10 pm10 cd10 ct10 : Value}
    {od11 an11 : Option Addr} {sl11 : Array (Option Value)} {oc11 kV11 dc11 pm11 cd11 ct11 : Value}
    {od12 an12 : Option Addr} {sl12 : Array (Option Value)} {oc12 kV12 dc12 pm12 cd12 ct12 : Value}
    {od13 an13 : Option Addr} {sl13 : Array (Option Value)} {oc13 kV13 dc13 pm13 cd13 ct13 : Value}
    {od14 an14 : Option Addr} {sl14 : Array (Option Value)} {oc14 kV14 dc14 pm14 cd14 ct14 : Value}
    {od15 an15 : Option Addr} {sl15 : Array (Option Value)} {oc15 kV15 dc15 pm15 cd15 ct15 : Value}
    {od16 an16 : Option Addr} {sl16 : Array (Option Value)} {oc16 kV16 dc16 pm16 cd16 ct16 : Value}
    {od17 an17 : Option Addr} {sl17 : Array (Option Value)} {oc17 kV17 dc17 pm17 cd17 ct17 : Value}
    {od18 an18 : Option Addr} {sl18 : Array (Option Value)} {oc18 kV18 dc18 pm18 cd18 ct18 : Value}
    {od19 an19 : Option Addr} {sl19 : Array (Option Value)} {oc19 kV19 dc19 pm19 cd19 ct19 : Value}
    {od20 an20 : Option Addr} {sl20 : Array (Option Value)} {oc20 kV20 dc20 pm20 cd20 ct20 : Value}
    {od21 an21 : Option Addr} {sl21 : Array (Option Value)} {oc21 kV21 dc21 pm21 cd21 ct21 : Value}
    {od22 an22 : Option Addr} {sl22 : Array (Option Value)} {oc22 kV22 dc22 pm22 cd22 ct22 : Value}
    {od23 an23 : Option Addr} {sl23 : Array (Option Value)} {oc23 kV23 dc23 pm23 cd23 ct23 : Value}
    {od24 an24 : Option Addr} {sl24 : Array (Option Value)} {oc24 kV24 dc24 pm24 cd24 ct24 : Value}
    (a0 : PySem.W.nsIn K mainGlobals "_law_digits" = some (some (.ref f0)))
    (l0 : K.lookup f0 = some ⟨oc0, od0, .func (PySem.W.fnOf "_law_digits" "_law_digits" (defArgs st_law_digits) (defBody st_law_digits) (defScope st_law_digits) .none kV0 dc0 pm0 an0 cd0 ct0), sl0⟩)
    (c0 : PySem.W.codeIn K cd0 "_law_digits" = true) (k0 : PySem.W.keepIn K (.ref f0) = true)
    (a1 : PySem.W.nsIn K mainGlobals "look_at_many" = some (some (.ref f1)))
    (l1 : K.lookup f1 = some ⟨oc1, od1, .func (PySem.W.fnOf "look_at_many" "look_at_many" (defArgs st_look_at_many) (defBody st_look_at_many) (defScope st_look_at_many) .none kV1 dc1 pm1 an1 cd1 ct1), sl1⟩)
    (c1 : PySem.W.codeIn K cd1 "look_at_many" = true) (k1 : PySem.W.keepIn K (.ref f1) = true)
    (a2 : PySem.W.findIn K (.ref q_Watch) "__init__" = some (some (.ref f2))) (m2 : PySem.W.isFn K (.ref f2) = true)
    (l2 : K.lookup f2 = some ⟨oc2, od2, .func (PySem.W.fnOf "__init__" "Watch.__init__" (defArgs st_Watch_init) (defBody st_Watch_init) (defScope st_Watch_init) .none kV2 dc2 pm2 an2 cd2 ct2), sl2⟩)
    (c2 : PySem.W.codeIn K cd2 "Watch.__init__" = true) (k2 : PySem.W.keepIn K (.ref f2) = true)
    (a3 : PySem.W.nsIn K mainGlobals "_law_place" = some (some (.ref f3)))
    (l3 : K.lookup f3 = some ⟨oc3, od3, .func (PySem.W.fnOf "_law_place" "_law_place" (defArgs st_law_place) (defBody st_law_place) (defScope st_law_place) .none kV3 dc3 pm3 an3 cd3 ct3), sl3⟩)
    (c3 : PySem.W.codeIn K cd3 "_law_place" = true) (k3 : PySem.W.keepIn K (.ref f3) = true)
    (a4 : PySem.W.findIn K (.ref q_Watch) "way" = some (some (.ref f4))) (m4 : PySem.W.isFn K (.ref f4) = true)
    (l4 : K.lookup f4 = some ⟨oc4, od4, .func (PySem.W.fnOf "way" "Watch.way" (defArgs st_Watch_way) (defBody st_Watch_way) (defScope st_Watch_way) .none kV4 dc4 pm4 an4 cd4 ct4), sl4⟩)
    (c4 : PySem.W.codeIn K cd4 "Watch.way" = true) (k4 : PySem.W.keepIn K (.ref f4) = true)
    (a5 : PySem.W.findIn K (.ref q_Watch) "is_far" = some (some (.ref f5))) (m5 : PySem.W.isFn K (.ref f5) = true)
    (l5 : K.lookup f5 = some ⟨oc5, od5, .func (PySem.W.fnOf "is_far" "Watch.is_far" (defArgs st_Watch_is_far) (defBody st_Watch_is_far) (defScope st_Watch_is_far) .none kV5 dc5 pm5 an5 cd5 ct5), sl5⟩)
    (c5 : PySem.W.codeIn K cd5 "Watch.is_far" = true) (k5 : PySem.W.keepIn K (.ref f5) = true)
    (a6 : PySem.W.findIn K (.ref q_Watch) "thin" = some (some (.ref f6))) (m6 : PySem.W.isFn K (.ref f6) = true)
    (l6 : K.lookup f6 = some ⟨oc6, od6, .func (PySem.W.fnOf "thin" "Watch.thin" (defArgs st_Watch_thin) (defBody st_Watch_thin) (defScope st_Watch_thin) .none kV6 dc6 pm6 an6 cd6 ct6), sl6⟩)
    (c6 : PySem.W.codeIn K cd6 "Watch.thin" = true) (k6 : PySem.W.keepIn K (.ref f6) = true)
    (a7 : PySem.W.findIn K (.ref q_Watch) "come" = some (some (.ref f7))) (m7 : PySem.W.isFn K (.ref f7) = true)
    (l7 : K.lookup f7 = some ⟨oc7, od7, .func (PySem.W.fnOf "come" "Watch.come" (defArgs st_Watch_come) (defBody st_Watch_come) (defScope st_Watch_come) .none kV7 dc7 pm7 an7 cd7 ct7), sl7⟩)
    (c7 : PySem.W.codeIn K cd7 "Watch.come" = true) (k7 : PySem.W.keepIn K (.ref f7) = true)
    (a8 : PySem.W.nsIn K mainGlobals "_law_way" = some (some (.ref f8)))
    (l8 : K.lookup f8 = some ⟨oc8, od8, .func (PySem.W.fnOf "_law_way" "_law_way" (defArgs st_law_way) (defBody st_law_way) (defScope st_law_way) .none kV8 dc8 pm8 an8 cd8 ct8), sl8⟩)
    (c8 : PySem.W.codeIn K cd8 "_law_way" = true) (k8 : PySem.W.keepIn K (.ref f8) = true)
    (a9 : PySem.W.nsIn K mainGlobals "_law_is_far" = some (some (.ref f9)))
    (l9 : K.lookup f9 = some ⟨oc9, od9, .func (PySem.W.fnOf "_law_is_far" "_law_is_far" (defArgs st_law_is_far) (defBody st_law_is_far) (defScope st_law_is_far) .none kV9 dc9 pm9 an9 cd9 ct9), sl9⟩)
    (c9 : PySem.W.codeIn K cd9 "_law_is_far" = true) (k9 : PySem.W.keepIn K (.ref f9) = true)
    (a10 : PySem.W.nsIn K mainGlobals "_law_thinned" = some (some (.ref f10)))
    (l10 : K.lookup f10 = some ⟨oc10, od10, .func (PySem.W.fnOf "_law_thinned" "_law_thinned" (defArgs st_law_thinned) (defBody st_law_thinned) (defScope st_law_thinned) .none kV10 dc10 pm10 an10 cd10 ct10), sl10⟩)
    (c10 : PySem.W.codeIn K cd10 "_law_thinned" = true) (k10 : PySem.W.keepIn K (.ref f10) = true)
    (a11 : PySem.W.nsIn K mainGlobals "_law_come" = some (some (.ref f11)))
    (l11 : K.lookup f11 = some ⟨oc11, od11, .func (PySem.W.fnOf "_law_come" "_law_come" (defArgs st_law_come) (defBody st_law_come) (defScope st_law_come) .none kV11 dc11 pm11 an11 cd11 ct11), sl11⟩)
    (c11 : PySem.W.codeIn K cd11 "_law_come" = true) (k11 : PySem.W.keepIn K (.ref f11) = true)
    (a12 : PySem.W.nsIn K mainGlobals "_law_whole" = some (some (.ref f12)))
    (l12 : K.lookup f12 = some ⟨oc12, od12, .func (PySem.W.fnOf "_law_whole" "_law_whole" (defArgs st_law_whole) (defBody st_law_whole) (defScope st_law_whole) .none kV12 dc12 pm12 an12 cd12 ct12), sl12⟩)
    (c12 : PySem.W.codeIn K cd12 "_law_whole" = true) (k12 : PySem.W.keepIn K (.ref f12) = true)
    (a13 : PySem.W.findIn K (.ref q_Watch) "folk" = some (some (.ref f13))) (m13 : PySem.W.isFn K (.ref f13) = true)
    (l13 : K.lookup f13 = some ⟨oc13, od13, .func (PySem.W.fnOf "folk" "Watch.folk" (defArgs st_Watch_folk) (defBody st_Watch_folk) (defScope st_Watch_folk) .none kV13 dc13 pm13 an13 cd13 ct13), sl13⟩)
    (c13 : PySem.W.codeIn K cd13 "Watch.folk" = true) (k13 : PySem.W.keepIn K (.ref f13) = true)
    (a14 : PySem.W.findIn K (.ref q_Watch) "bar" = some (some (.ref f14))) (m14 : PySem.W.isFn K (.ref f14) = true)
    (l14 : K.lookup f14 = some ⟨oc14, od14, .func (PySem.W.fnOf "bar" "Watch.bar" (defArgs st_Watch_bar) (defBody st_Watch_bar) (defScope st_Watch_bar) .none kV14 dc14 pm14 an14 cd14 ct14), sl14⟩)
    (c14 : PySem.W.codeIn K cd14 "Watch.bar" = true) (k14 : PySem.W.keepIn K (.ref f14) = true)
    (a15 : PySem.W.findIn K (.ref q_Watch) "posts" = some (some (.ref f15))) (m15 : PySem.W.isFn K (.ref f15) = true)
    (l15 : K.lookup f15 = some ⟨oc15, od15, .func (PySem.W.fnOf "posts" "Watch.posts" (defArgs st_Watch_posts) (defBody st_Watch_posts) (defScope st_Watch_posts) .none kV15 dc15 pm15 an15 cd15 ct15), sl15⟩)
    (c15 : PySem.W.codeIn K cd15 "Watch.posts" = true) (k15 : PySem.W.keepIn K (.ref f15) = true)
    (a16 : PySem.W.nsIn K mainGlobals "_law_wholes" = some (some (.ref f16)))
    (l16 : K.lookup f16 = some ⟨oc16, od16, .func (PySem.W.fnOf "_law_wholes" "_law_wholes" (defArgs st_law_wholes) (defBody st_law_wholes) (defScope st_law_wholes) .none kV16 dc16 pm16 an16 cd16 ct16), sl16⟩)
    (c16 : PySem.W.codeIn K cd16 "_law_wholes" = true) (k16 : PySem.W.keepIn K (.ref f16) = true)
    (a17 : PySem.W.findIn K (.ref q_Watch) "reach" = some (some (.ref f17))) (m17 : PySem.W.isFn K (.ref f17) = true)
    (l17 : K.lookup f17 = some ⟨oc17, od17, .func (PySem.W.fnOf "reach" "Watch.reach" (defArgs st_Watch_reach) (defBody st_Watch_reach) (defScope st_Watch_reach) .none kV17 dc17 pm17 an17 cd17 ct17), sl17⟩)
    (c17 : PySem.W.codeIn K cd17 "Watch.reach" = true) (k17 : PySem.W.keepIn K (.ref f17) = true)
    (a18 : PySem.W.findIn K (.ref q_Watch) "mark" = some (some (.ref f18))) (m18 : PySem.W.isFn K (.ref f18) = true)
    (l18 : K.lookup f18 = some ⟨oc18, od18, .func (PySem.W.fnOf "mark" "Watch.mark" (defArgs st_Watch_mark) (defBody st_Watch_mark) (defScope st_Watch_mark) .none kV18 dc18 pm18 an18 cd18 ct18), sl18⟩)
    (c18 : PySem.W.codeIn K cd18 "Watch.mark" = true) (k18 : PySem.W.keepIn K (.ref f18) = true)
    (a19 : PySem.W.nsIn K mainGlobals "_law_far" = some (some (.ref f19)))
    (l19 : K.lookup f19 = some ⟨oc19, od19, .func (PySem.W.fnOf "_law_far" "_law_far" (defArgs st_law_far) (defBody st_law_far) (defScope st_law_far) .none kV19 dc19 pm19 an19 cd19 ct19), sl19⟩)
    (c19 : PySem.W.codeIn K cd19 "_law_far" = true) (k19 : PySem.W.keepIn K (.ref f19) = true)
    (a20 : PySem.W.nsIn K mainGlobals "_law_is_so" = some (some (.ref f20)))
    (l20 : K.lookup f20 = some ⟨oc20, od20, .func (PySem.W.fnOf "_law_is_so" "_law_is_so" (defArgs st_law_is_so) (defBody st_law_is_so) (defScope st_law_is_so) .none kV20 dc20 pm20 an20 cd20 ct20), sl20⟩)
    (c20 : PySem.W.codeIn K cd20 "_law_is_so" = true) (k20 : PySem.W.keepIn K (.ref f20) = true)
    (a21 : PySem.W.nsIn K mainGlobals "_law_classes" = some (some (.ref f21)))
    (l21 : K.lookup f21 = some ⟨oc21, od21, .func (PySem.W.fnOf "_law_classes" "_law_classes" (defArgs st_law_classes) (defBody st_law_classes) (defScope st_law_classes) .none kV21 dc21 pm21 an21 cd21 ct21), sl21⟩)
    (c21 : PySem.W.codeIn K cd21 "_law_classes" = true) (k21 : PySem.W.keepIn K (.ref f21) = true)
    (a22 : PySem.W.nsIn K mainGlobals "_law_which" = some (some (.ref f22)))
    (l22 : K.lookup f22 = some ⟨oc22, od22, .func (PySem.W.fnOf "_law_which" "_law_which" (defArgs st_law_which) (defBody st_law_which) (defScope st_law_which) .none kV22 dc22 pm22 an22 cd22 ct22), sl22⟩)
    (c22 : PySem.W.codeIn K cd22 "_law_which" = true) (k22 : PySem.W.keepIn K (.ref f22) = true)
    (a23 : PySem.W.nsIn K mainGlobals "_law_refused" = some (some (.ref f23)))
    (l23 : K.lookup f23 = some ⟨oc23, od23, .func (PySem.W.fnOf "_law_refused" "_law_refused" (defArgs st_law_refused) (defBody st_law_refused) (defScope st_law_refused) .none kV23 dc23 pm23 an23 cd23 ct23), sl23⟩)
    (c23 : PySem.W.codeIn K cd23 "_law_refused" = true) (k23 : PySem.W.keepIn K (.ref f23) = true)
    (a24 : PySem.W.nsIn K mainGlobals "law" = some (some (.ref f24)))
    (l24 : K.lookup f24 = some ⟨oc24, od24, .func (PySem.W.fnOf "law" "law" (defArgs st_law) (defBody st_law) (defScope st_law) .none kV24 dc24 pm24 an24 cd24 ct24), sl24⟩)
    (c24 : PySem.W.codeIn K cd24 "law" = true) (k24 : PySem.W.keepIn K (.ref f24) = true)
    (z_ValueError : PySem.W.nsIn K mainGlobals "ValueError" = some none)
    (z_abs : PySem.W.nsIn K mainGlobals "abs" = some none)
    (z_all : PySem.W.nsIn K mainGlobals "all" = some none)
    (z_bool : PySem.W.nsIn K mainGlobals "bool" = some none)
    (z_enumerate : PySem.W.nsIn K mainGlobals "enumerate" = some none)
    (z_int : PySem.W.nsIn K mainGlobals "int" = some none)
    (z_isinstance : PySem.W.nsIn K mainGlobals "isinstance" = some none)
    (z_len : PySem.W.nsIn K mainGlobals "len" = some none)
    (z_list : PySem.W.nsIn K mainGlobals "list" = some none)
    (z_max : PySem.W.nsIn K mainGlobals "max" = some none)
    (z_min : PySem.W.nsIn K mainGlobals "min" = some none)
    (z_range : PySem.W.nsIn K mainGlobals "range" = some none)
    (z_reversed : PySem.W.nsIn K mainGlobals "reversed" = some none)
    (z_sum : PySem.W.nsIn K mainGlobals "sum" = some none)
    (z_tuple : PySem.W.nsIn K mainGlobals "tuple" = some none)
    (sp0 : PySem.W.specialIn K (.builtin "object.__class__") "__get__" = some (some (.builtin "getset_descriptor.__get__"))) (tk0 : PySem.W.takesIn K (.builtin "object.__class__") = some true)
    (n_NoFolk : PySem.W.nsIn K mainGlobals "NoFolk" = some (some (.ref q_NoFolk))) (cl_NoFolk : PySem.W.isClsIn K q_NoFolk = true) (ty_NoFolk : PySem.W.typeIn K (.ref q_NoFolk) = some (.type "type"))
    (n_NoLine : PySem.W.nsIn K mainGlobals "NoLine" = some (some (.ref q_NoLine))) (cl_NoLine : PySem.W.isClsIn K q_NoLine = true) (ty_NoLine : PySem.W.typeIn K (.ref q_NoLine) = some (.type "type"))
    (n_NoMany : PySem.W.nsIn K mainGlobals "NoMany" = some (some (.ref q_NoMany))) (cl_NoMany : PySem.W.isClsIn K q_NoMany = true) (ty_NoMany : PySem.W.typeIn K (.ref q_NoMany) = some (.type "type"))
    (n_NoName : PySem.W.nsIn K mainGlobals "NoName" = some (some (.ref q_NoName))) (cl_NoName : PySem.W.isClsIn K q_NoName = true) (ty_NoName : PySem.W.typeIn K (.ref q_NoName) = some (.type "type"))
    (n_NoPost : PySem.W.nsIn K mainGlobals "NoPost" = some (some (.ref q_NoPost))) (cl_NoPost : PySem.W.isClsIn K q_NoPost = true) (ty_NoPost : PySem.W.typeIn K (.ref q_NoPost) = some (.type "type"))
    (n_NoPosts : PySem.W.nsIn K mainGlobals "NoPosts" = some (some (.ref q_NoPosts))) (cl_NoPosts : PySem.W.isClsIn K q_NoPosts = true) (ty_NoPosts : PySem.W.typeIn K (.ref q_NoPosts) = some (.type "type"))
    (n_NoReach : PySem.W.nsIn K mainGlobals "NoReach" = some (some (.ref q_NoReach))) (cl_NoReach : PySem.W.isClsIn K q_NoReach = true) (ty_NoReach : PySem.W.typeIn K (.ref q_NoReach) = some (.type "type"))
    (n_NoRing : PySem.W.nsIn K mainGlobals "NoRing" = some (some (.ref q_NoRing))) (cl_NoRing : PySem.W.isClsIn K q_NoRing = true) (ty_NoRing : PySem.W.typeIn K (.ref q_NoRing) = some (.type "type"))
    (n_NoTable : PySem.W.nsIn K mainGlobals "NoTable" = some (some (.ref q_NoTable))) (cl_NoTable : PySem.W.isClsIn K q_NoTable = true) (ty_NoTable : PySem.W.typeIn K (.ref q_NoTable) = some (.type "type"))
    (n_NoText : PySem.W.nsIn K mainGlobals "NoText" = some (some (.ref q_NoText))) (cl_NoText : PySem.W.isClsIn K q_NoText = true) (ty_NoText : PySem.W.typeIn K (.ref q_NoText) = some (.type "type"))
    (n_NoThing : PySem.W.nsIn K mainGlobals "NoThing" = some (some (.ref q_NoThing))) (cl_NoThing : PySem.W.isClsIn K q_NoThing = true) (ty_NoThing : PySem.W.typeIn K (.ref q_NoThing) = some (.type "type"))
    (n_NoWay : PySem.W.nsIn K mainGlobals "NoWay" = some (some (.ref q_NoWay))) (cl_NoWay : PySem.W.isClsIn K q_NoWay = true) (ty_NoWay : PySem.W.typeIn K (.ref q_NoWay) = some (.type "type"))
    (n_NoWord : PySem.W.nsIn K mainGlobals "NoWord" = some (some (.ref q_NoWord))) (cl_NoWord : PySem.W.isClsIn K q_NoWord = true) (ty_NoWord : PySem.W.typeIn K (.ref q_NoWord) = some (.type "type"))
    (n_PostError : PySem.W.nsIn K mainGlobals "PostError" = some (some (.ref q_PostError))) (cl_PostError : PySem.W.isClsIn K q_PostError = true) (ty_PostError : PySem.W.typeIn K (.ref q_PostError) = some (.type "type"))
    (ex_NoMany : PySem.W.subIn K (.ref q_NoMany) (.type "BaseException") = some true)
    (ex_PostError : PySem.W.subIn K (.ref q_PostError) (.type "BaseException") = some true)
    (ga_NoMany : PySem.W.findIn K (.ref q_NoMany) "__getattribute__" = some (some (.builtin "BaseException.__getattribute__"))) (gg_NoMany : PySem.W.findIn K (.ref q_NoMany) "__getattr__" = some none) (ac_NoMany : PySem.W.findIn K (.ref q_NoMany) "__class__" = some (some (.builtin "object.__class__"))) (mo_NoMany : PySem.W.mroIn K q_NoMany (.type "object") = some true) (hd_NoMany : PySem.W.hasDictIn K q_NoMany = true) (kp_NoMany : PySem.W.keepIn K (.ref q_NoMany) = true) (ve_NoMany : PySem.W.subIn K (.ref q_NoMany) (.type "ValueError") = some true)
    (su_NoMany_NoFolk : PySem.W.subIn K (.ref q_NoMany) (.ref q_NoFolk) = some false)
    (su_NoMany_NoLine : PySem.W.subIn K (.ref q_NoMany) (.ref q_NoLine) = some false)
    (su_NoMany_NoMany : PySem.W.subIn K (.ref q_NoMany) (.ref q_NoMany) = some true)
    (su_NoMany_NoName : PySem.W.subIn K (.ref q_NoMany) (.ref q_NoName) = some false)
    (su_NoMany_NoPost : PySem.W.subIn K (.ref q_NoMany) (.ref q_NoPost) = some false)
    (su_NoMany_NoPosts : PySem.W.subIn K (.ref q_NoMany) (.ref q_NoPosts) = some false)
    (su_NoMany_NoReach : PySem.W.subIn K (.ref q_NoMany) (.ref q_NoReach) = some false)
    (su_NoMany_NoRing : PySem.W.subIn K (.ref q_NoMany) (.ref q_NoRing) = some false)
    (su_NoMany_NoTable : PySem.W.subIn K (.ref q_NoMany) (.ref q_NoTable) = some false)
    (su_NoMany_NoText : PySem.W.subIn K (.ref q_NoMany) (.ref q_NoText) = some false)
    (su_NoMany_NoThing : PySem.W.subIn K (.ref q_NoMany) (.ref q_NoThing) = some false)
    (su_NoMany_NoWay : PySem.W.subIn K (.ref q_NoMany) (.ref q_NoWay) = some false)
    (su_NoMany_NoWord : PySem.W.subIn K (.ref q_NoMany) (.ref q_NoWord) = some false)
    (su_NoMany_PostError : PySem.W.subIn K (.ref q_NoMany) (.ref q_PostError) = some true)
    (xc_NoMany : PySem.W.excIn K q_NoMany [.type "ValueError", .type "Exception", .type "BaseException", .type "object"] "ValueError.__new__" = true)
    (n_Watch : PySem.W.nsIn K mainGlobals "Watch" = some (some (.ref q_Watch))) (pg_Watch : PySem.W.plainGet K q_Watch Str.empty = true) (hc_Watch : PySem.W.hasDictIn K q_Watch = true) (po_Watch : PySem.W.plainOver K q_Watch = true) (sa_Watch : PySem.W.findIn K (.ref q_Watch) "__setattr__" = some (some (.builtin "object.__setattr__"))) (mk_Watch : PySem.W.makesIn K q_Watch = true) (kc_Watch : PySem.W.keepIn K (.ref q_Watch) = true)
    (nf_Watch_many : PySem.W.findIn K (.ref q_Watch) "many" = some none)
    (nf_Watch_places : PySem.W.findIn K (.ref q_Watch) "places" = some none)
    (nf_Watch_chosen : PySem.W.findIn K (.ref q_Watch) "chosen" = some none)
    (nf_Watch_least_way : PySem.W.findIn K (.ref q_Watch) "least_way" = some none)
    (nf_Watch_barring : PySem.W.findIn K (.ref q_Watch) "barring" = some none)
    : ∃ fd : FuncData, (∀ (s : Shared) (v : Value), BindsTo s fd ⟨[v], []⟩ [("_law_script", v)]) ∧ ∀ base : Heap, K.In base → base.Ns mainGlobals mg → FnOk l.prog w K mg base (L2.CX l.prog w) 9 fa fd ["_law_script"] (spL K) := by
  have e := hfa.symm.trans (PySem.W.mg_of X G a24)
  cases e
  have er_NoMany : ErC K mg "NoMany" q_NoMany := ⟨PySem.W.mg_of X G n_NoMany, n_NoMany, ga_NoMany, gg_NoMany, ex_NoMany, cl_NoMany, ac_NoMany, mo_NoMany, ty_NoMany, hd_NoMany, kp_NoMany, sp0, tk0⟩
  have T : Txt K mg ⟨q_NoFolk, q_NoLine, q_NoMany, q_NoName, q_NoPost, q_NoPosts, q_NoReach, q_NoRing, q_NoTable, q_NoText, q_NoThing, q_NoWay, q_NoWord, q_PostError⟩ := ⟨er_NoMany,
    xc_NoMany,
    ⟨PySem.W.mg_of X G n_NoFolk, cl_NoFolk, ty_NoFolk⟩,
    ⟨PySem.W.mg_of X G n_NoLine, cl_NoLine, ty_NoLine⟩,
    ⟨PySem.W.mg_of X G n_NoMany, cl_NoMany, ty_NoMany⟩,
    ⟨PySem.W.mg_of X G n_NoName, cl_NoName, ty_NoName⟩,
    ⟨PySem.W.mg_of X G n_NoPost, cl_NoPost, ty_NoPost⟩,
    ⟨PySem.W.mg_of X G n_NoPosts, cl_NoPosts, ty_NoPosts⟩,
    ⟨PySem.W.mg_of X G n_NoReach, cl_NoReach, ty_NoReach⟩,
    ⟨PySem.W.mg_of X G n_NoRing, cl_NoRing, ty_NoRing⟩,
    ⟨PySem.W.mg_of X G n_NoTable, cl_NoTable, ty_NoTable⟩,
    ⟨PySem.W.mg_of X G n_NoText, cl_NoText, ty_NoText⟩,
    ⟨PySem.W.mg_of X G n_NoThing, cl_NoThing, ty_NoThing⟩,
    ⟨PySem.W.mg_of X G n_NoWay, cl_NoWay, ty_NoWay⟩,
    ⟨PySem.W.mg_of X G n_NoWord, cl_NoWord, ty_NoWord⟩,
    ⟨PySem.W.mg_of X G n_PostError, cl_PostError, ty_PostError⟩,
    al_cons (⟨_, er_NoMany.g, er_NoMany.n, exm_of ex_PostError cl_PostError ty_PostError su_NoMany_PostError⟩) (fun _ z => (nomatch z)),
    al_cons (⟨_, er_NoMany, kit_of cl_NoFolk ty_NoFolk su_NoMany_NoFolk (fun z => absurd z (ne_sub su_NoMany_NoFolk su_NoMany_NoMany))⟩) (fun _ z => (nomatch z)),
    al_cons (⟨_, er_NoMany, kit_of cl_NoLine ty_NoLine su_NoMany_NoLine (fun z => absurd z (ne_sub su_NoMany_NoLine su_NoMany_NoMany))⟩) (fun _ z => (nomatch z)),
    al_cons (⟨_, er_NoMany, kit_of cl_NoMany ty_NoMany su_NoMany_NoMany (fun _ => rfl)⟩) (fun _ z => (nomatch z)),
    al_cons (⟨_, er_NoMany, kit_of cl_NoName ty_NoName su_NoMany_NoName (fun z => absurd z (ne_sub su_NoMany_NoName su_NoMany_NoMany))⟩) (fun _ z => (nomatch z)),
    al_cons (⟨_, er_NoMany, kit_of cl_NoPost ty_NoPost su_NoMany_NoPost (fun z => absurd z (ne_sub su_NoMany_NoPost su_NoMany_NoMany))⟩) (fun _ z => (nomatch z)),
    al_cons (⟨_, er_NoMany, kit_of cl_NoPosts ty_NoPosts su_NoMany_NoPosts (fun z => absurd z (ne_sub su_NoMany_NoPosts su_NoMany_NoMany))⟩) (fun _ z => (nomatch z)),
    al_cons (⟨_, er_NoMany, kit_of cl_NoReach ty_NoReach su_NoMany_NoReach (fun z => absurd z (ne_sub su_NoMany_NoReach su_NoMany_NoMany))⟩) (fun _ z => (nomatch z)),
    al_cons (⟨_, er_NoMany, kit_of cl_NoRing ty_NoRing su_NoMany_NoRing (fun z => absurd z (ne_sub su_NoMany_NoRing su_NoMany_NoMany))⟩) (fun _ z => (nomatch z)),
    al_cons (⟨_, er_NoMany, kit_of cl_NoTable ty_NoTable su_NoMany_NoTable (fun z => absurd z (ne_sub su_NoMany_NoTable su_NoMany_NoMany))⟩) (fun _ z => (nomatch z)),
    al_cons (⟨_, er_NoMany, kit_of cl_NoText ty_NoText su_NoMany_NoText (fun z => absurd z (ne_sub su_NoMany_NoText su_NoMany_NoMany))⟩) (fun _ z => (nomatch z)),
    al_cons (⟨_, er_NoMany, kit_of cl_NoThing ty_NoThing su_NoMany_NoThing (fun z => absurd z (ne_sub su_NoMany_NoThing su_NoMany_NoMany))⟩) (fun _ z => (nomatch z)),
    al_cons (⟨_, er_NoMany, kit_of cl_NoWay ty_NoWay su_NoMany_NoWay (fun z => absurd z (ne_sub su_NoMany_NoWay su_NoMany_NoMany))⟩) (fun _ z => (nomatch z)),
    al_cons (⟨_, er_NoMany, kit_of cl_NoWord ty_NoWord su_NoMany_NoWord (fun z => absurd z (ne_sub su_NoMany_NoWord su_NoMany_NoMany))⟩) (fun _ z => (nomatch z)),
    al_cons (⟨_, er_NoMany, kit_ve ve_NoMany⟩) (fun _ z => (nomatch z)),
    ⟨⟨q_Watch, PySem.W.mg_of X G n_Watch, n_Watch, ⟨pg_Watch, hc_Watch, po_Watch, sa_Watch⟩, al_cons nf_Watch_many (al_cons nf_Watch_places (al_cons nf_Watch_chosen (al_cons nf_Watch_least_way (al_cons nf_Watch_barring (fun _ z => (nomatch z))))))⟩⟩,
    PySem.W.mg_none_of X G z_ValueError,
    PySem.W.mg_none_of X G z_abs,
    PySem.W.mg_none_of X G z_all,
    PySem.W.mg_none_of X G z_bool,
    PySem.W.mg_none_of X G z_enumerate,
    PySem.W.mg_none_of X G z_int,
    PySem.W.mg_none_of X G z_isinstance,
    PySem.W.mg_none_of X G z_len,
    PySem.W.mg_none_of X G z_list,
    PySem.W.mg_none_of X G z_max,
    PySem.W.mg_none_of X G z_min,
    PySem.W.mg_none_of X G z_range,
    PySem.W.mg_none_of X G z_reversed,
    PySem.W.mg_none_of X G z_sum,
    PySem.W.mg_none_of X G z_tuple⟩
  have F0 := fun_mk (st := st_law_digits) l0 c0 k0
  have b0 := F0.binds (ps := ["_law_script", "_law_at", "_law_parts"]) fun _ _ _ _ _ _ us hl => match us, hl with | [_, _, _], _ => rfl
  have F1 := fun_mk (st := st_look_at_many) l1 c1 k1
  have b1 := F1.binds (ps := ["many"]) fun _ _ _ _ _ _ us hl => match us, hl with | [_], _ => rfl
  have F2 := fun_mk (st := st_Watch_init) l2 c2 k2
  have b2 := F2.binds (ps := ["self", "many"]) fun _ _ _ _ _ _ us hl => match us, hl with | [_, _], _ => rfl
  have F3 := fun_mk (st := st_law_place) l3 c3 k3
  have b3 := F3.binds (ps := ["_law_purse"]) fun _ _ _ _ _ _ us hl => match us, hl with | [_], _ => rfl
  have F4 := fun_mk (st := st_Watch_way) l4 c4 k4
  have b4 := F4.binds (ps := ["self", "one", "other"]) fun _ _ _ _ _ _ us hl => match us, hl with | [_, _, _], _ => rfl
  have F5 := fun_mk (st := st_Watch_is_far) l5 c5 k5
  have b5 := F5.binds (ps := ["self", "number", "posts"]) fun _ _ _ _ _ _ us hl => match us, hl with | [_, _, _], _ => rfl
  have F6 := fun_mk (st := st_Watch_thin) l6 c6 k6
  have b6 := F6.binds (ps := ["self"]) fun _ _ _ _ _ _ us hl => match us, hl with | [_], _ => rfl
  have F7 := fun_mk (st := st_Watch_come) l7 c7 k7
  have b7 := F7.binds (ps := ["self", "x", "y"]) fun _ _ _ _ _ _ us hl => match us, hl with | [_, _, _], _ => rfl
  have F8 := fun_mk (st := st_law_way) l8 c8 k8
  have b8 := F8.binds (ps := ["_law_model", "_law_one", "_law_other"]) fun _ _ _ _ _ _ us hl => match us, hl with | [_, _, _], _ => rfl
  have F9 := fun_mk (st := st_law_is_far) l9 c9 k9
  have b9 := F9.binds (ps := ["_law_model", "_law_number", "_law_posts"]) fun _ _ _ _ _ _ us hl => match us, hl with | [_, _, _], _ => rfl
  have F10 := fun_mk (st := st_law_thinned) l10 c10 k10
  have b10 := F10.binds (ps := ["_law_model"]) fun _ _ _ _ _ _ us hl => match us, hl with | [_], _ => rfl
  have F11 := fun_mk (st := st_law_come) l11 c11 k11
  have b11 := F11.binds (ps := ["_law_model", "_law_place_here"]) fun _ _ _ _ _ _ us hl => match us, hl with | [_, _], _ => rfl
  have F12 := fun_mk (st := st_law_whole) l12 c12 k12
  have b12 := F12.binds (ps := ["_law_found"]) fun _ _ _ _ _ _ us hl => match us, hl with | [_], _ => rfl
  have F13 := fun_mk (st := st_Watch_folk) l13 c13 k13
  have b13 := F13.binds (ps := ["self"]) fun _ _ _ _ _ _ us hl => match us, hl with | [_], _ => rfl
  have F14 := fun_mk (st := st_Watch_bar) l14 c14 k14
  have b14 := F14.binds (ps := ["self"]) fun _ _ _ _ _ _ us hl => match us, hl with | [_], _ => rfl
  have F15 := fun_mk (st := st_Watch_posts) l15 c15 k15
  have b15 := F15.binds (ps := ["self"]) fun _ _ _ _ _ _ us hl => match us, hl with | [_], _ => rfl
  have F16 := fun_mk (st := st_law_wholes) l16 c16 k16
  have b16 := F16.binds (ps := ["_law_row"]) fun _ _ _ _ _ _ us hl => match us, hl with | [_], _ => rfl
  have F17 := fun_mk (st := st_Watch_reach) l17 c17 k17
  have b17 := F17.binds (ps := ["self"]) fun _ _ _ _ _ _ us hl => match us, hl with | [_], _ => rfl
  have F18 := fun_mk (st := st_Watch_mark) l18 c18 k18
  have b18 := F18.binds (ps := ["self"]) fun _ _ _ _ _ _ us hl => match us, hl with | [_], _ => rfl
  have F19 := fun_mk (st := st_law_far) l19 c19 k19
  have b19 := F19.binds (ps := ["_law_model"]) fun _ _ _ _ _ _ us hl => match us, hl with | [_], _ => rfl
  have F20 := fun_mk (st := st_law_is_so) l20 c20 k20
  have b20 := F20.binds (ps := ["_law_watch", "_law_model"]) fun _ _ _ _ _ _ us hl => match us, hl with | [_, _], _ => rfl
  have F21 := fun_mk (st := st_law_classes) l21 c21 k21
  have b21 := F21.binds (ps := ["_law_kept"]) fun _ _ _ _ _ _ us hl => match us, hl with | [_], _ => rfl
  have F22 := fun_mk (st := st_law_which) l22 c22 k22
  have b22 := F22.binds (ps := ["_law_kept"]) fun _ _ _ _ _ _ us hl => match us, hl with | [_], _ => rfl
  have F23 := fun_mk (st := st_law_refused) l23 c23 k23
  have b23 := F23.binds (ps := ["_law_many"]) fun _ _ _ _ _ _ us hl => match us, hl with | [_], _ => rfl
  have F24 := fun_mk (st := st_law) l24 c24 k24
  refine ⟨PySem.W.fnOf "law" "law" (defArgs st_law) (defBody st_law) (defScope st_law) .none kV24 dc24 pm24 an24 cd24 ct24, fun s v => .of_eq rfl, fun base _ _ => law_fn (φ := φ_law) ?_ law_true⟩
  have D0 : Def l.prog w K mg base "_law_digits" 3 φ_law_digits 1 := def_mk (PySem.W.mg_of X G a0) (ok_law_digits T F0 ) b0 k0
  have D1 : Def l.prog w K mg base "look_at_many" 1 φ_look_at_many 1 := def_mk (PySem.W.mg_of X G a1) (ok_look_at_many T F1 ) b1 k1
  have D2 : DefM l.prog w K mg base "Watch" 1 φ_Watch_init 2 := ⟨⟨q_Watch, f2, _, _, PySem.W.mg_of X G n_Watch, n_Watch, ⟨mk_Watch, a2, m2, kc_Watch⟩, ok_Watch_init T F2 D1, b2⟩⟩
  have D3 : Def l.prog w K mg base "_law_place" 1 φ_law_place 1 := def_mk (PySem.W.mg_of X G a3) (ok_law_place T F3 ) b3 k3
  have D4 : DefMt l.prog w K mg base "Watch" "way" 2 φ_Watch_way 1 := ⟨⟨q_Watch, f4, _, _, n_Watch, ⟨pg_Watch, hc_Watch, po_Watch, sa_Watch⟩, ⟨a4, m4, k4⟩, ok_Watch_way T F4 , b4⟩⟩
  have D5 : DefMt l.prog w K mg base "Watch" "is_far" 2 φ_Watch_is_far 3 := ⟨⟨q_Watch, f5, _, _, n_Watch, ⟨pg_Watch, hc_Watch, po_Watch, sa_Watch⟩, ⟨a5, m5, k5⟩, ok_Watch_is_far T F5 D4, b5⟩⟩
  have D6 : DefMt l.prog w K mg base "Watch" "thin" 0 φ_Watch_thin 5 := ⟨⟨q_Watch, f6, _, _, n_Watch, ⟨pg_Watch, hc_Watch, po_Watch, sa_Watch⟩, ⟨a6, m6, k6⟩, ok_Watch_thin T F6 D4 D5, b6⟩⟩
  have D7 : DefMt l.prog w K mg base "Watch" "come" 2 φ_Watch_come 7 := ⟨⟨q_Watch, f7, _, _, n_Watch, ⟨pg_Watch, hc_Watch, po_Watch, sa_Watch⟩, ⟨a7, m7, k7⟩, ok_Watch_come T F7 D5 D6, b7⟩⟩
  have D8 : Def l.prog w K mg base "_law_way" 3 φ_law_way 1 := def_mk (PySem.W.mg_of X G a8) (ok_law_way T F8 ) b8 k8
  have D9 : Def l.prog w K mg base "_law_is_far" 3 φ_law_is_far 2 := def_mk (PySem.W.mg_of X G a9) (ok_law_is_far T F9 D8) b9 k9
  have D10 : Def l.prog w K mg base "_law_thinned" 1 φ_law_thinned 3 := def_mk (PySem.W.mg_of X G a10) (ok_law_thinned T F10 D8 D9) b10 k10
  have D11 : Def l.prog w K mg base "_law_come" 2 φ_law_come 4 := def_mk (PySem.W.mg_of X G a11) (ok_law_come T F11 D9 D10) b11 k11
  have D12 : Def l.prog w K mg base "_law_whole" 1 φ_law_whole 1 := def_mk (PySem.W.mg_of X G a12) (ok_law_whole T F12 ) b12 k12
  have D13 : DefMt l.prog w K mg base "Watch" "folk" 0 φ_Watch_folk 1 := ⟨⟨q_Watch, f13, _, _, n_Watch, ⟨pg_Watch, hc_Watch, po_Watch, sa_Watch⟩, ⟨a13, m13, k13⟩, ok_Watch_folk T F13 , b13⟩⟩
  have D14 : DefMt l.prog w K mg base "Watch" "bar" 0 φ_Watch_bar 1 := ⟨⟨q_Watch, f14, _, _, n_Watch, ⟨pg_Watch, hc_Watch, po_Watch, sa_Watch⟩, ⟨a14, m14, k14⟩, ok_Watch_bar T F14 , b14⟩⟩
  have D15 : DefMt l.prog w K mg base "Watch" "posts" 0 φ_Watch_posts 1 := ⟨⟨q_Watch, f15, _, _, n_Watch, ⟨pg_Watch, hc_Watch, po_Watch, sa_Watch⟩, ⟨a15, m15, k15⟩, ok_Watch_posts T F15 , b15⟩⟩
  have D16 : Def l.prog w K mg base "_law_wholes" 1 φ_law_wholes 2 := def_mk (PySem.W.mg_of X G a16) (ok_law_wholes T F16 D12) b16 k16
  have D17 : DefMt l.prog w K mg base "Watch" "reach" 0 φ_Watch_reach 3 := ⟨⟨q_Watch, f17, _, _, n_Watch, ⟨pg_Watch, hc_Watch, po_Watch, sa_Watch⟩, ⟨a17, m17, k17⟩, ok_Watch_reach T F17 D4, b17⟩⟩
  have D18 : DefMt l.prog w K mg base "Watch" "mark" 0 φ_Watch_mark 1 := ⟨⟨q_Watch, f18, _, _, n_Watch, ⟨pg_Watch, hc_Watch, po_Watch, sa_Watch⟩, ⟨a18, m18, k18⟩, ok_Watch_mark T F18 , b18⟩⟩
  have D19 : Def l.prog w K mg base "_law_far" 1 φ_law_far 2 := def_mk (PySem.W.mg_of X G a19) (ok_law_far T F19 D8) b19 k19
  have D20 : Def l.prog w K mg base "_law_is_so" 2 φ_law_is_so 5 := def_mk (PySem.W.mg_of X G a20) (ok_law_is_so T F20 D13 D12 D14 D15 D16 D17 D18 D19) b20 k20
  have D21 : Def l.prog w K mg base "_law_classes" 1 φ_law_classes 1 := def_mk (PySem.W.mg_of X G a21) (ok_law_classes T F21 ) b21 k21
  have D22 : Def l.prog w K mg base "_law_which" 1 φ_law_which 2 := def_mk (PySem.W.mg_of X G a22) (ok_law_which T F22 D21) b22 k22
  have D23 : Def l.prog w K mg base "_law_refused" 1 φ_law_refused 4 := def_mk (PySem.W.mg_of X G a23) (ok_law_refused T F23 D2 D22) b23 k23
  exact ok_law T F24 D0 D2 D3 D7 D11 D12 D20 D23
end Lw
open PySem PySem.W PyProof.Rows
set_option maxHeartbeats 0 in
theorem PySem.Challenge.cw_nearposts_k50_folk_that_come_holds : PySem.Challenge.rw_nearposts_k50_folk_that_come.Holds := by
  w_on; o_law; k_head; (case hw => w_witness2)
  k_fill
  refine L2.walk_of (l := PySem.Challenge.rw_nearposts_k50_folk_that_come) (n := 63) (k := 9) (x := "_law_script") (CX := fun w => L2.CX (PySem.Challenge.rw_nearposts_k50_folk_that_come).prog w) (sp := fun w => DL.spL _) rfl (by decide) rfl ⟨rfl, by decide, by decide⟩ (fun w h Y => PySem.W.kIn_of Y) ?F (fun _ _ a ns hl _ hS => ⟨a, ns, rfl, hS, hl, fun _ => rfl⟩) (fun _ _ _ _ _ h => DL.cx_no h)
  case F =>
    intro w mg fa h KX G hmg
    refine' Lw.all_mk KX G hmg ?a0 ?l0 ?c0 ?k0 ?a1 ?l1 ?c1 ?k1 ?a2 ?m2 ?l2 ?c2 ?k2 ?a3 ?l3 ?c3 ?k3 ?a4 ?m4 ?l4 ?c4 ?k4 ?a5 ?m5 ?l5 ?c5 ?k5 ?a6 ?m6 ?l6 ?c6 ?k6 ?a7 ?m7 ?l7 ?c7 ?k7 ?a8 ?l8 ?c8 ?k8 ?a9 ?l9 ?c9 ?k9 ?a10 ?l10 ?c10 ?k10 ?a11 ?l11 ?c11 ?k11 ?a12 ?l12 ?c12 ?k12 ?a13 ?m13 ?l13 ?c13 ?k13 ?a14 ?m14 ?l14 ?c14 ?k14 ?a15 ?m15 ?l15 ?c15 ?k15 ?a16 ?l16 ?c16 ?k16 ?a17 ?m17 ?l17 ?c17 ?k17 ?a18 ?m18 ?l18 ?c18 ?k18 ?a19 ?l19 ?c19 ?k19 ?a20 ?l20 ?c20 ?k20 ?a21 ?l21 ?c21 ?k21 ?a22 ?l22 ?c22 ?k22 ?a23 ?l23 ?c23 ?k23 ?a24 ?l24 ?c24 ?k24 ?z_ValueError ?z_abs ?z_all ?z_bool ?z_enumerate ?z_int ?z_isinstance ?z_len ?z_list ?z_max ?z_min ?z_range ?z_reversed ?z_sum ?z_tuple ?sp0 ?tk0 ?n_NoFolk ?cl_NoFolk ?ty_NoFolk ?n_NoLine ?cl_NoLine ?ty_NoLine ?n_NoMany ?cl_NoMany ?ty_NoMany ?n_NoName ?cl_NoName ?ty_NoName ?n_NoPost ?cl_NoPost ?ty_NoPost ?n_NoPosts ?cl_NoPosts ?ty_NoPosts ?n_NoReach ?cl_NoReach ?ty_NoReach ?n_NoRing ?cl_NoRing ?ty_NoRing ?n_NoTable ?cl_NoTable ?ty_NoTable ?n_NoText ?cl_NoText ?ty_NoText ?n_NoThing ?cl_NoThing ?ty_NoThing ?n_NoWay ?cl_NoWay ?ty_NoWay ?n_NoWord ?cl_NoWord ?ty_NoWord ?n_PostError ?cl_PostError ?ty_PostError ?ex_NoMany ?ex_PostError ?ga_NoMany ?gg_NoMany ?ac_NoMany ?mo_NoMany ?hd_NoMany ?kp_NoMany ?ve_NoMany ?su_NoMany_NoFolk ?su_NoMany_NoLine ?su_NoMany_NoMany ?su_NoMany_NoName ?su_NoMany_NoPost ?su_NoMany_NoPosts ?su_NoMany_NoReach ?su_NoMany_NoRing ?su_NoMany_NoTable ?su_NoMany_NoText ?su_NoMany_NoThing ?su_NoMany_NoWay ?su_NoMany_NoWord ?su_NoMany_PostError ?xc_NoMany ?n_Watch ?pg_Watch ?hc_Watch ?po_Watch ?sa_Watch ?mk_Watch ?kc_Watch ?nf_Watch_many ?nf_Watch_places ?nf_Watch_chosen ?nf_Watch_least_way ?nf_Watch_barring
    (case n_Watch => k_is)
    (case a0 => k_is)
    (case l0 => k_is)
    (case c0 => k_is)
    (case k0 => k_is)
    (case a1 => k_is)
    (case l1 => k_is)
    (case c1 => k_is)
    (case k1 => k_is)
    (case a2 => k_is)
    (case m2 => k_is)
    (case l2 => k_is)
    (case c2 => k_is)
    (case k2 => k_is)
    (case a3 => k_is)
    (case l3 => k_is)
    (case c3 => k_is)
    (case k3 => k_is)
    (case a4 => k_is)
    (case m4 => k_is)
    (case l4 => k_is)
    (case c4 => k_is)
    (case k4 => k_is)
    (case a5 => k_is)
    (case m5 => k_is)
    (case l5 => k_is)
    (case c5 => k_is)
    (case k5 => k_is)
    (case a6 => k_is)
    (case m6 => k_is)
    (case l6 => k_is)
    (case c6 => k_is)
    (case k6 => k_is)
    (case a7 => k_is)
    (case m7 => k_is)
    (case l7 => k_is)
    (case c7 => k_is)
    (case k7 => k_is)
    (case a8 => k_is)
    (case l8 => k_is)
    (case c8 => k_is)
    (case k8 => k_is)
    (case a9 => k_is)
    (case l9 => k_is)
    (case c9 => k_is)
    (case k9 => k_is)
    (case a10 => k_is)
    (case l10 => k_is)
    (case c10 => k_is)
    (case k10 => k_is)
    (case a11 => k_is)
    (case l11 => k_is)
    (case c11 => k_is)
    (case k11 => k_is)
    (case a12 => k_is)
    (case l12 => k_is)
    (case c12 => k_is)
    (case k12 => k_is)
    (case a13 => k_is)
    (case m13 => k_is)
    (case l13 => k_is)
    (case c13 => k_is)
    (case k13 => k_is)
    (case a14 => k_is)
    (case m14 => k_is)
    (case l14 => k_is)
    (case c14 => k_is)
    (case k14 => k_is)
    (case a15 => k_is)
    (case m15 => k_is)
    (case l15 => k_is)
    (case c15 => k_is)
    (case k15 => k_is)
    (case a16 => k_is)
    (case l16 => k_is)
    (case c16 => k_is)
    (case k16 => k_is)
    (case a17 => k_is)
    (case m17 => k_is)
    (case l17 => k_is)
    (case c17 => k_is)
    (case k17 => k_is)
    (case a18 => k_is)
    (case m18 => k_is)
    (case l18 => k_is)
    (case c18 => k_is)
    (case k18 => k_is)
    (case a19 => k_is)
    (case l19 => k_is)
    (case c19 => k_is)
    (case k19 => k_is)
    (case a20 => k_is)
    (case l20 => k_is)
    (case c20 => k_is)
    (case k20 => k_is)
    (case a21 => k_is)
    (case l21 => k_is)
    (case c21 => k_is)
    (case k21 => k_is)
    (case a22 => k_is)
    (case l22 => k_is)
    (case c22 => k_is)
    (case k22 => k_is)
    (case a23 => k_is)
    (case l23 => k_is)
    (case c23 => k_is)
    (case k23 => k_is)
    (case a24 => k_is)
    (case l24 => k_is)
    (case c24 => k_is)
    (case k24 => k_is)
    (case z_ValueError => k_is)
    (case z_abs => k_is)
    (case z_all => k_is)
    (case z_bool => k_is)
    (case z_enumerate => k_is)
    (case z_int => k_is)
    (case z_isinstance => k_is)
    (case z_len => k_is)
    (case z_list => k_is)
    (case z_max => k_is)
    (case z_min => k_is)
    (case z_range => k_is)
    (case z_reversed => k_is)
    (case z_sum => k_is)
    (case z_tuple => k_is)
    (case sp0 => k_is)
    (case tk0 => k_is)
    (case n_NoFolk => k_is)
    (case cl_NoFolk => k_is)
    (case ty_NoFolk => k_is)
    (case n_NoLine => k_is)
    (case cl_NoLine => k_is)
    (case ty_NoLine => k_is)
    (case n_NoMany => k_is)
    (case cl_NoMany => k_is)
    (case ty_NoMany => k_is)
    (case n_NoName => k_is)
    (case cl_NoName => k_is)
    (case ty_NoName => k_is)
    (case n_NoPost => k_is)
    (case cl_NoPost => k_is)
    (case ty_NoPost => k_is)
    (case n_NoPosts => k_is)
    (case cl_NoPosts => k_is)
    (case ty_NoPosts => k_is)
    (case n_NoReach => k_is)
    (case cl_NoReach => k_is)
    (case ty_NoReach => k_is)
    (case n_NoRing => k_is)
    (case cl_NoRing => k_is)
    (case ty_NoRing => k_is)
    (case n_NoTable => k_is)
    (case cl_NoTable => k_is)
    (case ty_NoTable => k_is)
    (case n_NoText => k_is)
    (case cl_NoText => k_is)
    (case ty_NoText => k_is)
    (case n_NoThing => k_is)
    (case cl_NoThing => k_is)
    (case ty_NoThing => k_is)
    (case n_NoWay => k_is)
    (case cl_NoWay => k_is)
    (case ty_NoWay => k_is)
    (case n_NoWord => k_is)
    (case cl_NoWord => k_is)
    (case ty_NoWord => k_is)
    (case n_PostError => k_is)
    (case cl_PostError => k_is)
    (case ty_PostError => k_is)
    (case ex_NoMany => k_is)
    (case ex_PostError => k_is)
    (case ga_NoMany => k_is)
    (case gg_NoMany => k_is)
    (case ac_NoMany => k_is)
    (case mo_NoMany => k_is)
    (case hd_NoMany => k_is)
    (case kp_NoMany => k_is)
    (case ve_NoMany => k_is)
    (case su_NoMany_NoFolk => k_is)
    (case su_NoMany_NoLine => k_is)
    (case su_NoMany_NoMany => k_is)
    (case su_NoMany_NoName => k_is)
    (case su_NoMany_NoPost => k_is)
    (case su_NoMany_NoPosts => k_is)
    (case su_NoMany_NoReach => k_is)
    (case su_NoMany_NoRing => k_is)
    (case su_NoMany_NoTable => k_is)
    (case su_NoMany_NoText => k_is)
    (case su_NoMany_NoThing => k_is)
    (case su_NoMany_NoWay => k_is)
    (case su_NoMany_NoWord => k_is)
    (case su_NoMany_PostError => k_is)
    (case xc_NoMany => k_exc)
    (case pg_Watch => k_is)
    (case hc_Watch => k_is)
    (case po_Watch => k_is)
    (case sa_Watch => k_is)
    (case mk_Watch => k_is)
    (case kc_Watch => k_is)
    (case nf_Watch_many => k_is)
    (case nf_Watch_places => k_is)
    (case nf_Watch_chosen => k_is)
    (case nf_Watch_least_way => k_is)
    (case nf_Watch_barring => k_is)
