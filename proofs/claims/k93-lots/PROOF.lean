import PyProof.Rows.All
import Wide.All
import OpenK.AllK
import Wide.FinOn
import KE.KStateDown
import KE.SortKeyHeap
import KE.KDictDisplayH
import HandS.ForMost
import HandS.Walk
import HandS.Wide
import HandS.WideBits
import HandS.SortInts
import HandS.SortKw
import HandS.Conv
import HandS.Defaults
import HandS.Lambda
import HandS.EndTab
import HandS.HeadHook4
import HandS.HeadWalk
import KE.GoesMore
import KE.DataMinMax
import KE.SortData
import Lean
import HandS.Base
import HandS.Call
import HandS.Ends
import HandS.More
import HandS.Words
import HandS.WordsExc
import HandS.Head0
import HandS.Head1
import HandS.Head2
import HandS.HeadEnd
import HandS.HeadHook1
import HandS.HeadHook2
import HandS.HeadHook3
import PySem.Challenge.RW_meshworks_k93_whole_parted_works_part_lo
set_option Elab.async false
set_option linter.all false
set_option maxRecDepth 100000
set_option maxHeartbeats 4000000
/-! The typed layer: what lies frozen (G), what stands (H). -/
namespace Mw
open PySem PySem.Spec PyProof.Rows L2
/-! ### the lambda's code table -/
def ptOf (K : PySem.W.Frag) : Addr := (He.cT K ("told_tails", none)).2
def lamQ : Str := "told_tails.<locals>.<lambda>"
/-- all that is known but code tables stays; what is known stays known; the table stays well told -/
structure Kp (K : PySem.W.Frag) (H H' : Hp) : Prop where
  st : LamX.ExtN H H'
  fr : ∀ b, H' b = none → H b = none
  tb : LamX.TabS H (ptOf K) lamQ → LamX.TabS H' (ptOf K) lamQ
section
variable {K : PySem.W.Frag} {G G1 G2 G3 H H0 H1 H2 H3 : Hp}
theorem Kp.refl : Kp K H H := ⟨LamX.ExtN.refl H, fun _ h => h, fun h => h⟩
theorem Kp.trans (a : Kp K H H1) (b : Kp K H1 H2) : Kp K H H2 := ⟨a.st.trans b.st, fun c h => a.fr c (b.fr c h), fun h => b.tb (a.tb h)⟩
theorem Kp.same (s : Same H H1) : Kp K H H1 := ⟨LamX.ExtN.of s, fun _ h => s.free h, fun t => t.ext s⟩
theorem same_new {p : Addr} {o : HO} (n : H p = none) : Same H (upd H p o) := fun b u e => by
  rw [upd_ne (ne_of_none e n)]
  exact e
theorem Kp.new {p : Addr} {o : HO} (n : H p = none) : Kp K H (upd H p o) := Kp.same (same_new n)
/-- an object that H does not know, and that is no code object, is written -/
theorem Kp.mut {p : Addr} {o u : HO} (k : Kp K H H1) (n : H p = none) (x : H1 p = some u) (nx : ∀ f, u ≠ .ext f) (nt : ∀ ps, u ≠ .tbl ps) : Kp K H (upd H1 p o) := by
  refine ⟨fun b v e nv => ?_, fun b hb => ?_, fun t => ?_⟩
  · rw [upd_ne (ne_of_none e n)]
    exact k.st b v e nv
  · by_cases hp : b = p
    · rw [hp]
      exact n
    · rw [upd_ne hp] at hb
      exact k.fr b hb
  · obtain ⟨ps, h1, h2, h3⟩ := k.tb t
    have np : ptOf K ≠ p := fun z => by
      rw [z, x] at h1
      exact nt ps (Option.some.inj h1)
    refine ⟨ps, by rw [upd_ne np]; exact h1, h2, fun pos cv hc => ?_⟩
    obtain ⟨c, e1, e2⟩ := h3 pos cv hc
    refine ⟨c, e1, ?_⟩
    have nc : c ≠ p := fun z => by
      rw [z, x] at e2
      exact nx _ (Option.some.inj e2)
    rw [upd_ne nc]
    exact e2
/-- from what lies frozen and stands at one place to another: what is frozen stays frozen; a newly frozen thing was not known -/
structure Stp (K : PySem.W.Frag) (G H G' H' : Hp) : Prop where
  gg : Same G G'
  gh : Same G' H'
  hh : Kp K H H'
  nw : ∀ a, G' a ≠ none → G a ≠ none ∨ H a = none
theorem Stp.refl (s : Same G H) : Stp K G H G H := ⟨Same.refl G, s, Kp.refl, fun _ h => .inl h⟩
theorem Stp.trans (a : Stp K G H G1 H1) (b : Stp K G1 H1 G2 H2) : Stp K G H G2 H2 :=
  ⟨a.gg.trans b.gg, b.gh, a.hh.trans b.hh, fun c h => (b.nw c h).elim (fun q => a.nw c q) fun q => .inr (a.hh.fr c q)⟩
/-- a new object, frozen at once -/
theorem Stp.new {p : Addr} {o : HO} (s : Same G H) (n : H p = none) : Stp K G H (upd G p o) (upd H p o) := by
  have ng : G p = none := s.free n
  refine ⟨same_new ng, fun b u e => ?_, Kp.new n, fun a h => ?_⟩
  · by_cases hb : b = p
    · subst hb
      rw [upd_same] at e ⊢
      exact e
    · rw [upd_ne hb] at e ⊢
      exact s b u e
  · by_cases hb : a = p
    · subst hb
      exact .inr n
    · rw [upd_ne hb] at h
      exact .inl h
/-- a new object, not frozen -/
theorem Stp.raw {p : Addr} {o : HO} (s : Same G H) (n : H p = none) : Stp K G H G (upd H p o) :=
  ⟨Same.refl G, s.trans (same_new n), Kp.new n, fun _ h => .inl h⟩
/-- an object of one's own is written -/
theorem Stp.put {p : Addr} {o u : HO} (s : Stp K G H G1 H1) (n : H p = none) (g : G1 p = none) (x : H1 p = some u) (nx : ∀ f, u ≠ .ext f) (nt : ∀ ps, u ≠ .tbl ps) : Stp K G H G1 (upd H1 p o) :=
  ⟨s.gg, fun b v e => by
    rw [upd_ne (ne_of_none e g)]
    exact s.gh b v e, s.hh.mut n x nx nt, s.nw⟩
theorem Stp.putL {p : Addr} {o : HO} {xs : List V} (s : Stp K G H G1 H1) (n : H p = none) (g : G1 p = none) (x : H1 p = some (.lst xs)) : Stp K G H G1 (upd H1 p o) := s.put n g x (fun _ z => by cases z) (fun _ z => by cases z)
/-- an object of one's own is frozen -/
theorem Stp.frz {p : Addr} {u : HO} (s : Stp K G H G1 H1) (n : H p = none) (g : G1 p = none) (x : H1 p = some u) : Stp K G H (upd G1 p u) H1 := by
  refine ⟨s.gg.trans (same_new g), fun b v e => ?_, s.hh, fun a h => ?_⟩
  · by_cases hb : b = p
    · subst hb
      rw [upd_same] at e
      rw [x]
      exact e
    · rw [upd_ne hb] at e
      exact s.gh b v e
  · by_cases hb : a = p
    · subst hb
      exact .inr n
    · rw [upd_ne hb] at h
      exact s.nw a h
/-- one's own object stays one's own -/
theorem Stp.own {p : Addr} {u : HO} (s : Stp K G H G1 H1) (g : G p = none) (x : H p = some u) (nt : ∀ ps, u ≠ .tbl ps) : G1 p = none ∧ H1 p = some u := by
  refine ⟨?_, s.hh.st p u x nt⟩
  cases e : G1 p with
  | none => rfl
  | some v =>
    rcases s.nw p (by rw [e]; exact fun z => by cases z) with q | q
    · exact absurd g q
    · rw [x] at q
      cases q
theorem Stp.ownL {p : Addr} {xs : List V} (s : Stp K G H G1 H1) (g : G p = none) (x : H p = some (.lst xs)) : G1 p = none ∧ H1 p = some (.lst xs) := s.own g x fun _ z => by cases z
theorem Stp.free (s : Stp K G H G1 H1) {p : Addr} (h : H1 p = none) : H p = none := s.hh.fr p h
theorem Stp.gfree (s : Stp K G H G1 H1) {p : Addr} (h : H1 p = none) : G1 p = none := s.gh.free h
end
/-! ### what a value stands for -/
class Rep (α : Type) where
  rp : PySem.W.Frag → Hp → V → α → Prop
  mono : ∀ {K : PySem.W.Frag} {G G' : Hp} {v : V} {x : α}, Same G G' → rp K G v x → rp K G' v x
abbrev rp {α : Type} [Rep α] (K : PySem.W.Frag) (G : Hp) (v : V) (x : α) : Prop := Rep.rp K G v x
inductive All2 {α : Type} (R : V → α → Prop) : List V → List α → Prop
  | nil : All2 R [] []
  | cons {v : V} {x : α} {vs : List V} {xs : List α} : R v x → All2 R vs xs → All2 R (v :: vs) (x :: xs)
section
variable {α : Type} {R S : V → α → Prop} {vs ws : List V} {xs ys : List α}
theorem All2.len : ∀ {vs : List V} {xs : List α}, All2 R vs xs → vs.length = xs.length
  | _, _, .nil => rfl
  | _, _, .cons _ t => congrArg (· + 1) (All2.len t)
theorem All2.mp (h : ∀ v x, R v x → S v x) : ∀ {vs : List V} {xs : List α}, All2 R vs xs → All2 S vs xs
  | _, _, .nil => .nil
  | _, _, .cons r t => .cons (h _ _ r) (All2.mp h t)
theorem All2.get : ∀ {vs : List V} {xs : List α} {i : Nat} {x : α}, All2 R vs xs → xs[i]? = some x → ∃ v, vs[i]? = some v ∧ R v x
  | _, _, _, _, .nil, e => by simp at e
  | _, _, 0, _, .cons r _, e => by
    simp at e
    subst e
    exact ⟨_, rfl, r⟩
  | _, _, i + 1, x, .cons _ t, e => by
    obtain ⟨v, h1, h2⟩ := All2.get (i := i) (x := x) t (by simpa using e)
    exact ⟨v, by simpa using h1, h2⟩
theorem All2.getV : ∀ {vs : List V} {xs : List α} {i : Nat} {v : V}, All2 R vs xs → vs[i]? = some v → ∃ x, xs[i]? = some x ∧ R v x
  | _, _, _, _, .nil, e => by simp at e
  | _, _, 0, _, .cons r _, e => by
    simp at e
    subst e
    exact ⟨_, rfl, r⟩
  | _, _, i + 1, x, .cons _ t, e => by
    obtain ⟨v, h1, h2⟩ := All2.getV (i := i) (v := x) t (by simpa using e)
    exact ⟨v, by simpa using h1, h2⟩
theorem All2.app : ∀ {vs ws : List V} {xs ys : List α}, All2 R vs xs → All2 R ws ys → All2 R (vs ++ ws) (xs ++ ys)
  | _, _, _, _, .nil, s => s
  | _, _, _, _, .cons r t, s => .cons r (All2.app t s)
theorem All2.one {v : V} {x : α} (r : R v x) : All2 R [v] [x] := .cons r .nil
theorem All2.drop : ∀ {vs : List V} {xs : List α} (n : Nat), All2 R vs xs → All2 R (vs.drop n) (xs.drop n)
  | _, _, 0, r => r
  | _, _, _ + 1, .nil => .nil
  | _, _, n + 1, .cons _ t => All2.drop n t
theorem All2.take : ∀ {vs : List V} {xs : List α} (n : Nat), All2 R vs xs → All2 R (vs.take n) (xs.take n)
  | _, _, 0, _ => .nil
  | _, _, _ + 1, .nil => .nil
  | _, _, n + 1, .cons r t => .cons r (All2.take n t)
theorem All2.set {v : V} {x : α} (r : R v x) : ∀ {vs : List V} {xs : List α} (i : Nat), All2 R vs xs → All2 R (vs.set i v) (xs.set i x)
  | _, _, _, .nil => .nil
  | _, _, 0, .cons _ t => .cons r t
  | _, _, i + 1, .cons q t => .cons q (All2.set r i t)
theorem All2.erase : ∀ {vs : List V} {xs : List α} (i : Nat), All2 R vs xs → All2 R (vs.eraseIdx i) (xs.eraseIdx i)
  | _, _, _, .nil => .nil
  | _, _, 0, .cons _ t => t
  | _, _, i + 1, .cons q t => .cons q (All2.erase i t)
theorem All2.rep {v : V} {x : α} (r : R v x) : ∀ n : Nat, All2 R (List.replicate n v) (List.replicate n x)
  | 0 => .nil
  | n + 1 => .cons r (All2.rep r n)
theorem All2.dropLast : ∀ {vs : List V} {xs : List α}, All2 R vs xs → All2 R vs.dropLast xs.dropLast
  | _, _, .nil => .nil
  | _, _, .cons _ .nil => .nil
  | _, _, .cons r (.cons r2 t) => .cons r (All2.dropLast (.cons r2 t))
end
/-- three things in a tuple -/
structure T3 (α β γ : Type) where
  a : α
  b : β
  c : γ
instance : Rep Int := ⟨fun _ _ v i => v = .int i, fun _ h => h⟩
instance : Rep Nat := ⟨fun _ _ v n => v = .int (n : Int), fun _ h => h⟩
instance : Rep Bool := ⟨fun _ _ v b => v = .bl b, fun _ h => h⟩
instance : Rep Str := ⟨fun _ _ v z => v = .str z, fun _ h => h⟩
section
variable {α β γ : Type} [Rep α] [Rep β] [Rep γ]
def rpOpt (K : PySem.W.Frag) (G : Hp) (v : V) : Option α → Prop
  | none => v = .non
  | some x => rp K G v x
instance : Rep (Option α) := ⟨rpOpt, fun {K G G' v x} s h => by
  cases x with
  | none => exact h
  | some x => exact Rep.mono (α := α) s h⟩
instance : Rep (List α) := ⟨fun K G v l => ∃ a xs, v = .ref a ∧ G a = some (.lst xs) ∧ All2 (rp K G) xs l, fun s ⟨a, xs, h1, h2, h3⟩ => ⟨a, xs, h1, s _ _ h2, h3.mp fun _ _ r => Rep.mono s r⟩⟩
instance : Rep (α × β) := ⟨fun K G v p => ∃ a x y, v = .ref a ∧ G a = some (.tup [x, y]) ∧ rp K G x p.1 ∧ rp K G y p.2, fun s ⟨a, x, y, h1, h2, h3, h4⟩ => ⟨a, x, y, h1, s _ _ h2, Rep.mono s h3, Rep.mono s h4⟩⟩
instance : Rep (T3 α β γ) := ⟨fun K G v p => ∃ a x y z, v = .ref a ∧ G a = some (.tup [x, y, z]) ∧ rp K G x p.a ∧ rp K G y p.b ∧ rp K G z p.c,
  fun s ⟨a, x, y, z, h1, h2, h3, h4, h5⟩ => ⟨a, x, y, z, h1, s _ _ h2, Rep.mono s h3, Rep.mono s h4, Rep.mono s h5⟩⟩
end
/-- never None -/
class NN (α : Type) [Rep α] : Prop where
  nn : ∀ {K : PySem.W.Frag} {G : Hp} {v : V} {x : α}, rp K G v x → v ≠ .non
instance : NN Int := ⟨fun h z => by
  rw [show _ = _ from h] at z
  cases z⟩
instance : NN Nat := ⟨fun h z => by
  rw [show _ = _ from h] at z
  cases z⟩
section
variable {α β γ : Type} [Rep α] [Rep β] [Rep γ]
instance : NN (List α) := ⟨fun ⟨a, xs, h, _⟩ z => by
  rw [h] at z
  cases z⟩
instance : NN (α × β) := ⟨fun ⟨a, x, y, h, _⟩ z => by
  rw [h] at z
  cases z⟩
end
/-- the script: a list of ints, tracked, locked or written -/
structure Scr where
  ns : List Int
theorem same_sql {K : PySem.W.Frag} {G G' : Hp} {a : Addr} {xs : List V} (s : Same G G') (h : SqL K G a xs) : SqL K G' a xs := s.seq h
instance : Rep Scr := ⟨fun K G v z => ∃ a, v = .ref a ∧ SqL K G a (z.ns.map V.int), fun s ⟨a, h1, h2⟩ => ⟨a, h1, same_sql s h2⟩⟩
/-! ### what a reading comes to -/
def Ev {α : Type} [Rep α] (K : PySem.W.Frag) (te : TE) (σ : L2.St) (G : Hp) (x : α) : Prop :=
  ∀ G1 H1, Same G G1 → Same G1 H1 → ∀ Q : VK, (∀ v G2 H2, Stp K G1 H1 G2 H2 → rp K G2 v x → Q v H2) → te σ H1 Q
/-- .. to something of which P holds -/
def EvE {α : Type} [Rep α] (K : PySem.W.Frag) (te : TE) (σ : L2.St) (G : Hp) (P : α → Prop) : Prop :=
  ∀ G1 H1, Same G G1 → Same G1 H1 → ∀ Q : VK, (∀ v G2 H2 x, Stp K G1 H1 G2 H2 → rp K G2 v x → P x → Q v H2) → te σ H1 Q
def ET (K : PySem.W.Frag) (tt : TT) (σ : L2.St) (G : Hp) (b : Bool) : Prop :=
  ∀ G1 H1, Same G G1 → Same G1 H1 → ∀ Q : Bool → Hp → Prop, (∀ G2 H2, Stp K G1 H1 G2 H2 → Q b H2) → tt σ H1 Q
def EL {α : Type} [Rep α] (K : PySem.W.Frag) (ta : TA) (σ : L2.St) (G : Hp) (l : List α) : Prop :=
  ∀ G1 H1, Same G G1 → Same G1 H1 → ∀ Q : List V → Hp → Prop, (∀ vs G2 H2, Stp K G1 H1 G2 H2 → All2 (rp K G2) vs l → Q vs H2) → ta σ H1 Q
def EO (K : PySem.W.Frag) (to : TO) (σ : L2.St) (G : Hp) (o : Option Int) : Prop :=
  ∀ G1 H1, Same G G1 → Same G1 H1 → ∀ Q : Option Int → Hp → Prop, (∀ G2 H2, Stp K G1 H1 G2 H2 → Q o H2) → to σ H1 Q
theorem sz_of {n : Nat} (h : n ≤ 100000) : n ≤ sizeLine := Nat.le_trans h (by decide)
theorem sz_lt {n : Nat} (h : n < 100000) : n < sizeLine := Nat.lt_of_lt_of_le h (by decide)
section
variable {K : PySem.W.Frag} {σ : L2.St} {G G' H : Hp} {ta tb tc te : TE} {t u : TT} {α β γ : Type} [Rep α] [Rep β] [Rep γ] {x : α} {y : β} {z : γ} {v : V}
theorem Ev.mono (s : Same G G') (h : Ev K te σ G x) : Ev K te σ G' x := fun G1 H1 a b Q q => h G1 H1 (s.trans a) b Q q
theorem EL.mono {ta : TA} {l : List α} (s : Same G G') (h : EL K ta σ G l) : EL K ta σ G' l := fun G1 H1 a b Q q => h G1 H1 (s.trans a) b Q q
theorem Ev.E (h : Ev K te σ G x) {P : α → Prop} (p : P x) : EvE K te σ G P := fun G1 H1 a b Q q => h G1 H1 a b Q fun v G2 H2 s r => q v G2 H2 x s r p
theorem EvE.imp {P P' : α → Prop} (h : EvE K te σ G P) (p : ∀ x, P x → P' x) : EvE K te σ G P' := fun G1 H1 a b Q q => h G1 H1 a b Q fun v G2 H2 x s r px => q v G2 H2 x s r (p x px)
theorem ev_as {x' : α} (h : Ev K te σ G x) (e : x = x') : Ev K te σ G x' := e ▸ h
theorem et_as {b c : Bool} (h : ET K t σ G b) (e : b = c) : ET K t σ G c := e ▸ h
theorem ev_var {i : Nat} (r : rp K G v x) (h : σ[i]? = some (some v) := by rfl) : Ev K (tVar i) σ G x := fun G1 H1 a b Q q => ⟨v, h, q v G1 H1 (Stp.refl b) (Rep.mono a r)⟩
theorem ev_c (r : ∀ G1, Same G G1 → rp K G1 v x) : Ev K (tC v) σ G x := fun G1 H1 a b Q q => q v G1 H1 (Stp.refl b) (r G1 a)
theorem ev_i {i : Int} : Ev K (tC (.int i)) σ G i := ev_c fun _ _ => rfl
theorem ev_n {n : Nat} : Ev K (tC (.int (n : Int))) σ G n := ev_c fun _ _ => rfl
theorem ev_s {z : Str} : Ev K (tC (.str z)) σ G z := ev_c fun _ _ => rfl
theorem ev_b {b : Bool} : Ev K (tC (.bl b)) σ G b := ev_c fun _ _ => rfl
theorem ev_non : Ev K (tC .non) σ G (none : Option α) := ev_c fun _ _ => rfl
theorem ev_some (h : Ev K te σ G x) : Ev K te σ G (some x) := h
/-- two values, then a rule that gives z at once -/
theorem ev_op {r : R2} (ha : Ev K ta σ G x) (hb : Ev K tb σ G y) (hr : ∀ v w G1 H1 (Q : VK), Same G G1 → Same G1 H1 → rp K G1 v x → rp K G1 w y → (∀ u G2 H2, Stp K G1 H1 G2 H2 → rp K G2 u z → Q u H2) → r v w H1 Q) : Ev K (tOp r ta tb) σ G z := fun G1 H1 a b Q q =>
  ha G1 H1 a b _ fun v G2 H2 s1 r1 => hb G2 H2 (a.trans s1.gg) s1.gh _ fun w G3 H3 s2 r2 => hr v w G3 H3 Q ((a.trans s1.gg).trans s2.gg) s2.gh (Rep.mono s2.gg r1) r2 fun u G4 H4 s3 r3 => q u G4 H4 ((s1.trans s2).trans s3) r3
theorem ev_opI {i j : Int} {C : Int → Int → Prop} {g : Int → Int → Int} (ha : Ev K ta σ G i) (hb : Ev K tb σ G j) (hc : C i j) : Ev K (tOp (rI C fun i j => .int (g i j)) ta tb) σ G (g i j) :=
  ev_op ha hb fun v w G1 H1 Q _ s e1 e2 q => ⟨i, j, e1, e2, hc, q _ G1 H1 (Stp.refl s) rfl⟩
theorem ev_opI0 {i j : Int} {g : Int → Int → Int} (ha : Ev K ta σ G i) (hb : Ev K tb σ G j) : Ev K (tOp (rI0 fun i j => .int (g i j)) ta tb) σ G (g i j) :=
  ev_op ha hb fun v w G1 H1 Q _ s e1 e2 q => ⟨i, j, e1, e2, q _ G1 H1 (Stp.refl s) rfl⟩
theorem ev_opB {i j : Int} {g : Int → Int → Bool} (ha : Ev K ta σ G i) (hb : Ev K tb σ G j) : Ev K (tOp (rI0 fun i j => .bl (g i j)) ta tb) σ G (g i j) :=
  ev_op ha hb fun v w G1 H1 Q _ s e1 e2 q => ⟨i, j, e1, e2, q _ G1 H1 (Stp.refl s) rfl⟩
theorem ev_add {i j : Int} (ha : Ev K ta σ G i) (hb : Ev K tb σ G j) : Ev K (tOp (rI0 fun i j => .int (i + j)) ta tb) σ G (i + j) := ev_opI0 ha hb
theorem ev_sub {i j : Int} (ha : Ev K ta σ G i) (hb : Ev K tb σ G j) : Ev K (tOp (rI0 fun i j => .int (i - j)) ta tb) σ G (i - j) := ev_opI0 ha hb
theorem ev_mul {i j : Int} (ha : Ev K ta σ G i) (hb : Ev K tb σ G j) (hc : CMul i j) : Ev K (tOp (rI CMul fun i j => .int (i * j)) ta tb) σ G (i * j) := ev_opI ha hb hc
theorem ev_mulW {i j : Int} (ha : Ev K ta σ G i) (hb : Ev K tb σ G j) (hc : CMulW i j) : Ev K (tOp (rI CMulW fun i j => .int (i * j)) ta tb) σ G (i * j) := ev_opI ha hb hc
theorem ev_div {i j : Int} (ha : Ev K ta σ G i) (hb : Ev K tb σ G j) (h0 : 0 < j) (h1 : j < 1073741824) : Ev K (tOp (rI CDiv fun i j => .int (i / j)) ta tb) σ G (i / j) := ev_opI ha hb ⟨h0, h1⟩
theorem ev_mod {i j : Int} (ha : Ev K ta σ G i) (hb : Ev K tb σ G j) (hc : 0 < j) : Ev K (tOp (rI (fun _ j => 0 < j) fun i j => .int (i % j)) ta tb) σ G (i % j) := ev_opI ha hb hc
theorem ev_pow {i j : Int} (ha : Ev K ta σ G i) (hb : Ev K tb σ G j) (hc : CPow i j) : Ev K (tOp (rI CPow fun i j => .int (i ^ j.toNat)) ta tb) σ G (i ^ j.toNat) := ev_opI ha hb hc
theorem ev_lt {i j : Int} (ha : Ev K ta σ G i) (hb : Ev K tb σ G j) : Ev K (tOp (rI0 fun i j => .bl (decide (i < j))) ta tb) σ G (decide (i < j)) := ev_opB ha hb
theorem ev_le {i j : Int} (ha : Ev K ta σ G i) (hb : Ev K tb σ G j) : Ev K (tOp (rI0 fun i j => .bl (decide (i ≤ j))) ta tb) σ G (decide (i ≤ j)) := ev_opB ha hb
theorem ev_gt {i j : Int} (ha : Ev K ta σ G i) (hb : Ev K tb σ G j) : Ev K (tOp (rI0 fun i j => .bl (decide (j < i))) ta tb) σ G (decide (j < i)) := ev_opB ha hb
theorem ev_ge {i j : Int} (ha : Ev K ta σ G i) (hb : Ev K tb σ G j) : Ev K (tOp (rI0 fun i j => .bl (decide (j ≤ i))) ta tb) σ G (decide (j ≤ i)) := ev_opB ha hb
theorem ev_neg {i : Int} (ha : Ev K ta σ G i) : Ev K (tUn (rU fun i => .int (-i)) ta) σ G (-i) := fun G1 H1 a b Q q => ha G1 H1 a b _ fun v G2 H2 s r => ⟨i, r, q _ G2 H2 s rfl⟩
theorem dec_V {i j : Int} : decide (V.int i = V.int j) = decide (i = j) := by
  by_cases h : i = j
  · subst h
    simp
  · rw [decide_eq_false h, decide_eq_false (fun z => h (V.int.inj z))]
theorem dec_S {i j : Str} : decide (V.str i = V.str j) = decide (i = j) := by
  by_cases h : i = j
  · subst h
    simp
  · rw [decide_eq_false h, decide_eq_false (fun z => h (V.str.inj z))]
theorem ev_eq {i j : Int} (ha : Ev K ta σ G i) (hb : Ev K tb σ G j) : Ev K (tOp rEq ta tb) σ G (decide (i = j)) :=
  ev_op ha hb fun v w G1 H1 Q _ s e1 e2 q => by
    have e1 : v = .int i := e1
    have e2 : w = .int j := e2
    subst e1 e2
    refine ⟨rfl, ?_⟩
    rw [dec_V]
    exact q _ G1 H1 (Stp.refl s) rfl
theorem ev_ne {i j : Int} (ha : Ev K ta σ G i) (hb : Ev K tb σ G j) : Ev K (tOp rNe ta tb) σ G (!decide (i = j)) :=
  ev_op ha hb fun v w G1 H1 Q _ s e1 e2 q => by
    have e1 : v = .int i := e1
    have e2 : w = .int j := e2
    subst e1 e2
    refine ⟨rfl, ?_⟩
    rw [dec_V]
    exact q _ G1 H1 (Stp.refl s) rfl
theorem ev_eqS {i j : Str} (ha : Ev K ta σ G i) (hb : Ev K tb σ G j) : Ev K (tOp rEq ta tb) σ G (decide (i = j)) :=
  ev_op ha hb fun v w G1 H1 Q _ s e1 e2 q => by
    have e1 : v = .str i := e1
    have e2 : w = .str j := e2
    subst e1 e2
    refine ⟨rfl, ?_⟩
    rw [dec_S]
    exact q _ G1 H1 (Stp.refl s) rfl
/-! ### None -/
abbrev rIsN : R2 := fun x y H Q => y = .non ∧ Q (.bl (decide (x = .non))) H
abbrev rNotN : R2 := fun x y H Q => y = .non ∧ Q (.bl (!decide (x = .non))) H
theorem opt_dec [NN α] {o : Option α} (h : rp K G v o) : decide (v = .non) = o.isNone := by
  cases o with
  | none => exact decide_eq_true h
  | some x => exact decide_eq_false (NN.nn (α := α) (x := x) h)
theorem ev_isN [NN α] {o : Option α} (ha : Ev K ta σ G o) : Ev K (tOp rIsN ta (tC .non)) σ G o.isNone := fun G1 H1 a b Q q => ha G1 H1 a b _ fun v G2 H2 s r => ⟨rfl, by
  rw [opt_dec r]
  exact q _ G2 H2 s rfl⟩
theorem ev_notN [NN α] {o : Option α} (ha : Ev K ta σ G o) : Ev K (tOp rNotN ta (tC .non)) σ G (!o.isNone) := fun G1 H1 a b Q q => ha G1 H1 a b _ fun v G2 H2 s r => ⟨rfl, by
  rw [opt_dec r]
  exact q _ G2 H2 s rfl⟩
/-! ### tests -/
theorem et_t {b : Bool} (h : Ev K te σ G b) : ET K (tTest te) σ G b := fun G1 H1 a c Q q => h G1 H1 a c _ fun v G2 H2 s r => ⟨b, r, q G2 H2 s⟩
theorem et_b {b : Bool} (h : Ev K te σ G b) : ET K (tB te) σ G b := fun G1 H1 a c Q q => h G1 H1 a c _ fun v G2 H2 s r => ⟨b, r, q G2 H2 s⟩
theorem et_and {a b : Bool} (h1 : ET K t σ G a) (h2 : a = true → ET K u σ G b) : ET K (tAnd t u) σ G (a && b) := fun G1 H1 s1 s2 Q q => h1 G1 H1 s1 s2 _ fun G2 H2 s => by
  cases a with
  | true =>
    show u σ H2 Q
    exact h2 rfl G2 H2 (s1.trans s.gg) s.gh Q fun G3 H3 s' => q G3 H3 (s.trans s')
  | false =>
    show Q false H2
    exact q G2 H2 s
theorem et_or {a b : Bool} (h1 : ET K t σ G a) (h2 : a = false → ET K u σ G b) : ET K (tOr t u) σ G (a || b) := fun G1 H1 s1 s2 Q q => h1 G1 H1 s1 s2 _ fun G2 H2 s => by
  cases a with
  | true =>
    show Q true H2
    exact q G2 H2 s
  | false =>
    show u σ H2 Q
    exact h2 rfl G2 H2 (s1.trans s.gg) s.gh Q fun G3 H3 s' => q G3 H3 (s.trans s')
theorem et_not {a : Bool} (h1 : ET K t σ G a) : ET K (tNot t) σ G (!a) := fun G1 H1 s1 s2 Q q => h1 G1 H1 s1 s2 _ fun G2 H2 s => q G2 H2 s
theorem ev_andV {a b : Bool} (h1 : Ev K ta σ G a) (h2 : a = true → Ev K tb σ G b) : Ev K (tAndV ta tb) σ G (a && b) := fun G1 H1 s1 s2 Q q => h1 G1 H1 s1 s2 _ fun v G2 H2 s r => ⟨a, r, by
  cases a with
  | true =>
    show tb σ H2 Q
    exact h2 rfl G2 H2 (s1.trans s.gg) s.gh Q fun v G3 H3 s' r => q v G3 H3 (s.trans s') r
  | false =>
    show Q (.bl false) H2
    exact q _ G2 H2 s rfl⟩
theorem ev_notV {a : Bool} (h1 : Ev K ta σ G a) : Ev K (tNotV ta) σ G (!a) := fun G1 H1 s1 s2 Q q => h1 G1 H1 s1 s2 _ fun v G2 H2 s r => ⟨a, r, q _ G2 H2 s rfl⟩
theorem ev_chain {r r' : R2} {a b : Bool} (h : ∀ G1 H1, Same G G1 → Same G1 H1 → ∀ Q : VK, (∀ v G2 H2, Stp K G1 H1 G2 H2 → rp K G2 v (a && b) → Q v H2) → tChain r r' ta tb tc σ H1 Q) : Ev K (tChain r r' ta tb tc) σ G (a && b) := h
/-- a < b < c of ints -/
theorem ev_ch {i j k : Int} {f g : Int → Int → Bool} (ha : Ev K ta σ G i) (hb : Ev K tb σ G j) (hc : Ev K tc σ G k) : Ev K (tChain (rI0 fun i j => .bl (f i j)) (rI0 fun i j => .bl (g i j)) ta tb tc) σ G (f i j && g j k) := fun G1 H1 a b Q q =>
  ha G1 H1 a b _ fun v G2 H2 s1 r1 => hb G2 H2 (a.trans s1.gg) s1.gh _ fun w G3 H3 s2 r2 => ⟨i, j, r1, r2, f i j, rfl, by
    cases e : f i j with
    | true =>
      show tc σ H3 fun w' H4 => _
      refine hc G3 H3 ((a.trans s1.gg).trans s2.gg) s2.gh _ fun u G4 H4 s3 r3 => ⟨j, k, r2, r3, ?_⟩
      rw [e] at q
      exact q _ G4 H4 ((s1.trans s2).trans s3) rfl
    | false =>
      show Q (.bl false) H3
      rw [e] at q
      exact q _ G3 H3 (s1.trans s2) rfl⟩
theorem ev_ite {b : Bool} (h : ET K t σ G b) (h1 : b = true → Ev K ta σ G x) (h2 : b = false → Ev K tb σ G x) : Ev K (tIf t ta tb) σ G x := fun G1 H1 s1 s2 Q q => h G1 H1 s1 s2 _ fun G2 H2 s => by
  cases b with
  | true =>
    show ta σ H2 Q
    exact h1 rfl G2 H2 (s1.trans s.gg) s.gh Q fun v G3 H3 s' r => q v G3 H3 (s.trans s') r
  | false =>
    show tb σ H2 Q
    exact h2 rfl G2 H2 (s1.trans s.gg) s.gh Q fun v G3 H3 s' r => q v G3 H3 (s.trans s') r
/-! ### lists, tuples -/
theorem el_nil : EL K tNil σ G ([] : List α) := fun G1 H1 _ b Q q => q [] G1 H1 (Stp.refl b) .nil
theorem el_cons {tr : TA} {l : List α} (h : Ev K te σ G x) (hr : EL K tr σ G l) : EL K (tCons te tr) σ G (x :: l) := fun G1 H1 a b Q q =>
  h G1 H1 a b _ fun v G2 H2 s r => hr G2 H2 (a.trans s.gg) s.gh _ fun vs G3 H3 s' rs => q (v :: vs) G3 H3 (s.trans s') (.cons (Rep.mono s'.gg r) rs)
theorem ev_lst {ta : TA} {l : List α} (h : EL K ta σ G l) (hl : l.length ≤ 100000) : Ev K (tLst ta) σ G l := fun G1 H1 a b Q q => h G1 H1 a b _ fun vs G2 H2 s r =>
  ⟨sz_of (by rw [r.len]; exact hl), fun p hp => q (.ref p) _ _ (s.trans (Stp.new s.gh hp)) ⟨p, vs, rfl, upd_same, r.mp fun _ _ r => Rep.mono (same_new (s.gh.free hp)) r⟩⟩
theorem ev_t2 (ha : Ev K ta σ G x) (hb : Ev K tb σ G y) : Ev K (tTup (tCons ta (tCons tb tNil))) σ G (x, y) := fun G1 H1 a b Q q =>
  ha G1 H1 a b _ fun v G2 H2 s1 r1 => hb G2 H2 (a.trans s1.gg) s1.gh _ fun w G3 H3 s2 r2 => ⟨sz_of (by show 2 ≤ 100000; decide), fun p hp => by
    have n := same_new (o := .tup [v, w]) (s2.gh.free hp)
    exact q (.ref p) _ _ ((s1.trans s2).trans (Stp.new s2.gh hp)) ⟨p, v, w, rfl, upd_same, Rep.mono n (Rep.mono s2.gg r1), Rep.mono n r2⟩⟩
theorem ev_t3 (ha : Ev K ta σ G x) (hb : Ev K tb σ G y) (hc : Ev K tc σ G z) : Ev K (tTup (tCons ta (tCons tb (tCons tc tNil)))) σ G (T3.mk x y z) := fun G1 H1 a b Q q =>
  ha G1 H1 a b _ fun v G2 H2 s1 r1 => hb G2 H2 (a.trans s1.gg) s1.gh _ fun w G3 H3 s2 r2 => hc G3 H3 ((a.trans s1.gg).trans s2.gg) s2.gh _ fun u G4 H4 s3 r3 => ⟨sz_of (by show 3 ≤ 100000; decide), fun p hp => by
    have n := same_new (o := .tup [v, w, u]) (s3.gh.free hp)
    exact q (.ref p) _ _ (((s1.trans s2).trans s3).trans (Stp.new s3.gh hp)) ⟨p, v, w, u, rfl, upd_same, Rep.mono n (Rep.mono (s2.gg.trans s3.gg) r1), Rep.mono n (Rep.mono s3.gg r2), Rep.mono n r3⟩⟩
theorem atI_all {R : V → α → Prop} {vs : List V} {l : List α} (r : All2 R vs l) {i : Int} {x : α} (h : atI l i = some x) : ∃ v, atI vs i = some v ∧ R v x := by
  unfold atI at h ⊢
  rw [r.len]
  cases e : ixN l.length i with
  | none =>
    rw [e] at h
    cases h
  | some j =>
    rw [e] at h
    exact r.get (show l[j]? = some x from h)
theorem ev_ix {l : List α} {i : Int} (ha : Ev K ta σ G l) (hb : Ev K tb σ G i) (h : atI l i = some x) : Ev K (tOp (rIxL K) ta tb) σ G x :=
  ev_op ha hb fun v w G1 H1 Q _ s ⟨p, vs, e1, e2, e3⟩ e4 q => by
    obtain ⟨u, h1, h2⟩ := atI_all e3 h
    exact ⟨p, vs, i, u, e1, e4, SqL.of (s _ _ e2), h1, q u G1 H1 (Stp.refl s) h2⟩
theorem ev_ixN {l : List α} {i : Int} {j : Nat} (ha : Ev K ta σ G l) (hb : Ev K tb σ G i) (e : i = (j : Int)) (h : l[j]? = some x) : Ev K (tOp (rIxL K) ta tb) σ G x := ev_ix ha hb (by rw [e]; exact atI_nat h)
theorem ev_ixS {z : Scr} {i : Int} {j : Nat} {m : Int} (ha : Ev K ta σ G z) (hb : Ev K tb σ G i) (e : i = (j : Int)) (h : z.ns[j]? = some m) : Ev K (tOp (rIxL K) ta tb) σ G m :=
  ev_op ha hb fun v w G1 H1 Q _ s ⟨p, e1, e2⟩ e4 q => ⟨p, _, i, .int m, e1, e4, same_sql s e2, by rw [e]; exact atI_nat (by rw [List.getElem?_map, h]; rfl), q _ G1 H1 (Stp.refl s) rfl⟩
theorem ev_p0 {p : α × β} (ha : Ev K ta σ G p) : Ev K (tOp (rIxT K) ta (tC (.int 0))) σ G p.1 :=
  ev_op ha ev_i fun v w G1 H1 Q _ s ⟨a, x, y, e1, e2, e3, e4⟩ e5 q => ⟨a, [x, y], 0, x, e1, e5, SqT.of (s _ _ e2), rfl, q x G1 H1 (Stp.refl s) e3⟩
theorem ev_p1 {p : α × β} (ha : Ev K ta σ G p) : Ev K (tOp (rIxT K) ta (tC (.int 1))) σ G p.2 :=
  ev_op ha ev_i fun v w G1 H1 Q _ s ⟨a, x, y, e1, e2, e3, e4⟩ e5 q => ⟨a, [x, y], 1, y, e1, e5, SqT.of (s _ _ e2), rfl, q y G1 H1 (Stp.refl s) e4⟩
theorem ev_x0 {p : T3 α β γ} (ha : Ev K ta σ G p) : Ev K (tOp (rIxT K) ta (tC (.int 0))) σ G p.a :=
  ev_op ha ev_i fun v w G1 H1 Q _ s ⟨a, x, y, z, e1, e2, e3, e4, e6⟩ e5 q => ⟨a, [x, y, z], 0, x, e1, e5, SqT.of (s _ _ e2), rfl, q x G1 H1 (Stp.refl s) e3⟩
theorem ev_x1 {p : T3 α β γ} (ha : Ev K ta σ G p) : Ev K (tOp (rIxT K) ta (tC (.int 1))) σ G p.b :=
  ev_op ha ev_i fun v w G1 H1 Q _ s ⟨a, x, y, z, e1, e2, e3, e4, e6⟩ e5 q => ⟨a, [x, y, z], 1, y, e1, e5, SqT.of (s _ _ e2), rfl, q y G1 H1 (Stp.refl s) e4⟩
theorem ev_x2 {p : T3 α β γ} (ha : Ev K ta σ G p) : Ev K (tOp (rIxT K) ta (tC (.int 2))) σ G p.c :=
  ev_op ha ev_i fun v w G1 H1 Q _ s ⟨a, x, y, z, e1, e2, e3, e4, e6⟩ e5 q => ⟨a, [x, y, z], 2, z, e1, e5, SqT.of (s _ _ e2), rfl, q z G1 H1 (Stp.refl s) e6⟩
abbrev rLn (K : PySem.W.Frag) : List V → Hp → VK → Prop := fun xs H Q => ∃ p ys, xs = [.ref p] ∧ (SqL K H p ys ∨ SqT K H p ys) ∧ Q (.int ys.length) H
theorem ev_len {l : List α} (ha : Ev K ta σ G l) : Ev K (tCB (rLn K) (tCons ta tNil)) σ G l.length := fun G1 H1 a b Q q => ha G1 H1 a b _ fun v G2 H2 s ⟨p, vs, e1, e2, e3⟩ =>
  ⟨p, vs, by rw [e1], .inl (SqL.of (s.gh _ _ e2)), q _ G2 H2 s (by rw [e3.len]; rfl)⟩
theorem ev_lenS {z : Scr} (ha : Ev K ta σ G z) : Ev K (tCB (rLn K) (tCons ta tNil)) σ G z.ns.length := fun G1 H1 a b Q q => ha G1 H1 a b _ fun v G2 H2 s ⟨p, e1, e2⟩ =>
  ⟨p, _, by rw [e1], .inl (same_sql s.gh e2), q _ G2 H2 s (by rw [List.length_map]; rfl)⟩
theorem ev_cat {l m : List α} (ha : Ev K ta σ G l) (hb : Ev K tb σ G m) (hl : l.length + m.length ≤ 100000) : Ev K (tOp rCat ta tb) σ G (l ++ m) :=
  ev_op ha hb fun v w G1 H1 Q _ s ⟨p, vs, e1, e2, e3⟩ ⟨p', ws, f1, f2, f3⟩ q => ⟨p, p', vs, ws, e1, f1, s _ _ e2, s _ _ f2, sz_of (by rw [e3.len, f3.len]; exact hl), fun d hd =>
    q (.ref d) _ _ (Stp.new s hd) ⟨d, _, rfl, upd_same, (e3.app f3).mp fun _ _ r => Rep.mono (same_new (s.free hd)) r⟩⟩
def cutG (l : List α) (lo hi : Option Int) : List α := (l.drop (HT.sIx l.length 0 lo)).take (HT.sIx l.length l.length hi - HT.sIx l.length 0 lo)
theorem all_cut {R : V → α → Prop} {vs : List V} {l : List α} (r : All2 R vs l) (lo hi : Option Int) : All2 R (cutV vs lo hi) (cutG l lo hi) := by
  unfold cutV cutG
  rw [r.len]
  exact (r.drop _).take _
theorem eo_none : EO K tNoPart σ G none := fun G1 H1 _ b Q q => q G1 H1 (Stp.refl b)
theorem eo_some {i : Int} (h : Ev K te σ G i) : EO K (tPart te) σ G (some i) := fun G1 H1 a b Q q => h G1 H1 a b _ fun v G2 H2 s r => ⟨i, r, q G2 H2 s⟩
theorem ev_sl {tl th : TO} {l : List α} {lo hi : Option Int} (ha : Ev K ta σ G l) (h1 : EO K tl σ G lo) (h2 : EO K th σ G hi) : Ev K (tSl (rSlL K) ta tl th) σ G (cutG l lo hi) := fun G1 H1 a b Q q =>
  ha G1 H1 a b _ fun v G2 H2 s1 r => h1 G2 H2 (a.trans s1.gg) s1.gh _ fun G3 H3 s2 => h2 G3 H3 ((a.trans s1.gg).trans s2.gg) s2.gh _ fun G4 H4 s3 => by
    obtain ⟨p, vs, e1, e2, e3⟩ := Rep.mono (s2.gg.trans s3.gg) r
    exact ⟨p, vs, e1, SqL.of (s3.gh _ _ e2), fun d hd => q (.ref d) _ _ (((s1.trans s2).trans s3).trans (Stp.new s3.gh hd)) ⟨d, _, rfl, upd_same, (all_cut e3 lo hi).mp fun _ _ r => Rep.mono (same_new (s3.gh.free hd)) r⟩⟩
theorem ev_slS {tl th : TO} {z : Scr} {lo hi : Option Int} (ha : Ev K ta σ G z) (h1 : EO K tl σ G lo) (h2 : EO K th σ G hi) : Ev K (tSl (rSlL K) ta tl th) σ G (cutG z.ns lo hi) := fun G1 H1 a b Q q =>
  ha G1 H1 a b _ fun v G2 H2 s1 r => h1 G2 H2 (a.trans s1.gg) s1.gh _ fun G3 H3 s2 => h2 G3 H3 ((a.trans s1.gg).trans s2.gg) s2.gh _ fun G4 H4 s3 => by
    obtain ⟨p, e1, e2⟩ := Rep.mono (s2.gg.trans s3.gg) r
    have all : ∀ ns : List Int, All2 (rp K G4) (ns.map V.int) ns := fun ns => by
      induction ns with
      | nil => exact .nil
      | cons n ns ih => exact .cons rfl ih
    exact ⟨p, _, e1, same_sql s3.gh e2, fun d hd => q (.ref d) _ _ (((s1.trans s2).trans s3).trans (Stp.new s3.gh hd)) ⟨d, _, rfl, upd_same, (all_cut (all z.ns) lo hi).mp fun _ _ r => r⟩⟩
theorem ints_of {vs : List V} {ns : List Int} (r : All2 (rp K G) vs ns) : vs = ns.map V.int := by
  induction r with
  | nil => rfl
  | cons r t ih => rw [show _ = _ from r, ih]; rfl
theorem nats_of {vs : List V} {ns : List Nat} (r : All2 (rp K G) vs ns) : vs = (ns.map fun n : Nat => (n : Int)).map V.int := by
  induction r with
  | nil => rfl
  | cons r t ih => rw [show _ = _ from r, ih]; rfl
theorem of_ints : ∀ ns : List Int, All2 (rp K G) (ns.map V.int) ns
  | [] => .nil
  | n :: ns => .cons rfl (of_ints ns)
theorem rp_nat_int {ns : List Nat} (h : rp K G v ns) : rp K G v (ns.map fun n : Nat => (n : Int)) := by
  obtain ⟨a, xs, e1, e2, e3⟩ := h
  refine ⟨a, xs, e1, e2, ?_⟩
  rw [nats_of e3]
  exact of_ints _
theorem ev_nat_int {ns : List Nat} (h : Ev K te σ G ns) : Ev K te σ G (ns.map fun n : Nat => (n : Int)) := fun G1 H1 a b Q q => h G1 H1 a b Q fun v G2 H2 s r => q v G2 H2 s (rp_nat_int r)
theorem ev_sum {ns : List Int} (ha : Ev K ta σ G ns) : Ev K (tCB (rSum K) (tCons ta tNil)) σ G ns.sum := fun G1 H1 a b Q q => ha G1 H1 a b _ fun v G2 H2 s ⟨p, vs, e1, e2, e3⟩ =>
  ⟨p, ns, by rw [e1], SqL.of (by rw [← ints_of e3]; exact s.gh _ _ e2), q _ G2 H2 s rfl⟩
theorem ev_max {ns : List Int} {m : Int} (ha : Ev K ta σ G ns) (hm : m ∈ ns) (hle : ∀ y ∈ ns, y ≤ m) : Ev K (tCB (rMax K) (tCons ta tNil)) σ G m := fun G1 H1 a b Q q => ha G1 H1 a b _ fun v G2 H2 s ⟨p, vs, e1, e2, e3⟩ =>
  ⟨p, ns, by rw [e1], SqL.of (by rw [← ints_of e3]; exact s.gh _ _ e2), List.length_pos_of_mem hm, fun m' h1 h2 => q _ G2 H2 s (by
    have e : m' = m := Int.le_antisymm (hle _ h1) (h2 _ hm)
    rw [e]
    rfl)⟩
abbrev rAbs : List V → Hp → VK → Prop := fun xs H Q => ∃ i, xs = [.int i] ∧ Q (.int (if i < 0 then -i else i)) H
theorem ev_abs {i : Int} (ha : Ev K ta σ G i) : Ev K (tCB rAbs (tCons ta tNil)) σ G i.natAbs := fun G1 H1 a b Q q => ha G1 H1 a b _ fun v G2 H2 s r => ⟨i, by rw [show v = _ from r], q _ G2 H2 s (by
  show V.int _ = V.int _
  congr 1
  split <;> omega)⟩
abbrev rInt1 : List V → Hp → VK → Prop := fun xs H Q => (∃ i, xs = [.int i] ∧ Q (.int i) H) ∨ ∃ k, xs = [.bl k] ∧ Q (.int (if k then 1 else 0)) H
theorem ev_intB {k : Bool} (ha : Ev K ta σ G k) : Ev K (tCB rInt1 (tCons ta tNil)) σ G (if k then 1 else 0 : Int) := fun G1 H1 a b Q q => ha G1 H1 a b _ fun v G2 H2 s r => .inr ⟨k, by rw [show v = _ from r], q _ G2 H2 s rfl⟩
abbrev rListOf (K : PySem.W.Frag) : List V → Hp → VK → Prop := fun xs H Q => ∃ p ys, xs = [.ref p] ∧ (SqL K H p ys ∨ SqT K H p ys) ∧ ∀ l, H l = none → Q (.ref l) (upd H l (.lst ys))
theorem ev_list {l : List α} (ha : Ev K ta σ G l) : Ev K (tCB (rListOf K) (tCons ta tNil)) σ G l := fun G1 H1 a b Q q => ha G1 H1 a b _ fun v G2 H2 s ⟨p, vs, e1, e2, e3⟩ =>
  ⟨p, vs, by rw [e1], .inl (SqL.of (s.gh _ _ e2)), fun d hd => q (.ref d) _ _ (s.trans (Stp.new s.gh hd)) ⟨d, _, rfl, upd_same, e3.mp fun _ _ r => Rep.mono (same_new (s.gh.free hd)) r⟩⟩
end
end Mw
/-! Statements, loops, comprehensions, calls over the typed layer. -/
namespace Mw
open PySem PySem.Spec PyProof.Rows L2
section
variable {K : PySem.W.Frag} {σ : L2.St} {G G' H : Hp} {ta tb tc te : TE} {t u : TT} {α β γ δ ε ζ : Type} [Rep α] [Rep β] [Rep γ] [Rep δ] [Rep ε] [Rep ζ] {x : α} {y : β} {z : γ} {v : V} {D : Ends} {tu tw tz : TS} {g : TG}
/-! ### statements -/
theorem s_set {i : Nat} (gh : Same G H) (h : Ev K te σ G x) (k : ∀ v G2 H2, Stp K G H G2 H2 → rp K G2 v x → D.nx (σ.set i (some v)) H2) : tAsg te (gName i) D σ H :=
  h G H (Same.refl G) gh _ fun v G2 H2 s r => k v G2 H2 s r
theorem q_set {i : Nat} (gh : Same G H) (h : Ev K te σ G x) (k : ∀ v G2 H2, Stp K G H G2 H2 → rp K G2 v x → tz D (σ.set i (some v)) H2) : tSeq (tAsg te (gName i)) tz D σ H := s_set (D := { D with nx := tz D }) gh h k
theorem s_setE {i : Nat} {P : α → Prop} (gh : Same G H) (h : EvE K te σ G P) (k : ∀ v G2 H2 x, Stp K G H G2 H2 → rp K G2 v x → P x → D.nx (σ.set i (some v)) H2) : tAsg te (gName i) D σ H :=
  h G H (Same.refl G) gh _ fun v G2 H2 x s r p => k v G2 H2 x s r p
theorem q_setE {i : Nat} {P : α → Prop} (gh : Same G H) (h : EvE K te σ G P) (k : ∀ v G2 H2 x, Stp K G H G2 H2 → rp K G2 v x → P x → tz D (σ.set i (some v)) H2) : tSeq (tAsg te (gName i)) tz D σ H := s_setE (D := { D with nx := tz D }) gh h k
/-- a new list of one's own -/
theorem q_new {i : Nat} (k : ∀ p, H p = none → tz D (σ.set i (some (.ref p))) (upd H p (.lst []))) : tSeq (tAsg (tLst tNil) (gName i)) tz D σ H := ⟨Nat.zero_le _, fun p hp => k p hp⟩
theorem s_ret (gh : Same G H) (h : Ev K te σ G x) (k : ∀ v G2 H2, Stp K G H G2 H2 → rp K G2 v x → D.rt v H2) : tRet te D σ H := h G H (Same.refl G) gh _ k
theorem s_retE {P : α → Prop} (gh : Same G H) (h : EvE K te σ G P) (k : ∀ v G2 H2 x, Stp K G H G2 H2 → rp K G2 v x → P x → D.rt v H2) : tRet te D σ H := h G H (Same.refl G) gh _ k
theorem s_if {b : Bool} (gh : Same G H) (h : ET K t σ G b) (h1 : b = true → ∀ G2 H2, Stp K G H G2 H2 → tu D σ H2) (h2 : b = false → ∀ G2 H2, Stp K G H G2 H2 → tw D σ H2) : tIfS t tu tw D σ H := h G H (Same.refl G) gh _ fun G2 H2 s => by
  cases b with
  | true =>
    show tu D σ H2
    exact h1 rfl G2 H2 s
  | false =>
    show tw D σ H2
    exact h2 rfl G2 H2 s
theorem q_if {b : Bool} (gh : Same G H) (h : ET K t σ G b) (h1 : b = true → ∀ G2 H2, Stp K G H G2 H2 → tu { D with nx := tz D } σ H2) (h2 : b = false → ∀ G2 H2, Stp K G H G2 H2 → tw { D with nx := tz D } σ H2) : tSeq (tIfS t tu tw) tz D σ H := s_if (D := { D with nx := tz D }) gh h h1 h2
/-- an if without else -/
theorem q_when {b : Bool} (gh : Same G H) (h : ET K t σ G b) (h1 : b = true → ∀ G2 H2, Stp K G H G2 H2 → tu { D with nx := tz D } σ H2) (h2 : b = false → ∀ G2 H2, Stp K G H G2 H2 → tz D σ H2) : tSeq (tIfS t tu tNext) tz D σ H := q_if gh h h1 h2
theorem s_when {b : Bool} (gh : Same G H) (h : ET K t σ G b) (h1 : b = true → ∀ G2 H2, Stp K G H G2 H2 → tu D σ H2) (h2 : b = false → ∀ G2 H2, Stp K G H G2 H2 → D.nx σ H2) : tIfS t tu tNext D σ H := s_if gh h h1 h2
theorem s_aug {i : Nat} {a b : Int} (hx : σ[i]? = some (some (.int a))) (gh : Same G H) (h : Ev K te σ G b) (k : ∀ G2 H2, Stp K G H G2 H2 → D.nx (σ.set i (some (.int (a + b)))) H2) : tAug i te (ipI fun i j => i + j) D σ H :=
  ⟨.int a, hx, h G H (Same.refl G) gh _ fun v G2 H2 s r => ⟨a, b, rfl, r, k G2 H2 s⟩⟩
theorem q_aug {i : Nat} {a b : Int} (hx : σ[i]? = some (some (.int a))) (gh : Same G H) (h : Ev K te σ G b) (k : ∀ G2 H2, Stp K G H G2 H2 → tz D (σ.set i (some (.int (a + b)))) H2) : tSeq (tAug i te (ipI fun i j => i + j)) tz D σ H := s_aug (D := { D with nx := tz D }) hx gh h k
theorem s_drop (gh : Same G H) (h : Ev K te σ G x) (k : ∀ G2 H2, Stp K G H G2 H2 → D.nx σ H2) : tDrop te D σ H := h G H (Same.refl G) gh _ fun _ G2 H2 s _ => k G2 H2 s
/-- xs.append(e), xs of one's own at l -/
theorem s_app {i : Nat} {l : Addr} {xs : List V} (hi : σ[i]? = some (some (.ref l))) (gl : G l = none) (hl : H l = some (.lst xs)) (hz : xs.length < 100000) (gh : Same G H) (h : Ev K te σ G x)
    (k : ∀ v G2 H2, Stp K G H G2 H2 → rp K G2 v x → H2 l = some (.lst xs) → G2 l = none → D.nx σ (upd H2 l (.lst (xs ++ [v])))) : tDrop (tBM K "list" rAppend (tVar i) (tCons te tNil)) D σ H :=
  ⟨.ref l, hi, .inl ⟨rfl, xs, SqL.of hl⟩, h G H (Same.refl G) gh _ fun v G2 H2 s r => by
    obtain ⟨e1, e2⟩ := s.ownL gl hl
    exact ⟨l, xs, v, rfl, rfl, e2, sz_lt hz, k v G2 H2 s r e2 e1⟩⟩
theorem q_app {i : Nat} {l : Addr} {xs : List V} (hi : σ[i]? = some (some (.ref l))) (gl : G l = none) (hl : H l = some (.lst xs)) (hz : xs.length < 100000) (gh : Same G H) (h : Ev K te σ G x)
    (k : ∀ v G2 H2, Stp K G H G2 H2 → rp K G2 v x → H2 l = some (.lst xs) → G2 l = none → tz D σ (upd H2 l (.lst (xs ++ [v])))) : tSeq (tDrop (tBM K "list" rAppend (tVar i) (tCons te tNil))) tz D σ H := s_app (D := { D with nx := tz D }) hi gl hl hz gh h k
/-- xs.extend(e) -/
theorem s_ext {i : Nat} {l : Addr} {xs : List V} {m : List α} (hi : σ[i]? = some (some (.ref l))) (gl : G l = none) (hl : H l = some (.lst xs)) (hz : xs.length + m.length ≤ 100000) (gh : Same G H) (h : Ev K te σ G m)
    (k : ∀ ws G2 H2, Stp K G H G2 H2 → All2 (rp K G2) ws m → H2 l = some (.lst xs) → G2 l = none → D.nx σ (upd H2 l (.lst (xs ++ ws)))) : tDrop (tBM K "list" rExtend (tVar i) (tCons te tNil)) D σ H :=
  ⟨.ref l, hi, .inl ⟨rfl, xs, SqL.of hl⟩, h G H (Same.refl G) gh _ fun v G2 H2 s ⟨b, ws, e0, e1, e2⟩ => by
    obtain ⟨f1, f2⟩ := s.ownL gl hl
    exact ⟨l, b, xs, ws, rfl, by rw [e0], f2, s.gh _ _ e1, sz_of (by rw [e2.len]; exact hz), k ws G2 H2 s e2 f2 f1⟩⟩
/-- xs[i] = e, xs of one's own at l -/
theorem s_put {i j : Nat} {l : Addr} {xs : List V} {n : Int} (hi : σ[i]? = some (some (.ref l))) (gl : G l = none) (hl : H l = some (.lst xs)) (gh : Same G H) (h : Ev K te σ G x) (hn : Ev K tb σ G n) (en : n = (j : Int)) (hj : j < xs.length)
    (k : ∀ v G2 H2, Stp K G H G2 H2 → rp K G2 v x → H2 l = some (.lst xs) → G2 l = none → D.nx σ (upd H2 l (.lst (xs.set j v)))) : tAsg te (gSub (tVar i) tb rSetL) D σ H :=
  h G H (Same.refl G) gh _ fun v G2 H2 s r => ⟨.ref l, hi, hn G2 H2 s.gg s.gh _ fun w G3 H3 s' r' => by
    obtain ⟨f1, f2⟩ := (s.trans s').ownL gl hl
    refine ⟨l, xs, n, j, rfl, r', f2, ?_, k v G3 H3 (s.trans s') (Rep.mono s'.gg r) f2 f1⟩
    rw [en]
    unfold ixN
    rw [if_pos (by omega), if_pos (by omega)] <;> rfl⟩
theorem q_put {i j : Nat} {l : Addr} {xs : List V} {n : Int} (hi : σ[i]? = some (some (.ref l))) (gl : G l = none) (hl : H l = some (.lst xs)) (gh : Same G H) (h : Ev K te σ G x) (hn : Ev K tb σ G n) (en : n = (j : Int)) (hj : j < xs.length)
    (k : ∀ v G2 H2, Stp K G H G2 H2 → rp K G2 v x → H2 l = some (.lst xs) → G2 l = none → tz D σ (upd H2 l (.lst (xs.set j v)))) : tSeq (tAsg te (gSub (tVar i) tb rSetL)) tz D σ H := s_put (D := { D with nx := tz D }) hi gl hl gh h hn en hj k
/-! ### targets -/
theorem g_pair {i j : Nat} {p : α × β} {Q : L2.St → Hp → Prop} (r : rp K G v p) (gh : Same G H) (k : ∀ v1 v2, rp K G v1 p.1 → rp K G v2 p.2 → Q ((σ.set i (some v1)).set j (some v2)) H) : gTup K 2 (gCons (gName i) (gCons (gName j) gNil)) v σ H Q := by
  obtain ⟨a, v1, v2, e1, e2, e3, e4⟩ := r
  exact ⟨a, [v1, v2], e1, SqT.of (gh _ _ e2), rfl, v1, [v2], rfl, v2, [], rfl, rfl, k v1 v2 e3 e4⟩
theorem g_three {i j l : Nat} {p : T3 α β γ} {Q : L2.St → Hp → Prop} (r : rp K G v p) (gh : Same G H) (k : ∀ v1 v2 v3, rp K G v1 p.a → rp K G v2 p.b → rp K G v3 p.c → Q (((σ.set i (some v1)).set j (some v2)).set l (some v3)) H) :
    gTup K 3 (gCons (gName i) (gCons (gName j) (gCons (gName l) gNil))) v σ H Q := by
  obtain ⟨a, v1, v2, v3, e1, e2, e3, e4, e5⟩ := r
  exact ⟨a, [v1, v2, v3], e1, SqT.of (gh _ _ e2), rfl, v1, [v2, v3], rfl, v2, [v3], rfl, v3, [], rfl, rfl, k v1 v2 v3 e3 e4 e5⟩
/-! ### for over a list -/
theorem s_for {tl : TE} {l : List α} (gh : Same G H) (h : Ev K tl σ G l)
    (k : ∀ G1 H1, Stp K G H G1 H1 → (∃ vl, rp K G1 vl l) → ∃ Pv : Nat → L2.St → Hp → Prop, Pv 0 σ H1 ∧ (∀ i σ' H', Pv i σ' H' → Same G1 H') ∧
      (∀ i x v σ' H', l[i]? = some x → rp K G1 v x → Pv i σ' H' → g v σ' H' fun σ2 H2 => tu { D with nx := Pv (i + 1), ct := Pv (i + 1), bk := D.nx } σ2 H2) ∧ (∀ σ' H', Pv l.length σ' H' → D.nx σ' H')) : tFor (iList K tl) g tu D σ H := by
  refine h G H (Same.refl G) gh _ fun vl G1 H1 s r => ?_
  obtain ⟨Pv, h0, hs, ht, hd⟩ := k G1 H1 s ⟨vl, r⟩
  obtain ⟨a, vs, e1, e2, e3⟩ := r
  refine ⟨a, e1, ⟨vs, SqL.of (s.gh _ _ e2)⟩, for_list (xs := vs) Pv h0 (fun i σ' H' _ p => SqL.of (hs i σ' H' p _ _ e2)) (fun i v σ' H' hi p => ?_) (fun σ' H' p => hd σ' H' (by rw [← e3.len]; exact p))⟩
  obtain ⟨x, hx, rx⟩ := e3.getV hi
  exact ht i x v σ' H' hx rx p
theorem q_for {tl : TE} {l : List α} (gh : Same G H) (h : Ev K tl σ G l)
    (k : ∀ G1 H1, Stp K G H G1 H1 → (∃ vl, rp K G1 vl l) → ∃ Pv : Nat → L2.St → Hp → Prop, Pv 0 σ H1 ∧ (∀ i σ' H', Pv i σ' H' → Same G1 H') ∧
      (∀ i x v σ' H', l[i]? = some x → rp K G1 v x → Pv i σ' H' → g v σ' H' fun σ2 H2 => tu { D with nx := Pv (i + 1), ct := Pv (i + 1), bk := tz D } σ2 H2) ∧ (∀ σ' H', Pv l.length σ' H' → tz D σ' H')) : tSeq (tFor (iList K tl) g tu) tz D σ H := s_for (D := { D with nx := tz D }) gh h k
/-- for over range(n) -/
theorem s_forR {j : Nat} {n : Nat} {i0 : Int} (gh : Same G H) (h : Ev K te σ G i0) (en : i0 = (n : Int)) (hn : n ≤ 100000)
    (k : ∀ G1 H1, Stp K G H G1 H1 → ∃ Pv : Nat → L2.St → Hp → Prop, Pv 0 σ H1 ∧
      (∀ (i : Nat) σ' H', i < n → Pv i σ' H' → tu { D with nx := Pv (i + 1), ct := Pv (i + 1), bk := D.nx } (σ'.set j (some (.int (i : Int)))) H') ∧ (∀ σ' H', Pv n σ' H' → D.nx σ' H')) : tFor (iRng1 (tCons te tNil)) (gName j) tu D σ H := by
  refine h G H (Same.refl G) gh _ fun v G1 H1 s r => ?_
  obtain ⟨Pv, h0, ht, hd⟩ := k G1 H1 s
  refine ⟨i0, by rw [show v = _ from r], by omega, by omega, ?_⟩
  have e : i0.toNat = n := by omega
  rw [e]
  refine for_range (lo := 0) (n := n) Pv h0 (fun i σ' H' hi p => ?_) hd
  have e0 : (0 : Int) + (i : Int) = (i : Int) := Int.zero_add _
  show tu { D with nx := Pv (i + 1), ct := Pv (i + 1), bk := D.nx } (σ'.set j (some (.int ((0 : Int) + (i : Int))))) H'
  rw [e0]
  exact ht i σ' H' hi p
theorem q_forR {j : Nat} {n : Nat} {i0 : Int} (gh : Same G H) (h : Ev K te σ G i0) (en : i0 = (n : Int)) (hn : n ≤ 100000)
    (k : ∀ G1 H1, Stp K G H G1 H1 → ∃ Pv : Nat → L2.St → Hp → Prop, Pv 0 σ H1 ∧
      (∀ (i : Nat) σ' H', i < n → Pv i σ' H' → tu { D with nx := Pv (i + 1), ct := Pv (i + 1), bk := tz D } (σ'.set j (some (.int (i : Int)))) H') ∧ (∀ σ' H', Pv n σ' H' → tz D σ' H')) : tSeq (tFor (iRng1 (tCons te tNil)) (gName j) tu) tz D σ H := s_forR (D := { D with nx := tz D }) gh h en hn k
/-- for over range(a, b) -/
theorem s_forR2 {j : Nat} {a n : Nat} {i0 i1 : Int} (gh : Same G H) (h : Ev K te σ G i0) (h' : Ev K tb σ G i1) (ea : i0 = (a : Int)) (en : i1 - i0 = (n : Int)) (ha : a ≤ 100000) (hn : n ≤ 100000)
    (k : ∀ G1 H1, Stp K G H G1 H1 → ∃ Pv : Nat → L2.St → Hp → Prop, Pv 0 σ H1 ∧
      (∀ (i : Nat) σ' H', i < n → Pv i σ' H' → tu { D with nx := Pv (i + 1), ct := Pv (i + 1), bk := D.nx } (σ'.set j (some (.int ((a + i : Nat) : Int)))) H') ∧ (∀ σ' H', Pv n σ' H' → D.nx σ' H')) : tFor (iRng2 (tCons te (tCons tb tNil))) (gName j) tu D σ H := by
  refine h G H (Same.refl G) gh _ fun v G1 H1 s r => h' G1 H1 s.gg s.gh _ fun v' G2 H2 s' r' => ?_
  obtain ⟨Pv, h0, ht, hd⟩ := k G2 H2 (s.trans s')
  refine ⟨i0, i1, by rw [show v = _ from r, show v' = _ from r'], ⟨by omega, by omega, by omega, by omega⟩, ?_⟩
  have e : (i1 - i0).toNat = n := by omega
  rw [e]
  refine for_range (lo := i0) (n := n) Pv h0 (fun i σ' H' hi p => ?_) hd
  have e0 : i0 + (i : Int) = ((a + i : Nat) : Int) := by omega
  show tu { D with nx := Pv (i + 1), ct := Pv (i + 1), bk := D.nx } (σ'.set j (some (.int (i0 + (i : Int))))) H'
  rw [e0]
  exact ht i σ' H' hi p
theorem q_forR2 {j : Nat} {a n : Nat} {i0 i1 : Int} (gh : Same G H) (h : Ev K te σ G i0) (h' : Ev K tb σ G i1) (ea : i0 = (a : Int)) (en : i1 - i0 = (n : Int)) (ha : a ≤ 100000) (hn : n ≤ 100000)
    (k : ∀ G1 H1, Stp K G H G1 H1 → ∃ Pv : Nat → L2.St → Hp → Prop, Pv 0 σ H1 ∧
      (∀ (i : Nat) σ' H', i < n → Pv i σ' H' → tu { D with nx := Pv (i + 1), ct := Pv (i + 1), bk := tz D } (σ'.set j (some (.int ((a + i : Nat) : Int)))) H') ∧ (∀ σ' H', Pv n σ' H' → tz D σ' H')) : tSeq (tFor (iRng2 (tCons te (tCons tb tNil))) (gName j) tu) tz D σ H := s_forR2 (D := { D with nx := tz D }) gh h h' ea en ha hn k
/-! ### comprehensions -/
/-- the list made so far: its items frozen in some G' -/
def Cw (K : PySem.W.Frag) (G H : Hp) (L : Addr) (l : List α) (H' : Hp) : Prop := ∃ G' vs, Stp K G H G' H' ∧ G' L = none ∧ H' L = some (.lst vs) ∧ All2 (rp K G') vs l
theorem Cw.nil {L : Addr} (gh : Same G H) (h : H L = none) : Cw K G H L ([] : List α) (upd H L (.lst [])) := ⟨G, [], Stp.raw gh h, gh.free h, upd_same, .nil⟩
theorem Cw.turn {L : Addr} {l : List α} {H' : Hp} {σ2 : L2.St} {b : Bool} {Nx : Hp → Prop} (w : Cw K G H L l H') (hn : H L = none) (hz : l.length < 50000) (ht : ET K t σ2 G b) (he : b = true → Ev K te σ2 G x)
    (hN : ∀ H2, Cw K G H L (if b = true then l ++ [x] else l) H2 → Nx H2) : t σ2 H' fun b H3 => if b = true then te σ2 H3 fun y H4 => ∃ acc, H4 L = some (.lst acc) ∧ acc.length < sizeLine ∧ Nx (upd H4 L (.lst (acc ++ [y]))) else Nx H3 := by
  obtain ⟨G', vs, s, g0, h0, r⟩ := w
  refine ht G' H' s.gg s.gh _ fun G2 H2 s2 => ?_
  cases hb : b with
  | true =>
    show te σ2 H2 fun y H4 => ∃ acc, H4 L = some (.lst acc) ∧ acc.length < sizeLine ∧ Nx (upd H4 L (.lst (acc ++ [y])))
    refine he hb G2 H2 (s.gg.trans s2.gg) s2.gh _ fun v G3 H3 s3 rv => ?_
    obtain ⟨g3, h3⟩ := (s2.trans s3).ownL g0 h0
    refine ⟨vs, h3, sz_lt (by rw [r.len]; omega), hN _ ?_⟩
    rw [if_pos hb]
    exact ⟨G3, _, ((s.trans s2).trans s3).putL hn g3 h3, g3, upd_same, (r.mp fun _ _ q => Rep.mono (s2.gg.trans s3.gg) q).app (.one rv)⟩
  | false =>
    show Nx H2
    obtain ⟨g2, h2⟩ := s2.ownL g0 h0
    refine hN _ ?_
    rw [if_neg (by rw [hb]; decide)]
    exact ⟨G2, vs, s.trans s2, g2, h2, r.mp fun _ _ q => Rep.mono s2.gg q⟩
/-- to a new list of one's own, its items frozen -/
def EvW (K : PySem.W.Frag) (te : TE) (σ : L2.St) (G : Hp) (l : List α) : Prop :=
  ∀ G1 H1, Same G G1 → Same G1 H1 → ∀ Q : VK, (∀ L vs G2 H2, Stp K G1 H1 G2 H2 → H1 L = none → G2 L = none → H2 L = some (.lst vs) → All2 (rp K G2) vs l → Q (.ref L) H2) → te σ H1 Q
theorem EvW.frz {l : List α} (h : EvW K te σ G l) : Ev K te σ G l := fun G1 H1 a b Q q => h G1 H1 a b Q fun L vs G2 H2 s n g h r =>
  q (.ref L) _ H2 (s.frz n g h) ⟨L, vs, rfl, upd_same, r.mp fun _ _ r => Rep.mono (same_new g) r⟩
theorem EvW.mono {l : List α} (s : Same G G') (h : EvW K te σ G l) : EvW K te σ G' l := fun G1 H1 a b Q q => h G1 H1 (s.trans a) b Q q
theorem ew_as {l m : List α} (h : EvW K te σ G l) (e : l = m) : EvW K te σ G m := e ▸ h
theorem ew_lst {ta : TA} {l : List α} (h : EL K ta σ G l) (hl : l.length ≤ 100000) : EvW K (tLst ta) σ G l := fun G1 H1 a b Q q => h G1 H1 a b _ fun vs G2 H2 s r =>
  ⟨sz_of (by rw [r.len]; exact hl), fun p hp => q p vs G2 _ (s.trans (Stp.raw s.gh hp)) (s.free hp) (s.gh.free hp) upd_same r⟩
theorem ew_list {l : List α} (ha : Ev K ta σ G l) : EvW K (tCB (rListOf K) (tCons ta tNil)) σ G l := fun G1 H1 a b Q q => ha G1 H1 a b _ fun v G2 H2 s ⟨p, vs, e1, e2, e3⟩ =>
  ⟨p, vs, by rw [e1], .inl (SqL.of (s.gh _ _ e2)), fun d hd => q d vs G2 _ (s.trans (Stp.raw s.gh hd)) (s.free hd) (s.gh.free hd) upd_same e3⟩
theorem ew_cat {l m : List α} (ha : Ev K ta σ G l) (hb : Ev K tb σ G m) (hl : l.length + m.length ≤ 100000) : EvW K (tOp rCat ta tb) σ G (l ++ m) := fun G1 H1 a b Q q =>
  ha G1 H1 a b _ fun v G2 H2 s1 r1 => hb G2 H2 (a.trans s1.gg) s1.gh _ fun w G3 H3 s2 ⟨p', ws, f1, f2, f3⟩ => by
    obtain ⟨p, vs, e1, e2, e3⟩ := Rep.mono s2.gg r1
    exact ⟨p, p', vs, ws, e1, f1, s2.gh _ _ e2, s2.gh _ _ f2, sz_of (by rw [e3.len, f3.len]; exact hl), fun d hd => q d _ G3 _ ((s1.trans s2).trans (Stp.raw s2.gh hd)) ((s1.trans s2).free hd) (s2.gh.free hd) upd_same (e3.app f3)⟩
theorem Cw.out {L : Addr} {l : List α} {H' : Hp} {Q : VK} (w : Cw K G H L l H') (hn : H L = none) (q : ∀ L vs G2 H2, Stp K G H G2 H2 → H L = none → G2 L = none → H2 L = some (.lst vs) → All2 (rp K G2) vs l → Q (.ref L) H2) : Q (.ref L) H' := by
  obtain ⟨G', vs, s, g0, h0, r⟩ := w
  exact q L vs G' H' s hn g0 h0 r
theorem Cw.fin {L : Addr} {l : List α} {H' : Hp} {Q : VK} (w : Cw K G H L l H') (hn : H L = none) (q : ∀ v G2 H2, Stp K G H G2 H2 → rp K G2 v l → Q v H2) : Q (.ref L) H' := by
  obtain ⟨G', vs, s, g0, h0, r⟩ := w
  exact q (.ref L) _ H' (s.frz hn g0 h0) ⟨L, vs, rfl, upd_same, r.mp fun _ _ r => Rep.mono (same_new g0) r⟩
/-- what a filter and a map make of the first i -/
def fm (l : List α) (p : α → Bool) (f : α → β) : List β := (l.filter p).map f
theorem fm_snoc (l : List α) (x : α) (p : α → Bool) (f : α → β) : fm (l ++ [x]) p f = if p x = true then fm l p f ++ [f x] else fm l p f := by
  unfold fm
  rw [List.filter_append, List.map_append]
  by_cases h : p x = true
  · rw [if_pos h, List.filter_cons, if_pos h] <;> rfl
  · rw [if_neg h, List.filter_cons, if_neg h]
    show _ ++ [] = _
    rw [List.append_nil]
theorem fm_len (l : List α) (p : α → Bool) (f : α → β) : (fm l p f).length ≤ l.length := by
  unfold fm
  rw [List.length_map]
  exact List.length_filter_le _ _
theorem take_snoc {l : List α} {i : Nat} {x : α} (h : l[i]? = some x) : l.take (i + 1) = l.take i ++ [x] := by
  rw [List.take_add_one, h] <;> rfl
/-- [e for NAME in list if t] -/
theorem ew_lcL {tl : TE} {j : Nat} {vs : List Nat} {l : List α} (p : α → Bool) (f : α → β) (h : Ev K tl σ G l) (hz : l.length < 50000) (hw : ∀ x, wipe ((wipe σ vs).set j (some x)) vs = wipe σ vs)
    (ht : ∀ (i : Nat) (x : α) v G1, Same G G1 → l[i]? = some x → rp K G1 v x → ET K t ((wipe σ vs).set j (some v)) G1 (p x)) (he : ∀ (i : Nat) (x : α) v G1, Same G G1 → l[i]? = some x → rp K G1 v x → p x = true → Ev K te ((wipe σ vs).set j (some v)) G1 (f x)) :
    EvW K (tLc (iList K tl) (gName j) t te vs) σ G (fm l p f) := fun G0 H0 a b Q q => by
  refine h G0 H0 a b _ fun vl G1 H1 s r => ?_
  obtain ⟨A, ws, e1, e2, e3⟩ := r
  refine ⟨A, e1, ⟨ws, SqL.of (s.gh _ _ e2)⟩, fun L hL => ?_⟩
  refine lc_list (xs := ws) (fun i H' => Cw K G1 H1 L (fm (l.take i) p f) H') (Cw.nil s.gh hL) (fun i H' _ w => ?_) (fun i v H' hi w => ⟨hw v, ?_⟩) (fun H' w => ?_)
  · obtain ⟨G', vs, s', _, _, _⟩ := w
    exact SqL.of (s'.gh _ _ (s'.gg _ _ e2))
  · obtain ⟨x, hx, rx⟩ := e3.getV hi
    have hlen : (fm (l.take i) p f).length < 50000 := Nat.lt_of_le_of_lt (fm_len _ _ _) (Nat.lt_of_le_of_lt (List.length_take_le _ _) (by
      have := (List.getElem?_eq_some_iff.mp hx).1
      omega))
    refine Cw.turn w hL hlen (ht i x v G1 (a.trans s.gg) hx rx) (fun hb => he i x v G1 (a.trans s.gg) hx rx hb) fun H2 w2 => ?_
    show Cw K G1 H1 L (fm (l.take (i + 1)) p f) H2
    rw [take_snoc hx, fm_snoc]
    exact w2
  · rw [e3.len, List.take_length] at w
    exact w.out hL fun L vs G2 H2 s2 n2 g2 h2 r2 => q L vs G2 H2 (s.trans s2) (s.free n2) g2 h2 r2
theorem ev_lcL {tl : TE} {j : Nat} {vs : List Nat} {l : List α} (p : α → Bool) (f : α → β) (h : Ev K tl σ G l) (hz : l.length < 50000) (hw : ∀ x, wipe ((wipe σ vs).set j (some x)) vs = wipe σ vs)
    (ht : ∀ (i : Nat) (x : α) v G1, Same G G1 → l[i]? = some x → rp K G1 v x → ET K t ((wipe σ vs).set j (some v)) G1 (p x)) (he : ∀ (i : Nat) (x : α) v G1, Same G G1 → l[i]? = some x → rp K G1 v x → p x = true → Ev K te ((wipe σ vs).set j (some v)) G1 (f x)) :
    Ev K (tLc (iList K tl) (gName j) t te vs) σ G (fm l p f) := (ew_lcL p f h hz hw ht he).frz
/-- [e for a, b in list if t] -/
theorem ew_lcP {tl : TE} {j1 j2 : Nat} {vs : List Nat} {l : List (α × γ)} (p : α × γ → Bool) (f : α × γ → β) (h : Ev K tl σ G l) (hz : l.length < 50000) (hw : ∀ x y, wipe (((wipe σ vs).set j1 (some x)).set j2 (some y)) vs = wipe σ vs)
    (ht : ∀ (i : Nat) (x : α × γ) v w G1, Same G G1 → l[i]? = some x → rp K G1 v x.1 → rp K G1 w x.2 → ET K t (((wipe σ vs).set j1 (some v)).set j2 (some w)) G1 (p x))
    (he : ∀ (i : Nat) (x : α × γ) v w G1, Same G G1 → l[i]? = some x → rp K G1 v x.1 → rp K G1 w x.2 → p x = true → Ev K te (((wipe σ vs).set j1 (some v)).set j2 (some w)) G1 (f x)) :
    EvW K (tLc (iList K tl) (gTup K 2 (gCons (gName j1) (gCons (gName j2) gNil))) t te vs) σ G (fm l p f) := fun G0 H0 a b Q q => by
  refine h G0 H0 a b _ fun vl G1 H1 s r => ?_
  obtain ⟨A, ws, e1, e2, e3⟩ := r
  refine ⟨A, e1, ⟨ws, SqL.of (s.gh _ _ e2)⟩, fun L hL => ?_⟩
  refine lc_list (xs := ws) (fun i H' => Cw K G1 H1 L (fm (l.take i) p f) H') (Cw.nil s.gh hL) (fun i H' _ w => ?_) (fun i v H' hi w => ?_) (fun H' w => ?_)
  · obtain ⟨G', vs, s', _, _, _⟩ := w
    exact SqL.of (s'.gh _ _ (s'.gg _ _ e2))
  · obtain ⟨x, hx, rx⟩ := e3.getV hi
    have hlen : (fm (l.take i) p f).length < 50000 := Nat.lt_of_le_of_lt (fm_len _ _ _) (Nat.lt_of_le_of_lt (List.length_take_le _ _) (by
      have := (List.getElem?_eq_some_iff.mp hx).1
      omega))
    obtain ⟨G', vs', s', u1, u2, u3⟩ := id w
    refine g_pair rx (s'.gg.trans s'.gh) fun v1 v2 r1 r2 => ⟨hw v1 v2, ?_⟩
    refine Cw.turn w hL hlen (ht i x v1 v2 G1 (a.trans s.gg) hx r1 r2) (fun hb => he i x v1 v2 G1 (a.trans s.gg) hx r1 r2 hb) fun H2 w2 => ?_
    show Cw K G1 H1 L (fm (l.take (i + 1)) p f) H2
    rw [take_snoc hx, fm_snoc]
    exact w2
  · rw [e3.len, List.take_length] at w
    exact w.out hL fun L vs G2 H2 s2 n2 g2 h2 r2 => q L vs G2 H2 (s.trans s2) (s.free n2) g2 h2 r2
theorem ev_lcP {tl : TE} {j1 j2 : Nat} {vs : List Nat} {l : List (α × γ)} (p : α × γ → Bool) (f : α × γ → β) (h : Ev K tl σ G l) (hz : l.length < 50000) (hw : ∀ x y, wipe (((wipe σ vs).set j1 (some x)).set j2 (some y)) vs = wipe σ vs)
    (ht : ∀ (i : Nat) (x : α × γ) v w G1, Same G G1 → l[i]? = some x → rp K G1 v x.1 → rp K G1 w x.2 → ET K t (((wipe σ vs).set j1 (some v)).set j2 (some w)) G1 (p x))
    (he : ∀ (i : Nat) (x : α × γ) v w G1, Same G G1 → l[i]? = some x → rp K G1 v x.1 → rp K G1 w x.2 → p x = true → Ev K te (((wipe σ vs).set j1 (some v)).set j2 (some w)) G1 (f x)) :
    Ev K (tLc (iList K tl) (gTup K 2 (gCons (gName j1) (gCons (gName j2) gNil))) t te vs) σ G (fm l p f) := (ew_lcP p f h hz hw ht he).frz
/-- [e for a, b, c in list if t] -/
theorem ew_lcT {tl : TE} {j1 j2 j3 : Nat} {vs : List Nat} {l : List (T3 α γ δ)} (p : T3 α γ δ → Bool) (f : T3 α γ δ → β) (h : Ev K tl σ G l) (hz : l.length < 50000) (hw : ∀ x y z, wipe ((((wipe σ vs).set j1 (some x)).set j2 (some y)).set j3 (some z)) vs = wipe σ vs)
    (ht : ∀ (i : Nat) (x : T3 α γ δ) v w u G1, Same G G1 → l[i]? = some x → rp K G1 v x.a → rp K G1 w x.b → rp K G1 u x.c → ET K t ((((wipe σ vs).set j1 (some v)).set j2 (some w)).set j3 (some u)) G1 (p x))
    (he : ∀ (i : Nat) (x : T3 α γ δ) v w u G1, Same G G1 → l[i]? = some x → rp K G1 v x.a → rp K G1 w x.b → rp K G1 u x.c → p x = true → Ev K te ((((wipe σ vs).set j1 (some v)).set j2 (some w)).set j3 (some u)) G1 (f x)) :
    EvW K (tLc (iList K tl) (gTup K 3 (gCons (gName j1) (gCons (gName j2) (gCons (gName j3) gNil)))) t te vs) σ G (fm l p f) := fun G0 H0 a b Q q => by
  refine h G0 H0 a b _ fun vl G1 H1 s r => ?_
  obtain ⟨A, ws, e1, e2, e3⟩ := r
  refine ⟨A, e1, ⟨ws, SqL.of (s.gh _ _ e2)⟩, fun L hL => ?_⟩
  refine lc_list (xs := ws) (fun i H' => Cw K G1 H1 L (fm (l.take i) p f) H') (Cw.nil s.gh hL) (fun i H' _ w => ?_) (fun i v H' hi w => ?_) (fun H' w => ?_)
  · obtain ⟨G', vs, s', _, _, _⟩ := w
    exact SqL.of (s'.gh _ _ (s'.gg _ _ e2))
  · obtain ⟨x, hx, rx⟩ := e3.getV hi
    have hlen : (fm (l.take i) p f).length < 50000 := Nat.lt_of_le_of_lt (fm_len _ _ _) (Nat.lt_of_le_of_lt (List.length_take_le _ _) (by
      have := (List.getElem?_eq_some_iff.mp hx).1
      omega))
    obtain ⟨G', vs', s', u1, u2, u3⟩ := id w
    refine g_three rx (s'.gg.trans s'.gh) fun v1 v2 v3 r1 r2 r3 => ⟨hw v1 v2 v3, ?_⟩
    refine Cw.turn w hL hlen (ht i x v1 v2 v3 G1 (a.trans s.gg) hx r1 r2 r3) (fun hb => he i x v1 v2 v3 G1 (a.trans s.gg) hx r1 r2 r3 hb) fun H2 w2 => ?_
    show Cw K G1 H1 L (fm (l.take (i + 1)) p f) H2
    rw [take_snoc hx, fm_snoc]
    exact w2
  · rw [e3.len, List.take_length] at w
    exact w.out hL fun L vs G2 H2 s2 n2 g2 h2 r2 => q L vs G2 H2 (s.trans s2) (s.free n2) g2 h2 r2
theorem ev_lcT {tl : TE} {j1 j2 j3 : Nat} {vs : List Nat} {l : List (T3 α γ δ)} (p : T3 α γ δ → Bool) (f : T3 α γ δ → β) (h : Ev K tl σ G l) (hz : l.length < 50000) (hw : ∀ x y z, wipe ((((wipe σ vs).set j1 (some x)).set j2 (some y)).set j3 (some z)) vs = wipe σ vs)
    (ht : ∀ (i : Nat) (x : T3 α γ δ) v w u G1, Same G G1 → l[i]? = some x → rp K G1 v x.a → rp K G1 w x.b → rp K G1 u x.c → ET K t ((((wipe σ vs).set j1 (some v)).set j2 (some w)).set j3 (some u)) G1 (p x))
    (he : ∀ (i : Nat) (x : T3 α γ δ) v w u G1, Same G G1 → l[i]? = some x → rp K G1 v x.a → rp K G1 w x.b → rp K G1 u x.c → p x = true → Ev K te ((((wipe σ vs).set j1 (some v)).set j2 (some w)).set j3 (some u)) G1 (f x)) :
    Ev K (tLc (iList K tl) (gTup K 3 (gCons (gName j1) (gCons (gName j2) (gCons (gName j3) gNil)))) t te vs) σ G (fm l p f) := (ew_lcT p f h hz hw ht he).frz
/-- [e for NAME in range(n) if t] -/
theorem ew_lcR {tn : TE} {j : Nat} {vs : List Nat} {n : Nat} {i0 : Int} (p : Nat → Bool) (f : Nat → β) (h : Ev K tn σ G i0) (en : i0 = (n : Int)) (hz : n < 50000) (hw : ∀ x, wipe ((wipe σ vs).set j (some x)) vs = wipe σ vs)
    (ht : ∀ (i : Nat) G1, Same G G1 → i < n → ET K t ((wipe σ vs).set j (some (.int (i : Int)))) G1 (p i)) (he : ∀ (i : Nat) G1, Same G G1 → i < n → p i = true → Ev K te ((wipe σ vs).set j (some (.int (i : Int)))) G1 (f i)) :
    EvW K (tLc (iRng1 (tCons tn tNil)) (gName j) t te vs) σ G (fm (List.range n) p f) := fun G0 H0 a b Q q => by
  refine h G0 H0 a b _ fun vl G1 H1 s r => ?_
  refine ⟨i0, by rw [show vl = _ from r], by omega, by omega, fun L hL => ?_⟩
  have e : i0.toNat = n := by omega
  rw [e]
  refine lc_range (lo := 0) (n := n) (fun i H' => Cw K G1 H1 L (fm (List.range i) p f) H') (Cw.nil s.gh hL) (fun i H' hi w => ?_) (fun H' w => ?_)
  · have e0 : (0 : Int) + (i : Int) = (i : Int) := Int.zero_add _
    rw [e0]
    refine ⟨hw _, ?_⟩
    have hlen : (fm (List.range i) p f).length < 50000 := Nat.lt_of_le_of_lt (fm_len _ _ _) (by rw [List.length_range]; omega)
    refine Cw.turn w hL hlen (ht i G1 (a.trans s.gg) hi) (fun hb => he i G1 (a.trans s.gg) hi hb) fun H2 w2 => ?_
    show Cw K G1 H1 L (fm (List.range (i + 1)) p f) H2
    rw [List.range_succ, fm_snoc]
    exact w2
  · exact w.out hL fun L vs G2 H2 s2 n2 g2 h2 r2 => q L vs G2 H2 (s.trans s2) (s.free n2) g2 h2 r2
theorem ev_lcR {tn : TE} {j : Nat} {vs : List Nat} {n : Nat} {i0 : Int} (p : Nat → Bool) (f : Nat → β) (h : Ev K tn σ G i0) (en : i0 = (n : Int)) (hz : n < 50000) (hw : ∀ x, wipe ((wipe σ vs).set j (some x)) vs = wipe σ vs)
    (ht : ∀ (i : Nat) G1, Same G G1 → i < n → ET K t ((wipe σ vs).set j (some (.int (i : Int)))) G1 (p i)) (he : ∀ (i : Nat) G1, Same G G1 → i < n → p i = true → Ev K te ((wipe σ vs).set j (some (.int (i : Int)))) G1 (f i)) :
    Ev K (tLc (iRng1 (tCons tn tNil)) (gName j) t te vs) σ G (fm (List.range n) p f) := (ew_lcR p f h en hz hw ht he).frz
theorem et_yes : ET K tYes σ G true := fun G1 H1 _ b Q q => q G1 H1 (Stp.refl b)
theorem fm_yes (l : List α) (f : α → β) : fm l (fun _ => true) f = l.map f := by
  unfold fm
  rw [List.filter_eq_self.mpr fun _ _ => rfl]
/-! ### promises of pure defs -/
def sp1 (K : PySem.W.Frag) (pre : α → Prop) (f : α → β) : Sp := fun vs H Q _ => ∃ G v x, vs = [v] ∧ Same G H ∧ rp K G v x ∧ pre x ∧ ∀ w G' H', Stp K G H G' H' → rp K G' w (f x) → Q w H'
def sp2 (K : PySem.W.Frag) (pre : α → β → Prop) (f : α → β → γ) : Sp := fun vs H Q _ => ∃ G v1 v2 x y, vs = [v1, v2] ∧ Same G H ∧ rp K G v1 x ∧ rp K G v2 y ∧ pre x y ∧ ∀ w G' H', Stp K G H G' H' → rp K G' w (f x y) → Q w H'
def sp3 (K : PySem.W.Frag) (pre : α → β → γ → Prop) (f : α → β → γ → δ) : Sp := fun vs H Q _ => ∃ G v1 v2 v3 x y z, vs = [v1, v2, v3] ∧ Same G H ∧ rp K G v1 x ∧ rp K G v2 y ∧ rp K G v3 z ∧ pre x y z ∧ ∀ w G' H', Stp K G H G' H' → rp K G' w (f x y z) → Q w H'
def sp4 (K : PySem.W.Frag) (pre : α → β → γ → δ → Prop) (f : α → β → γ → δ → ε) : Sp := fun vs H Q _ => ∃ G v1 v2 v3 v4 x y z u, vs = [v1, v2, v3, v4] ∧ Same G H ∧ rp K G v1 x ∧ rp K G v2 y ∧ rp K G v3 z ∧ rp K G v4 u ∧ pre x y z u ∧ ∀ w G' H', Stp K G H G' H' → rp K G' w (f x y z u) → Q w H'
def sp5 (K : PySem.W.Frag) (pre : α → β → γ → δ → ε → Prop) (f : α → β → γ → δ → ε → ζ) : Sp := fun vs H Q _ => ∃ G v1 v2 v3 v4 v5 x y z u t, vs = [v1, v2, v3, v4, v5] ∧ Same G H ∧ rp K G v1 x ∧ rp K G v2 y ∧ rp K G v3 z ∧ rp K G v4 u ∧ rp K G v5 t ∧ pre x y z u t ∧ ∀ w G' H', Stp K G H G' H' → rp K G' w (f x y z u t) → Q w H'
theorem ev_1 {E : XK} {pre : α → Prop} {f : α → β} (h1 : Ev K ta σ G x) (hp : pre x) : Ev K (tCall (sp1 K pre f) [] E (tCons ta tNil)) σ G (f x) := fun G1 H1 a b Q q => h1 G1 H1 a b _ fun v G2 H2 s r =>
  ⟨G2, v, x, rfl, s.gh, r, hp, fun w G' H' s' r' => q w G' H' (s.trans s') r'⟩
theorem ev_2 {E : XK} {pre : α → β → Prop} {f : α → β → γ} (h1 : Ev K ta σ G x) (h2 : Ev K tb σ G y) (hp : pre x y) : Ev K (tCall (sp2 K pre f) [] E (tCons ta (tCons tb tNil))) σ G (f x y) := fun G1 H1 a b Q q => h1 G1 H1 a b _ fun v G2 H2 s r =>
  h2 G2 H2 (a.trans s.gg) s.gh _ fun v2 G3 H3 s2 r2 => ⟨G3, v, v2, x, y, rfl, s2.gh, Rep.mono s2.gg r, r2, hp, fun w G' H' s' r' => q w G' H' ((s.trans s2).trans s') r'⟩
theorem ev_3 {E : XK} {pre : α → β → γ → Prop} {f : α → β → γ → δ} (h1 : Ev K ta σ G x) (h2 : Ev K tb σ G y) (h3 : Ev K tc σ G z) (hp : pre x y z) : Ev K (tCall (sp3 K pre f) [] E (tCons ta (tCons tb (tCons tc tNil)))) σ G (f x y z) := fun G1 H1 a b Q q =>
  h1 G1 H1 a b _ fun v G2 H2 s r => h2 G2 H2 (a.trans s.gg) s.gh _ fun v2 G3 H3 s2 r2 => h3 G3 H3 ((a.trans s.gg).trans s2.gg) s2.gh _ fun v3 G4 H4 s3 r3 =>
    ⟨G4, v, v2, v3, x, y, z, rfl, s3.gh, Rep.mono (s2.gg.trans s3.gg) r, Rep.mono s3.gg r2, r3, hp, fun w G' H' s' r' => q w G' H' (((s.trans s2).trans s3).trans s') r'⟩
theorem ev_4 {E : XK} {pre : α → β → γ → δ → Prop} {f : α → β → γ → δ → ε} {td : TE} {u : δ} (h1 : Ev K ta σ G x) (h2 : Ev K tb σ G y) (h3 : Ev K tc σ G z) (h4 : Ev K td σ G u) (hp : pre x y z u) : Ev K (tCall (sp4 K pre f) [] E (tCons ta (tCons tb (tCons tc (tCons td tNil))))) σ G (f x y z u) := fun G1 H1 a b Q q =>
  h1 G1 H1 a b _ fun v G2 H2 s r => h2 G2 H2 (a.trans s.gg) s.gh _ fun v2 G3 H3 s2 r2 => h3 G3 H3 ((a.trans s.gg).trans s2.gg) s2.gh _ fun v3 G4 H4 s3 r3 => h4 G4 H4 (((a.trans s.gg).trans s2.gg).trans s3.gg) s3.gh _ fun v4 G5 H5 s4 r4 =>
    ⟨G5, v, v2, v3, v4, x, y, z, u, rfl, s4.gh, Rep.mono ((s2.gg.trans s3.gg).trans s4.gg) r, Rep.mono (s3.gg.trans s4.gg) r2, Rep.mono s4.gg r3, r4, hp, fun w G' H' s' r' => q w G' H' ((((s.trans s2).trans s3).trans s4).trans s') r'⟩
theorem ev_5 {E : XK} {pre : α → β → γ → δ → ε → Prop} {f : α → β → γ → δ → ε → ζ} {td tf : TE} {u : δ} {t : ε} (h1 : Ev K ta σ G x) (h2 : Ev K tb σ G y) (h3 : Ev K tc σ G z) (h4 : Ev K td σ G u) (h5 : Ev K tf σ G t) (hp : pre x y z u t) : Ev K (tCall (sp5 K pre f) [] E (tCons ta (tCons tb (tCons tc (tCons td (tCons tf tNil)))))) σ G (f x y z u t) := fun G1 H1 a b Q q =>
  h1 G1 H1 a b _ fun v G2 H2 s r => h2 G2 H2 (a.trans s.gg) s.gh _ fun v2 G3 H3 s2 r2 => h3 G3 H3 ((a.trans s.gg).trans s2.gg) s2.gh _ fun v3 G4 H4 s3 r3 => h4 G4 H4 (((a.trans s.gg).trans s2.gg).trans s3.gg) s3.gh _ fun v4 G5 H5 s4 r4 => h5 G5 H5 ((((a.trans s.gg).trans s2.gg).trans s3.gg).trans s4.gg) s4.gh _ fun v5 G6 H6 s5 r5 =>
    ⟨G6, v, v2, v3, v4, v5, x, y, z, u, t, rfl, s5.gh, Rep.mono (((s2.gg.trans s3.gg).trans s4.gg).trans s5.gg) r, Rep.mono ((s3.gg.trans s4.gg).trans s5.gg) r2, Rep.mono (s4.gg.trans s5.gg) r3, Rep.mono s5.gg r4, r5, hp, fun w G' H' s' r' => q w G' H' (((((s.trans s2).trans s3).trans s4).trans s5).trans s') r'⟩
end
/-! ### == of data -/
class Dat (α : Type) [Rep α] where
  d : α → PyData
  sh : ∀ x, SeqAt.shaped (d x) = true
  dp : ∀ {K : PySem.W.Frag} {G : Hp} {v : V} {x : α}, rp K G v x → Dp K G v (d x)
/-! ### a def that is there, kept -/
structure Cal (P : Program) (w : World) (K : PySem.W.Frag) (mg : Str → Option Value) (base : Heap) (x : Str) (k : Nat) (ps : List Str) (sp : Sp) : Prop where
  ex : ∃ f fd, FnOk P w K mg base CX0 k f fd ps sp ∧ mg x = some (.ref f) ∧ PySem.W.keepIn K (.ref f) = true ∧ Binds K fd ps []
section
variable {X : Cx} {x : Str} {k : Nat} {ps : List Str} {sp : Sp} {p pos : Pos} {e : Expr} {es : List Expr} {t : TA}
theorem pe_c (C : Cal X.prog X.w X.K X.mg X.base x k ps sp) (hr : Room k X.A) (ha : PA X (e :: es) t) (hg : Gl X x := by rfl) (hdb : (x == ("__debug__" : Str)) = false := by decide) (he : starEach (e :: es) X.env = (false, eval e X.env) :: starEach es X.env := by rfl) (hpl : (backTo pos (starEach es X.env)).any (·.1) = false := by rfl) :
    PE X (.Call (.Name x p) (e :: es) [] pos) (tCall sp [] E0 t) := by
  obtain ⟨f, fd, F, hm, hk, hb⟩ := C.ex
  exact pe_call F hr hg hm hk hb .nil pass0 ha hdb he hpl
theorem pe_k {i : Int} (h : ∃ t, X.mg x = some (.int i t)) (hg : Gl X x := by rfl) (hd : (x == ("__debug__" : Str)) = false := by decide) : PE X (.Name x pos) (tC (.int i)) := by
  obtain ⟨t, e⟩ := h
  exact pe_glob hg e ⟨t, rfl⟩ hd
end
/-! ### rules, the written part named -/
section
variable (K : PySem.W.Frag) {X : Cx} {e : Expr} {te : TE} {f : Str} {pos : Pos}
theorem ixL (h : X.K = K := by rfl) : IxR X (rIxL K) := by
  subst h
  exact ix_list
theorem ixT (h : X.K = K := by rfl) : IxR X (rIxT K) := by
  subst h
  exact ix_tup
theorem fldK (he : PE X e te) (hb : attributeBase e f X.env (eval e X.env) = eval e X.env := by rfl) (h : X.K = K := by rfl) : PE X (.Attribute e f pos) (tFld K te f) := by
  subst h
  exact pe_fld he hb
theorem lenK (h : X.K = K := by rfl) : CallR X (.builtin "len") (rLn K) := by
  subst h
  exact call_len_seq
theorem slK (h : X.K = K := by rfl) : SlR X (rSlL K) := by
  subst h
  exact sl_list
theorem sumK (hc : X.calm = true := by rfl) (h : X.K = K := by rfl) : CallR X (.builtin "sum") (rSum K) := by
  subst h
  exact cr_sum hc
theorem maxK (hc : X.calm = true := by rfl) (h : X.K = K := by rfl) : CallR X (.builtin "max") (rMax K) := by
  subst h
  exact cr_max hc
theorem listK (h : X.K = K := by rfl) : CallR X (.type "list") (rListOf K) := by
  subst h
  exact call_list_of
theorem sortK (h : X.K = K := by rfl) : CallR X (.builtin "sorted") (rSortedI K) := by
  subst h
  exact cr_sortedI
theorem sortRevK (h : X.K = K := by rfl) : CallRK X (.builtin "sorted") [Str.ofString "reverse"] (rSortedKw K true [.bl true]) := by
  subst h
  exact cr_sortedRev
theorem inK (h : X.K = K := by rfl) : OpR X (compareOp .In) (rIn K false) := by
  subst h
  exact op_in_seq
theorem notInK (h : X.K = K := by rfl) : OpR X (compareOp .NotIn) (rIn K true) := by
  subst h
  exact op_notIn_seq
theorem eqDK (hu : X.A.units + 64 < cLine) (h : X.K = K := by rfl) : OpR X (compareOp .Eq) (rEqD K) := by
  subst h
  exact op_eqD hu
theorem neDK (hu : X.A.units + 64 < cLine) (h : X.K = K := by rfl) : OpR X (compareOp .NotEq) (rNeD K) := by
  subst h
  exact op_neD hu
theorem dictK (hc : X.calm = true := by rfl) (h : X.K = K := by rfl) : CallR X (.type "dict") (fun xs H Q => ∃ (a : Addr) (ps : List Addr) (kvs : List (Key × V)), xs = [.ref a] ∧ SqL K H a (ps.map V.ref) ∧ Paired (fun p kv => SqT K H p [kV kv.1, kv.2]) ps kvs ∧ ∀ p, H p = none → Q (.ref p) (upd H p (.dK (mergeK [] kvs)))) := by
  subst h
  exact call_dictP hc
end
end Mw
/-! The text by its places; what the head tells of it. -/
namespace Mw
open PySem PySem.Spec PyProof.Rows L2
def topS (i : Nat) : Stmt := PySem.Challenge.pw_meshworks_k93_whole_parted_works_part_lo.main.body.getD i (.Pass ⟨0, 0, 0, 0⟩)
abbrev s_good_row : Stmt := topS 12
abbrev s_Works_init : Stmt := inClass (topS 13) 0
abbrev s_pieces_of : Stmt := topS 14
abbrev s_goes_on : Stmt := topS 15
abbrev s_whole_to : Stmt := topS 17
abbrev s_ring_from : Stmt := topS 18
abbrev s_sizes_looked : Stmt := topS 19
abbrev s_ring_of : Stmt := topS 20
abbrev s_greatest_part : Stmt := topS 22
abbrev s_lowered : Stmt := topS 23
abbrev s_first_place : Stmt := topS 24
abbrev s_rest_of : Stmt := topS 25
abbrev s_is_sum : Stmt := topS 26
abbrev s_widened : Stmt := topS 27
abbrev s_own_weight : Stmt := topS 29
abbrev s_weight_in : Stmt := topS 30
abbrev s_laid_weight : Stmt := topS 31
abbrev s_weights_upto : Stmt := topS 32
abbrev s_weights_from : Stmt := topS 33
abbrev s_lot_weights : Stmt := topS 34
abbrev s_crushers_of : Stmt := topS 38
abbrev s_openings_of : Stmt := topS 39
abbrev s_height_of : Stmt := topS 40
abbrev s_check_two : Stmt := topS 41
abbrev s_far_goal : Stmt := topS 42
abbrev s_far_pair : Stmt := topS 43
abbrev s_next_tail : Stmt := topS 44
abbrev s_first_tails : Stmt := topS 45
abbrev s_behind_tail : Stmt := topS 46
abbrev s_told_tails : Stmt := topS 47
abbrev s_parted_low : Stmt := topS 48
abbrev s_same_far : Stmt := topS 49
abbrev s_first_unlike : Stmt := topS 50
abbrev s_parting_of : Stmt := topS 51
abbrev s_rising : Stmt := topS 53
abbrev s_Flow_init : Stmt := inClass (topS 55) 0
abbrev s_Flow_put : Stmt := inClass (topS 55) 1
abbrev s_Flow_take_all : Stmt := inClass (topS 55) 2
abbrev s_Flow_go_size : Stmt := inClass (topS 55) 3
abbrev s_Flow_go : Stmt := inClass (topS 55) 4
abbrev s_Flow_told : Stmt := inClass (topS 55) 5
abbrev s_laid_on : Stmt := topS 56
abbrev s_worked : Stmt := topS 57
abbrev s_law_cell : Stmt := topS 59
abbrev s_law_row : Stmt := topS 60
abbrev s_law_end : Stmt := topS 61
abbrev s_law_stuck : Stmt := topS 62
abbrev s_law_forward : Stmt := topS 63
abbrev s_law_rows : Stmt := topS 64
abbrev s_law_renamed : Stmt := topS 65
abbrev s_law_redirected : Stmt := topS 66
abbrev s_law_nearly : Stmt := topS 67
abbrev s_law_beside : Stmt := topS 68
abbrev s_law_two : Stmt := topS 69
abbrev s_law_lot : Stmt := topS 70
abbrev s_law_weighed : Stmt := topS 71
abbrev s_law_right : Stmt := topS 72
abbrev s_law_parts : Stmt := topS 73
abbrev s_law : Stmt := topS 74
abbrev N_good_row : List Str := ["row", "many"]
theorem sc_good_row : FnScope N_good_row ["row", "many"] (defScope s_good_row) := ⟨rfl, rfl, rfl, by decide +kernel, rfl, by decide +kernel, by decide +kernel⟩
abbrev N_Works_init : List Str := ["self", "parts", "rows", "row"]
theorem sc_Works_init : FnScope N_Works_init ["self", "parts", "rows"] (defScope s_Works_init) := ⟨rfl, rfl, rfl, by decide +kernel, rfl, by decide +kernel, by decide +kernel⟩
abbrev N_pieces_of : List Str := ["size", "parts", "pairs", "pair"]
theorem sc_pieces_of : FnScope N_pieces_of ["size", "parts"] (defScope s_pieces_of) := ⟨rfl, rfl, rfl, by decide +kernel, rfl, by decide +kernel, by decide +kernel⟩
abbrev N_goes_on : List Str := ["works", "row", "size", "told", "piece", "many"]
theorem sc_goes_on : FnScope N_goes_on ["works", "row", "size"] (defScope s_goes_on) := ⟨rfl, rfl, rfl, by decide +kernel, rfl, by decide +kernel, by decide +kernel⟩
abbrev N_whole_to : List Str := ["works", "row", "size", "told"]
theorem sc_whole_to : FnScope N_whole_to ["works", "row", "size"] (defScope s_whole_to) := ⟨rfl, rfl, rfl, by decide +kernel, rfl, by decide +kernel, by decide +kernel⟩
abbrev N_ring_from : List Str := ["works", "row", "size", "way"]
theorem sc_ring_from : FnScope N_ring_from ["works", "row", "size"] (defScope s_ring_from) := ⟨rfl, rfl, rfl, by decide +kernel, rfl, by decide +kernel, by decide +kernel⟩
abbrev N_sizes_looked : List Str := ["works", "openings", "row", "opening"]
theorem sc_sizes_looked : FnScope N_sizes_looked ["works"] (defScope s_sizes_looked) := ⟨rfl, rfl, rfl, by decide +kernel, rfl, by decide +kernel, by decide +kernel⟩
abbrev N_ring_of : List Str := ["works", "size", "row", "ring"]
theorem sc_ring_of : FnScope N_ring_of ["works"] (defScope s_ring_of) := ⟨rfl, rfl, rfl, by decide +kernel, rfl, by decide +kernel, by decide +kernel⟩
abbrev N_greatest_part : List Str := ["row", "found", "number", "rest", "kept"]
theorem sc_greatest_part : FnScope N_greatest_part ["row"] (defScope s_greatest_part) := ⟨rfl, rfl, rfl, by decide +kernel, rfl, by decide +kernel, by decide +kernel⟩
abbrev N_lowered : List Str := ["row", "part", "number"]
theorem sc_lowered : FnScope N_lowered ["row"] (defScope s_lowered) := ⟨rfl, rfl, rfl, by decide +kernel, rfl, by decide +kernel, by decide +kernel⟩
abbrev N_first_place : List Str := ["row", "place", "number"]
theorem sc_first_place : FnScope N_first_place ["row"] (defScope s_first_place) := ⟨rfl, rfl, rfl, by decide +kernel, rfl, by decide +kernel, by decide +kernel⟩
abbrev N_rest_of : List Str := ["span", "row", "rest", "place", "base", "k"]
theorem sc_rest_of : FnScope N_rest_of ["span", "row"] (defScope s_rest_of) := ⟨rfl, rfl, rfl, by decide +kernel, rfl, by decide +kernel, by decide +kernel⟩
abbrev N_is_sum : List Str := ["span", "row"]
theorem sc_is_sum : FnScope N_is_sum ["span", "row"] (defScope s_is_sum) := ⟨rfl, rfl, rfl, by decide +kernel, rfl, by decide +kernel, by decide +kernel⟩
abbrev N_widened : List Str := ["span", "row", "rest", "place"]
theorem sc_widened : FnScope N_widened ["span", "row"] (defScope s_widened) := ⟨rfl, rfl, rfl, by decide +kernel, rfl, by decide +kernel, by decide +kernel⟩
abbrev N_own_weight : List Str := ["works", "row", "size", "number"]
theorem sc_own_weight : FnScope N_own_weight ["works", "row", "size", "number"] (defScope s_own_weight) := ⟨rfl, rfl, rfl, by decide +kernel, rfl, by decide +kernel, by decide +kernel⟩
abbrev N_weight_in : List Str := ["works", "row", "size", "number", "known", "open_grains", "here", "ahead", "to", "piece", "many", "lacking", "total"]
theorem sc_weight_in : FnScope N_weight_in ["works", "row", "size", "number"] (defScope s_weight_in) := ⟨rfl, rfl, rfl, by decide +kernel, rfl, by decide +kernel, by decide +kernel⟩
abbrev N_laid_weight : List Str := ["works", "row", "size", "number", "ahead_of", "goes", "total", "to", "piece", "many"]
theorem sc_laid_weight : FnScope N_laid_weight ["works", "row", "size", "number", "ahead_of"] (defScope s_laid_weight) := ⟨rfl, rfl, rfl, by decide +kernel, rfl, by decide +kernel, by decide +kernel⟩
abbrev N_weights_upto : List Str := ["works", "number", "most", "found", "size", "row"]
theorem sc_weights_upto : FnScope N_weights_upto ["works", "number", "most"] (defScope s_weights_upto) := ⟨rfl, rfl, rfl, by decide +kernel, rfl, by decide +kernel, by decide +kernel⟩
abbrev N_weights_from : List Str := ["works", "row", "size", "number"]
theorem sc_weights_from : FnScope N_weights_from ["works", "row", "size"] (defScope s_weights_from) := ⟨rfl, rfl, rfl, by decide +kernel, rfl, by decide +kernel, by decide +kernel⟩
abbrev N_lot_weights : List Str := ["works", "lot", "number", "totals", "size", "many", "weight"]
theorem sc_lot_weights : FnScope N_lot_weights ["works", "lot"] (defScope s_lot_weights) := ⟨rfl, rfl, rfl, by decide +kernel, rfl, by decide +kernel, by decide +kernel⟩
abbrev N_crushers_of : List Str := ["works", "row"]
theorem sc_crushers_of : FnScope N_crushers_of ["works"] (defScope s_crushers_of) := ⟨rfl, rfl, rfl, by decide +kernel, rfl, by decide +kernel, by decide +kernel⟩
abbrev N_openings_of : List Str := ["works", "row"]
theorem sc_openings_of : FnScope N_openings_of ["works"] (defScope s_openings_of) := ⟨rfl, rfl, rfl, by decide +kernel, rfl, by decide +kernel, by decide +kernel⟩
abbrev N_height_of : List Str := ["one", "other"]
theorem sc_height_of : FnScope N_height_of ["one", "other"] (defScope s_height_of) := ⟨rfl, rfl, rfl, by decide +kernel, rfl, by decide +kernel, by decide +kernel⟩
abbrev N_check_two : List Str := ["one", "other"]
theorem sc_check_two : FnScope N_check_two ["one", "other"] (defScope s_check_two) := ⟨rfl, rfl, rfl, by decide +kernel, rfl, by decide +kernel, by decide +kernel⟩
abbrev N_far_goal : List Str := ["works", "row"]
theorem sc_far_goal : FnScope N_far_goal ["works", "row"] (defScope s_far_goal) := ⟨rfl, rfl, rfl, by decide +kernel, rfl, by decide +kernel, by decide +kernel⟩
abbrev N_far_pair : List Str := ["works", "places", "first", "row", "number", "goal", "at"]
theorem sc_far_pair : FnScope N_far_pair ["works", "places", "first", "row", "number"] (defScope s_far_pair) := ⟨rfl, rfl, rfl, by decide +kernel, rfl, by decide +kernel, by decide +kernel⟩
abbrev N_next_tail : List Str := ["one", "other", "places", "rest", "number", "found", "first", "works", "row", "low", "high"]
theorem sc_next_tail : FnScope N_next_tail ["one", "other", "places", "rest", "number"] (defScope s_next_tail) := ⟨rfl, rfl, rfl, by decide +kernel, rfl, by decide +kernel, by decide +kernel⟩
abbrev N_first_tails : List Str := ["one", "other", "number", "least", "most", "tables", "found", "size", "places", "k", "works", "row"]
theorem sc_first_tails : FnScope N_first_tails ["one", "other", "number"] (defScope s_first_tails) := ⟨rfl, rfl, rfl, by decide +kernel, rfl, by decide +kernel, by decide +kernel⟩
abbrev N_behind_tail : List Str := ["one", "other", "places", "number", "rest"]
theorem sc_behind_tail : FnScope N_behind_tail ["one", "other", "places", "number"] (defScope s_behind_tail) := ⟨rfl, rfl, rfl, by decide +kernel, rfl, by decide +kernel, by decide +kernel⟩
abbrev N_told_tails : List Str := ["one", "other", "number", "span", "found", "waiting", "places"]
theorem sc_told_tails : FnScope N_told_tails ["one", "other", "number"] (defScope s_told_tails) := ⟨rfl, rfl, rfl, by decide +kernel, rfl, by decide +kernel, by decide +kernel⟩
abbrev N_parted_low : List Str := ["one", "other", "number", "most", "mine", "yours", "size"]
theorem sc_parted_low : FnScope N_parted_low ["one", "other", "number"] (defScope s_parted_low) := ⟨rfl, rfl, rfl, by decide +kernel, rfl, by decide +kernel, by decide +kernel⟩
abbrev N_same_far : List Str := ["one", "other", "places", "number", "first"]
theorem sc_same_far : FnScope N_same_far ["one", "other", "places", "number"] (defScope s_same_far) := ⟨rfl, rfl, rfl, by decide +kernel, rfl, by decide +kernel, by decide +kernel⟩
abbrev N_first_unlike : List Str := ["one", "other", "number", "low", "places"]
theorem sc_first_unlike : FnScope N_first_unlike ["one", "other", "number"] (defScope s_first_unlike) := ⟨rfl, rfl, rfl, by decide +kernel, rfl, by decide +kernel, by decide +kernel⟩
abbrev N_parting_of : List Str := ["one", "other", "found", "parted", "number", "pair"]
theorem sc_parting_of : FnScope N_parting_of ["one", "other"] (defScope s_parting_of) := ⟨rfl, rfl, rfl, by decide +kernel, rfl, by decide +kernel, by decide +kernel⟩
abbrev N_rising : List Str := ["counted", "size"]
theorem sc_rising : FnScope N_rising ["counted"] (defScope s_rising) := ⟨rfl, rfl, rfl, by decide +kernel, rfl, by decide +kernel, by decide +kernel⟩
abbrev N_Flow_init : List Str := ["self", "works", "row"]
theorem sc_Flow_init : FnScope N_Flow_init ["self", "works"] (defScope s_Flow_init) := ⟨rfl, rfl, rfl, by decide +kernel, rfl, by decide +kernel, by decide +kernel⟩
abbrev N_Flow_put : List Str := ["self", "row", "size", "many", "lying"]
theorem sc_Flow_put : FnScope N_Flow_put ["self", "row", "size", "many"] (defScope s_Flow_put) := ⟨rfl, rfl, rfl, by decide +kernel, rfl, by decide +kernel, by decide +kernel⟩
abbrev N_Flow_take_all : List Str := ["self", "row", "size", "many", "told", "held", "to", "piece", "more"]
theorem sc_Flow_take_all : FnScope N_Flow_take_all ["self", "row", "size", "many"] (defScope s_Flow_take_all) := ⟨rfl, rfl, rfl, by decide +kernel, rfl, by decide +kernel, by decide +kernel⟩
abbrev N_Flow_go_size : List Str := ["self", "size", "lying", "row"]
theorem sc_Flow_go_size : FnScope N_Flow_go_size ["self", "size"] (defScope s_Flow_go_size) := ⟨rfl, rfl, rfl, by decide +kernel, rfl, by decide +kernel, by decide +kernel⟩
abbrev N_Flow_go : List Str := ["self", "top", "size", "great"]
theorem sc_Flow_go : FnScope N_Flow_go ["self"] (defScope s_Flow_go) := ⟨rfl, rfl, rfl, by decide +kernel, rfl, by decide +kernel, by decide +kernel⟩
abbrev N_Flow_told : List Str := ["self", "bins", "number"]
theorem sc_Flow_told : FnScope N_Flow_told ["self"] (defScope s_Flow_told) := ⟨rfl, rfl, rfl, by decide +kernel, rfl, by decide +kernel, by decide +kernel⟩
abbrev N_laid_on : List Str := ["works", "row", "lot", "flow", "size", "many"]
theorem sc_laid_on : FnScope N_laid_on ["works", "row", "lot"] (defScope s_laid_on) := ⟨rfl, rfl, rfl, by decide +kernel, rfl, by decide +kernel, by decide +kernel⟩
abbrev N_worked : List Str := ["works", "lot"]
theorem sc_worked : FnScope N_worked ["works", "lot"] (defScope s_worked) := ⟨rfl, rfl, rfl, by decide +kernel, rfl, by decide +kernel, by decide +kernel⟩
abbrev N_law_cell : List Str := ["script", "k", "first", "stir"]
theorem sc_law_cell : FnScope N_law_cell ["script", "k"] (defScope s_law_cell) := ⟨rfl, rfl, rfl, by decide +kernel, rfl, by decide +kernel, by decide +kernel⟩
abbrev N_law_row : List Str := ["cell", "many", "most", "kind", "rest"]
theorem sc_law_row : FnScope N_law_row ["cell", "many", "most"] (defScope s_law_row) := ⟨rfl, rfl, rfl, by decide +kernel, rfl, by decide +kernel, by decide +kernel⟩
abbrev N_law_end : List Str := ["rows", "row", "size", "turn", "one"]
theorem sc_law_end : FnScope N_law_end ["rows", "row", "size"] (defScope s_law_end) := ⟨rfl, rfl, rfl, by decide +kernel, rfl, by decide +kernel, by decide +kernel⟩
abbrev N_law_stuck : List Str := ["rows", "row", "openings", "size", "opening"]
theorem sc_law_stuck : FnScope N_law_stuck ["rows"] (defScope s_law_stuck) := ⟨rfl, rfl, rfl, by decide +kernel, rfl, by decide +kernel, by decide +kernel⟩
abbrev N_law_forward : List Str := ["rows", "made", "k", "one", "left"]
theorem sc_law_forward : FnScope N_law_forward ["rows"] (defScope s_law_forward) := ⟨rfl, rfl, rfl, by decide +kernel, rfl, by decide +kernel, by decide +kernel⟩
abbrev N_law_rows : List Str := ["script", "at", "many", "most", "crushers", "rows", "k", "row", "one"]
theorem sc_law_rows : FnScope N_law_rows ["script", "at", "many", "most", "crushers"] (defScope s_law_rows) := ⟨rfl, rfl, rfl, by decide +kernel, rfl, by decide +kernel, by decide +kernel⟩
abbrev N_law_renamed : List Str := ["rows", "names", "made", "k", "one", "row"]
theorem sc_law_renamed : FnScope N_law_renamed ["rows", "names"] (defScope s_law_renamed) := ⟨rfl, rfl, rfl, by decide +kernel, rfl, by decide +kernel, by decide +kernel⟩
abbrev N_law_redirected : List Str := ["rows", "at", "old", "new", "one"]
theorem sc_law_redirected : FnScope N_law_redirected ["rows", "at", "old", "new"] (defScope s_law_redirected) := ⟨rfl, rfl, rfl, by decide +kernel, rfl, by decide +kernel, by decide +kernel⟩
abbrev N_law_nearly : List Str := ["rows", "cell", "made", "at", "one"]
theorem sc_law_nearly : FnScope N_law_nearly ["rows", "cell"] (defScope s_law_nearly) := ⟨rfl, rfl, rfl, by decide +kernel, rfl, by decide +kernel, by decide +kernel⟩
abbrev N_law_beside : List Str := ["rows", "cell", "way", "many", "old", "names", "added", "made", "k", "one"]
theorem sc_law_beside : FnScope N_law_beside ["rows", "cell"] (defScope s_law_beside) := ⟨rfl, rfl, rfl, by decide +kernel, rfl, by decide +kernel, by decide +kernel⟩
abbrev N_law_two : List Str := ["script", "many", "most", "crushers", "one", "cell"]
theorem sc_law_two : FnScope N_law_two ["script", "many", "most", "crushers"] (defScope s_law_two) := ⟨rfl, rfl, rfl, by decide +kernel, rfl, by decide +kernel, by decide +kernel⟩
abbrev N_law_lot : List Str := ["cells", "held", "cell", "rest", "size"]
theorem sc_law_lot : FnScope N_law_lot ["cells"] (defScope s_law_lot) := ⟨rfl, rfl, rfl, by decide +kernel, rfl, by decide +kernel, by decide +kernel⟩
abbrev N_law_weighed : List Str := ["works", "lot", "number", "held", "kept", "size", "many"]
theorem sc_law_weighed : FnScope N_law_weighed ["works", "lot"] (defScope s_law_weighed) := ⟨rfl, rfl, rfl, by decide +kernel, rfl, by decide +kernel, by decide +kernel⟩
abbrev N_law_right : List Str := ["works", "lot"]
theorem sc_law_right : FnScope N_law_right ["works", "lot"] (defScope s_law_right) := ⟨rfl, rfl, rfl, by decide +kernel, rfl, by decide +kernel, by decide +kernel⟩
abbrev N_law_parts : List Str := ["one", "other", "size", "number", "mine", "yours"]
theorem sc_law_parts : FnScope N_law_parts ["one", "other", "size", "number"] (defScope s_law_parts) := ⟨rfl, rfl, rfl, by decide +kernel, rfl, by decide +kernel, by decide +kernel⟩
abbrev N_law : List Str := ["script", "parts", "pair", "one", "other", "lot", "found", "less", "pair_of"]
theorem sc_law : FnScope N_law ["script"] (defScope s_law) := ⟨rfl, rfl, rfl, by decide +kernel, rfl, by decide +kernel, by decide +kernel⟩
abbrev d_good_row : He.DefD := ⟨("good_row", none), "good_row", "good_row", defArgs s_good_row, defBody s_good_row, defScope s_good_row, [], []⟩
abbrev d_Works_init : He.DefD := ⟨("Works", some "__init__"), "__init__", "Works.__init__", defArgs s_Works_init, defBody s_Works_init, defScope s_Works_init, [], []⟩
abbrev d_pieces_of : He.DefD := ⟨("pieces_of", none), "pieces_of", "pieces_of", defArgs s_pieces_of, defBody s_pieces_of, defScope s_pieces_of, [], []⟩
abbrev d_goes_on : He.DefD := ⟨("goes_on", none), "goes_on", "goes_on", defArgs s_goes_on, defBody s_goes_on, defScope s_goes_on, [], []⟩
abbrev d_whole_to : He.DefD := ⟨("whole_to", none), "whole_to", "whole_to", defArgs s_whole_to, defBody s_whole_to, defScope s_whole_to, [], []⟩
abbrev d_ring_from : He.DefD := ⟨("ring_from", none), "ring_from", "ring_from", defArgs s_ring_from, defBody s_ring_from, defScope s_ring_from, [], []⟩
abbrev d_sizes_looked : He.DefD := ⟨("sizes_looked", none), "sizes_looked", "sizes_looked", defArgs s_sizes_looked, defBody s_sizes_looked, defScope s_sizes_looked, [], []⟩
abbrev d_ring_of : He.DefD := ⟨("ring_of", none), "ring_of", "ring_of", defArgs s_ring_of, defBody s_ring_of, defScope s_ring_of, [], []⟩
abbrev d_greatest_part : He.DefD := ⟨("greatest_part", none), "greatest_part", "greatest_part", defArgs s_greatest_part, defBody s_greatest_part, defScope s_greatest_part, [], []⟩
abbrev d_lowered : He.DefD := ⟨("lowered", none), "lowered", "lowered", defArgs s_lowered, defBody s_lowered, defScope s_lowered, [], []⟩
abbrev d_first_place : He.DefD := ⟨("first_place", none), "first_place", "first_place", defArgs s_first_place, defBody s_first_place, defScope s_first_place, [], []⟩
abbrev d_rest_of : He.DefD := ⟨("rest_of", none), "rest_of", "rest_of", defArgs s_rest_of, defBody s_rest_of, defScope s_rest_of, [], []⟩
abbrev d_is_sum : He.DefD := ⟨("is_sum", none), "is_sum", "is_sum", defArgs s_is_sum, defBody s_is_sum, defScope s_is_sum, [], []⟩
abbrev d_widened : He.DefD := ⟨("widened", none), "widened", "widened", defArgs s_widened, defBody s_widened, defScope s_widened, [], []⟩
abbrev d_own_weight : He.DefD := ⟨("own_weight", none), "own_weight", "own_weight", defArgs s_own_weight, defBody s_own_weight, defScope s_own_weight, [], []⟩
abbrev d_weight_in : He.DefD := ⟨("weight_in", none), "weight_in", "weight_in", defArgs s_weight_in, defBody s_weight_in, defScope s_weight_in, [], []⟩
abbrev d_laid_weight : He.DefD := ⟨("laid_weight", none), "laid_weight", "laid_weight", defArgs s_laid_weight, defBody s_laid_weight, defScope s_laid_weight, [], []⟩
abbrev d_weights_upto : He.DefD := ⟨("weights_upto", none), "weights_upto", "weights_upto", defArgs s_weights_upto, defBody s_weights_upto, defScope s_weights_upto, [], []⟩
abbrev d_weights_from : He.DefD := ⟨("weights_from", none), "weights_from", "weights_from", defArgs s_weights_from, defBody s_weights_from, defScope s_weights_from, [], []⟩
abbrev d_lot_weights : He.DefD := ⟨("lot_weights", none), "lot_weights", "lot_weights", defArgs s_lot_weights, defBody s_lot_weights, defScope s_lot_weights, [], []⟩
abbrev d_crushers_of : He.DefD := ⟨("crushers_of", none), "crushers_of", "crushers_of", defArgs s_crushers_of, defBody s_crushers_of, defScope s_crushers_of, [], []⟩
abbrev d_openings_of : He.DefD := ⟨("openings_of", none), "openings_of", "openings_of", defArgs s_openings_of, defBody s_openings_of, defScope s_openings_of, [], []⟩
abbrev d_height_of : He.DefD := ⟨("height_of", none), "height_of", "height_of", defArgs s_height_of, defBody s_height_of, defScope s_height_of, [], []⟩
abbrev d_check_two : He.DefD := ⟨("check_two", none), "check_two", "check_two", defArgs s_check_two, defBody s_check_two, defScope s_check_two, [], []⟩
abbrev d_far_goal : He.DefD := ⟨("far_goal", none), "far_goal", "far_goal", defArgs s_far_goal, defBody s_far_goal, defScope s_far_goal, [], []⟩
abbrev d_far_pair : He.DefD := ⟨("far_pair", none), "far_pair", "far_pair", defArgs s_far_pair, defBody s_far_pair, defScope s_far_pair, [], []⟩
abbrev d_next_tail : He.DefD := ⟨("next_tail", none), "next_tail", "next_tail", defArgs s_next_tail, defBody s_next_tail, defScope s_next_tail, [], []⟩
abbrev d_first_tails : He.DefD := ⟨("first_tails", none), "first_tails", "first_tails", defArgs s_first_tails, defBody s_first_tails, defScope s_first_tails, [], []⟩
abbrev d_behind_tail : He.DefD := ⟨("behind_tail", none), "behind_tail", "behind_tail", defArgs s_behind_tail, defBody s_behind_tail, defScope s_behind_tail, [], []⟩
abbrev d_told_tails : He.DefD := ⟨("told_tails", none), "told_tails", "told_tails", defArgs s_told_tails, defBody s_told_tails, defScope s_told_tails, [], []⟩
abbrev d_parted_low : He.DefD := ⟨("parted_low", none), "parted_low", "parted_low", defArgs s_parted_low, defBody s_parted_low, defScope s_parted_low, [], []⟩
abbrev d_same_far : He.DefD := ⟨("same_far", none), "same_far", "same_far", defArgs s_same_far, defBody s_same_far, defScope s_same_far, [], []⟩
abbrev d_first_unlike : He.DefD := ⟨("first_unlike", none), "first_unlike", "first_unlike", defArgs s_first_unlike, defBody s_first_unlike, defScope s_first_unlike, [], []⟩
abbrev d_parting_of : He.DefD := ⟨("parting_of", none), "parting_of", "parting_of", defArgs s_parting_of, defBody s_parting_of, defScope s_parting_of, [], []⟩
abbrev d_rising : He.DefD := ⟨("rising", none), "rising", "rising", defArgs s_rising, defBody s_rising, defScope s_rising, [], []⟩
abbrev d_Flow_init : He.DefD := ⟨("Flow", some "__init__"), "__init__", "Flow.__init__", defArgs s_Flow_init, defBody s_Flow_init, defScope s_Flow_init, [], []⟩
abbrev d_Flow_put : He.DefD := ⟨("Flow", some "put"), "put", "Flow.put", defArgs s_Flow_put, defBody s_Flow_put, defScope s_Flow_put, [], []⟩
abbrev d_Flow_take_all : He.DefD := ⟨("Flow", some "take_all"), "take_all", "Flow.take_all", defArgs s_Flow_take_all, defBody s_Flow_take_all, defScope s_Flow_take_all, [], []⟩
abbrev d_Flow_go_size : He.DefD := ⟨("Flow", some "go_size"), "go_size", "Flow.go_size", defArgs s_Flow_go_size, defBody s_Flow_go_size, defScope s_Flow_go_size, [], []⟩
abbrev d_Flow_go : He.DefD := ⟨("Flow", some "go"), "go", "Flow.go", defArgs s_Flow_go, defBody s_Flow_go, defScope s_Flow_go, [], []⟩
abbrev d_Flow_told : He.DefD := ⟨("Flow", some "told"), "told", "Flow.told", defArgs s_Flow_told, defBody s_Flow_told, defScope s_Flow_told, [], []⟩
abbrev d_laid_on : He.DefD := ⟨("laid_on", none), "laid_on", "laid_on", defArgs s_laid_on, defBody s_laid_on, defScope s_laid_on, [], []⟩
abbrev d_worked : He.DefD := ⟨("worked", none), "worked", "worked", defArgs s_worked, defBody s_worked, defScope s_worked, [], []⟩
abbrev d_law_cell : He.DefD := ⟨("_law_cell", none), "_law_cell", "_law_cell", defArgs s_law_cell, defBody s_law_cell, defScope s_law_cell, [], []⟩
abbrev d_law_row : He.DefD := ⟨("_law_row", none), "_law_row", "_law_row", defArgs s_law_row, defBody s_law_row, defScope s_law_row, [], []⟩
abbrev d_law_end : He.DefD := ⟨("_law_end", none), "_law_end", "_law_end", defArgs s_law_end, defBody s_law_end, defScope s_law_end, [], []⟩
abbrev d_law_stuck : He.DefD := ⟨("_law_stuck", none), "_law_stuck", "_law_stuck", defArgs s_law_stuck, defBody s_law_stuck, defScope s_law_stuck, [], []⟩
abbrev d_law_forward : He.DefD := ⟨("_law_forward", none), "_law_forward", "_law_forward", defArgs s_law_forward, defBody s_law_forward, defScope s_law_forward, [], []⟩
abbrev d_law_rows : He.DefD := ⟨("_law_rows", none), "_law_rows", "_law_rows", defArgs s_law_rows, defBody s_law_rows, defScope s_law_rows, [], []⟩
abbrev d_law_renamed : He.DefD := ⟨("_law_renamed", none), "_law_renamed", "_law_renamed", defArgs s_law_renamed, defBody s_law_renamed, defScope s_law_renamed, [], []⟩
abbrev d_law_redirected : He.DefD := ⟨("_law_redirected", none), "_law_redirected", "_law_redirected", defArgs s_law_redirected, defBody s_law_redirected, defScope s_law_redirected, [], []⟩
abbrev d_law_nearly : He.DefD := ⟨("_law_nearly", none), "_law_nearly", "_law_nearly", defArgs s_law_nearly, defBody s_law_nearly, defScope s_law_nearly, [], []⟩
abbrev d_law_beside : He.DefD := ⟨("_law_beside", none), "_law_beside", "_law_beside", defArgs s_law_beside, defBody s_law_beside, defScope s_law_beside, [], []⟩
abbrev d_law_two : He.DefD := ⟨("_law_two", none), "_law_two", "_law_two", defArgs s_law_two, defBody s_law_two, defScope s_law_two, [], []⟩
abbrev d_law_lot : He.DefD := ⟨("_law_lot", none), "_law_lot", "_law_lot", defArgs s_law_lot, defBody s_law_lot, defScope s_law_lot, [], []⟩
abbrev d_law_weighed : He.DefD := ⟨("_law_weighed", none), "_law_weighed", "_law_weighed", defArgs s_law_weighed, defBody s_law_weighed, defScope s_law_weighed, [], []⟩
abbrev d_law_right : He.DefD := ⟨("_law_right", none), "_law_right", "_law_right", defArgs s_law_right, defBody s_law_right, defScope s_law_right, [], []⟩
abbrev d_law_parts : He.DefD := ⟨("_law_parts", none), "_law_parts", "_law_parts", defArgs s_law_parts, defBody s_law_parts, defScope s_law_parts, [], []⟩
abbrev d_law : He.DefD := ⟨("law", none), "law", "law", defArgs s_law, defBody s_law, defScope s_law, [], []⟩
/-- a def of the top, under its name -/
structure Has (K : PySem.W.Frag) (mg : Str → Option Value) (x : Str) (d : He.DefD) : Prop where
  ex : ∃ f fd, FunD K d.name d.qual d.params d.body d.scope [] [] f fd ∧ mg x = some (.ref f)
abbrev CW (K : PySem.W.Frag) : Addr := He.ga K "Works"
abbrev CF (K : PySem.W.Frag) : Addr := He.ga K "Flow"
/-- what stands at the top, besides the defs -/
structure Tx (K : PySem.W.Frag) (mg : Str → Option Value) (base : Heap) : Prop where
  b_len : mg "len" = none
  b_range : mg "range" = none
  b_sorted : mg "sorted" = none
  b_list : mg "list" = none
  b_dict : mg "dict" = none
  b_sum : mg "sum" = none
  b_min : mg "min" = none
  b_max : mg "max" = none
  b_abs : mg "abs" = none
  b_enumerate : mg "enumerate" = none
  b_int : mg "int" = none
  k_MOST_ROWS : ∃ t, mg "MOST_ROWS" = some (.int (12) t)
  k_MOST_PARTS : ∃ t, mg "MOST_PARTS" = some (.int (9) t)
  k_MOST_BIN : ∃ t, mg "MOST_BIN" = some (.int (5) t)
  k_WIDEST_works : ∃ t, mg "WIDEST_works" = some (.int (10 ^ 60) t)
  k_MOST_CRUSHERS : ∃ t, mg "MOST_CRUSHERS" = some (.int (4) t)
  k_WIDEST_alike : ∃ t, mg "WIDEST_alike" = some (.int (20) t)
  clW : Cls K (CW K)
  clF : Cls K (CF K)
  mkW : Mk K (CW K) (He.ma K (CW K) "__init__")
  mkF : Mk K (CF K) (He.ma K (CF K) "__init__")
  mgW : mg "Works" = some (.ref (CW K))
  mgF : mg "Flow" = some (.ref (CF K))
  nW_parts : NoAttr K (CW K) "parts"
  nW_rows : NoAttr K (CW K) "rows"
  nF_works : NoAttr K (CF K) "works"
  nF_sizes : NoAttr K (CF K) "sizes"
  nF_done : NoAttr K (CF K) "done"
  nF_kept : NoAttr K (CF K) "kept"
  mF_put : Meth K (CF K) "put" (He.ma K (CF K) "put")
  mF_take_all : Meth K (CF K) "take_all" (He.ma K (CF K) "take_all")
  mF_go_size : Meth K (CF K) "go_size" (He.ma K (CF K) "go_size")
  mF_go : Meth K (CF K) "go" (He.ma K (CF K) "go")
  mF_told : Meth K (CF K) "told" (He.ma K (CF K) "told")
  tab : LamX.TabB base mg (He.cT K ("told_tails", none)).1 (ptOf K)
section
variable {P : Program} {w : World} {K : PySem.W.Frag} {mg : Str → Option Value} {base : Heap} {x : Str} {d : He.DefD} {N ps : List Str} {k : Nat} {sp : Sp}
/-- a def of the top keeps its promise -/
theorem Has.cal (h : Has K mg x d) (S : FnScope N ps d.scope)
    (hb : ∀ (kV doc pm : Value) (an : Option Addr) (cdv ct : Value) (us : List Value), us.length = ps.length → bindArgs (PySem.W.fnOf d.name d.qual d.params d.body d.scope .none kV doc pm an cdv ct) ⟨us, []⟩ = pure (ps.zip us))
    (len : ∀ vs H Q E, sp vs H Q E → vs.length = ps.length)
    (body : ∀ (f : Addr) (cdv : Value) (A : Around) (outer : List Env) (s : Shared) (H : Hp) (vs : List V) (Q : VK) (E : XK), Room k (A.deeper (envOfC d.qual d.scope s.heap.objs.size f cdv)) → sp vs H Q E →
      ∃ t, PSs (cxOf CX0 P w K mg base N d.qual d.scope f cdv A outer s H E).nox d.body t ∧ t { nx := fun _ H' => Q .non H', rt := Q } (start N vs) H) : Cal P w K mg base x (k + 1) ps sp := by
  obtain ⟨f, fd, F, hm⟩ := h.ex
  refine ⟨f, fd, F.ok S len (fun cdv A outer s H vs Q E hr hsp => ?_), hm, F.kp, F.bindsN hb⟩
  obtain ⟨t, h1, h2⟩ := body f cdv A outer s H vs Q E hr hsp
  exact ⟨t, h1.nox, h2⟩
/-- a method (or an __init__) of a class of the top -/
structure HasM (K : PySem.W.Frag) (C : Addr) (d : He.DefD) : Prop where
  ex : ∃ fd, FunD K d.name d.qual d.params d.body d.scope [] [] (He.ma K C d.name) fd
structure CalM (P : Program) (w : World) (K : PySem.W.Frag) (mg : Str → Option Value) (base : Heap) (f : Addr) (k : Nat) (ps : List Str) (sp : Sp) : Prop where
  ex : ∃ fd, FnOk P w K mg base CX0 k f fd ps sp ∧ Binds K fd ps []
theorem HasM.cal {C : Addr} (h : HasM K C d) (S : FnScope N ps d.scope)
    (hb : ∀ (kV doc pm : Value) (an : Option Addr) (cdv ct : Value) (us : List Value), us.length = ps.length → bindArgs (PySem.W.fnOf d.name d.qual d.params d.body d.scope .none kV doc pm an cdv ct) ⟨us, []⟩ = pure (ps.zip us))
    (len : ∀ vs H Q E, sp vs H Q E → vs.length = ps.length)
    (body : ∀ (f : Addr) (cdv : Value) (A : Around) (outer : List Env) (s : Shared) (H : Hp) (vs : List V) (Q : VK) (E : XK), Room k (A.deeper (envOfC d.qual d.scope s.heap.objs.size f cdv)) → sp vs H Q E →
      ∃ t, PSs (cxOf CX0 P w K mg base N d.qual d.scope f cdv A outer s H E).nox d.body t ∧ t { nx := fun _ H' => Q .non H', rt := Q } (start N vs) H) : CalM P w K mg base (He.ma K C d.name) (k + 1) ps sp := by
  obtain ⟨fd, F⟩ := h.ex
  refine ⟨fd, F.ok S len (fun cdv A outer s H vs Q E hr hsp => ?_), F.bindsN hb⟩
  obtain ⟨t, h1, h2⟩ := body (He.ma K C d.name) cdv A outer s H vs Q E hr hsp
  exact ⟨t, h1.nox, h2⟩
end
end Mw
/-! Rows and works as data. -/
namespace Mw
open PySem PySem.Spec PyProof.Rows L2
inductive Row where
  | mesh (o u v : Nat)
  | crush (t : Nat)
  | bin (b : Nat)
  deriving DecidableEq
def Row.tag : Row → Str
  | .mesh _ _ _ => "mesh"
  | .crush _ => "crush"
  | .bin _ => "bin"
def Row.args : Row → List Nat
  | .mesh o u v => [o, u, v]
  | .crush t => [t]
  | .bin b => [b]
def Row.vs (r : Row) : List V := .str r.tag :: r.args.map fun n : Nat => V.int (n : Int)
instance : Rep Row := ⟨fun _ G v r => ∃ a, v = .ref a ∧ G a = some (.tup r.vs), fun s ⟨a, h1, h2⟩ => ⟨a, h1, s _ _ h2⟩⟩
structure Wd where
  p : Nat
  rows : List Row
def Wd.fs (wd : Wd) (q : Addr) : List (Str × V) := [("parts", .int (wd.p : Int)), ("rows", .ref q)]
instance : Rep Wd := ⟨fun K G v wd => ∃ a dx q, v = .ref a ∧ G a = some (.ins (CW K) dx (wd.fs q)) ∧ rp K G (.ref q) wd.rows, fun s ⟨a, dx, q, h1, h2, h3⟩ => ⟨a, dx, q, h1, s _ _ h2, Rep.mono s h3⟩⟩
section
variable {K : PySem.W.Frag} {mg : Str → Option Value} {base : Heap} {σ : L2.St} {G G' H : Hp} {ta tb tc te : TE} {α : Type} [Rep α] {x : α} {v : V}
theorem ev_nN {i : Int} {n : Nat} (h : Ev K te σ G i) (e : i = (n : Int)) : Ev K te σ G n := by
  subst e
  exact h
theorem ev_nI {n : Nat} (h : Ev K te σ G n) : Ev K te σ G (n : Int) := h
theorem ev_addN {a b : Nat} (ha : Ev K ta σ G a) (hb : Ev K tb σ G b) : Ev K (tOp (rI0 fun i j => .int (i + j)) ta tb) σ G (a + b) := ev_nN (ev_add ha hb) (by omega)
theorem ev_subN {a b : Nat} (ha : Ev K ta σ G a) (hb : Ev K tb σ G b) (h : b ≤ a) : Ev K (tOp (rI0 fun i j => .int (i - j)) ta tb) σ G (a - b) := ev_nN (ev_sub ha hb) (by omega)
theorem ev_mulN {a b : Nat} (ha : Ev K ta σ G a) (hb : Ev K tb σ G b) (h : CMul a b) : Ev K (tOp (rI CMul fun i j => .int (i * j)) ta tb) σ G (a * b) := ev_nN (ev_mul ha hb h) (by rw [Int.natCast_mul])
theorem ev_divN {a b : Nat} (ha : Ev K ta σ G a) (hb : Ev K tb σ G b) (h : 0 < b) (h1 : b < 1073741824) : Ev K (tOp (rI CDiv fun i j => .int (i / j)) ta tb) σ G (a / b) := ev_nN (ev_div ha hb (by omega) (by omega)) (by rw [Int.natCast_ediv])
theorem ev_modN {a b : Nat} (ha : Ev K ta σ G a) (hb : Ev K tb σ G b) (h : 0 < b) : Ev K (tOp (rI (fun _ j => 0 < j) fun i j => .int (i % j)) ta tb) σ G (a % b) := ev_nN (ev_mod ha hb (by omega)) (by rw [Int.natCast_emod])
theorem dec_lt {a b : Nat} : decide ((a : Int) < (b : Int)) = decide (a < b) := by
  by_cases h : a < b
  · rw [decide_eq_true h, decide_eq_true (by omega)]
  · rw [decide_eq_false h, decide_eq_false (by omega)]
theorem dec_le {a b : Nat} : decide ((a : Int) ≤ (b : Int)) = decide (a ≤ b) := by
  by_cases h : a ≤ b
  · rw [decide_eq_true h, decide_eq_true (by omega)]
  · rw [decide_eq_false h, decide_eq_false (by omega)]
theorem dec_eq {a b : Nat} : decide ((a : Int) = (b : Int)) = decide (a = b) := by
  by_cases h : a = b
  · rw [decide_eq_true h, decide_eq_true (by omega)]
  · rw [decide_eq_false h, decide_eq_false (by omega)]
theorem ev_ltN {a b : Nat} (ha : Ev K ta σ G a) (hb : Ev K tb σ G b) : Ev K (tOp (rI0 fun i j => .bl (decide (i < j))) ta tb) σ G (decide (a < b)) := ev_as (ev_lt ha hb) dec_lt
theorem ev_leN {a b : Nat} (ha : Ev K ta σ G a) (hb : Ev K tb σ G b) : Ev K (tOp (rI0 fun i j => .bl (decide (i ≤ j))) ta tb) σ G (decide (a ≤ b)) := ev_as (ev_le ha hb) dec_le
theorem ev_gtN {a b : Nat} (ha : Ev K ta σ G a) (hb : Ev K tb σ G b) : Ev K (tOp (rI0 fun i j => .bl (decide (j < i))) ta tb) σ G (decide (b < a)) := ev_as (ev_gt ha hb) dec_lt
theorem ev_geN {a b : Nat} (ha : Ev K ta σ G a) (hb : Ev K tb σ G b) : Ev K (tOp (rI0 fun i j => .bl (decide (j ≤ i))) ta tb) σ G (decide (b ≤ a)) := ev_as (ev_ge ha hb) dec_le
theorem ev_eqN {a b : Nat} (ha : Ev K ta σ G a) (hb : Ev K tb σ G b) : Ev K (tOp rEq ta tb) σ G (decide (a = b)) := ev_as (ev_eq ha hb) dec_eq
theorem ev_neN {a b : Nat} (ha : Ev K ta σ G a) (hb : Ev K tb σ G b) : Ev K (tOp rNe ta tb) σ G (!decide (a = b)) := ev_as (ev_ne ha hb) (by rw [dec_eq])
theorem cmul_of {i j : Int} (h : 0 ≤ i ∧ i < 2 ^ 62) : CMul i j := .inl ⟨by omega, by omega⟩
/-! ### a row's places -/
theorem ev_tag {r : Row} (ha : Ev K ta σ G r) : Ev K (tOp (rIxT K) ta (tC (.int 0))) σ G r.tag :=
  ev_op ha ev_i fun v w G1 H1 Q _ s ⟨a, e1, e2⟩ e5 q => ⟨a, r.vs, 0, .str r.tag, e1, e5, SqT.of (s _ _ e2), atI_nat (j := 0) rfl, q _ G1 H1 (Stp.refl s) rfl⟩
theorem ev_arg {r : Row} {i : Int} {k n : Nat} (ha : Ev K ta σ G r) (hb : Ev K tb σ G i) (e : i = ((k + 1 : Nat) : Int)) (h : r.args[k]? = some n) : Ev K (tOp (rIxT K) ta tb) σ G n :=
  ev_op ha hb fun v w G1 H1 Q _ s ⟨a, e1, e2⟩ e5 q => ⟨a, r.vs, i, .int (n : Int), e1, e5, SqT.of (s _ _ e2), by
    rw [e]
    refine atI_nat ?_
    show (r.args.map fun n : Nat => V.int (n : Int))[k]? = _
    rw [List.getElem?_map, h] <;> rfl, q _ G1 H1 (Stp.refl s) rfl⟩
theorem ev_lenR {r : Row} (ha : Ev K ta σ G r) : Ev K (tCB (rLn K) (tCons ta tNil)) σ G (r.args.length + 1) := fun G1 H1 a b Q q => ha G1 H1 a b _ fun v G2 H2 s ⟨p, e1, e2⟩ =>
  ⟨p, r.vs, by rw [e1], .inr (SqT.of (s.gh _ _ e2)), q _ G2 H2 s (by
    show V.int (((V.str r.tag :: r.args.map fun n : Nat => V.int (n : Int)).length : Nat) : Int) = _
    rw [List.length_cons, List.length_map])⟩
def Row.isM : Row → Bool
  | .mesh _ _ _ => true
  | _ => false
def Row.isC : Row → Bool
  | .crush _ => true
  | _ => false
def Row.isB : Row → Bool
  | .bin _ => true
  | _ => false
theorem tag_M : ∀ r : Row, decide (r.tag = "mesh") = r.isM
  | .mesh _ _ _ => (by decide +kernel : decide ((Str.ofString "mesh") = Str.ofString "mesh") = true)
  | .crush _ => (by decide +kernel : decide ((Str.ofString "crush") = Str.ofString "mesh") = false)
  | .bin _ => (by decide +kernel : decide ((Str.ofString "bin") = Str.ofString "mesh") = false)
theorem tag_C : ∀ r : Row, decide (r.tag = "crush") = r.isC
  | .mesh _ _ _ => (by decide +kernel : decide ((Str.ofString "mesh") = Str.ofString "crush") = false)
  | .crush _ => (by decide +kernel : decide ((Str.ofString "crush") = Str.ofString "crush") = true)
  | .bin _ => (by decide +kernel : decide ((Str.ofString "bin") = Str.ofString "crush") = false)
theorem tag_B : ∀ r : Row, decide (r.tag = "bin") = r.isB
  | .mesh _ _ _ => (by decide +kernel : decide ((Str.ofString "mesh") = Str.ofString "bin") = false)
  | .crush _ => (by decide +kernel : decide ((Str.ofString "crush") = Str.ofString "bin") = false)
  | .bin _ => (by decide +kernel : decide ((Str.ofString "bin") = Str.ofString "bin") = true)
theorem ev_isM {r : Row} (ha : Ev K ta σ G r) : Ev K (tOp rEq (tOp (rIxT K) ta (tC (.int 0))) (tC (.str "mesh"))) σ G r.isM := ev_as (ev_eqS (ev_tag ha) ev_s) (tag_M r)
theorem ev_isC {r : Row} (ha : Ev K ta σ G r) : Ev K (tOp rEq (tOp (rIxT K) ta (tC (.int 0))) (tC (.str "crush"))) σ G r.isC := ev_as (ev_eqS (ev_tag ha) ev_s) (tag_C r)
theorem ev_isB {r : Row} (ha : Ev K ta σ G r) : Ev K (tOp rEq (tOp (rIxT K) ta (tC (.int 0))) (tC (.str "bin"))) σ G r.isB := ev_as (ev_eqS (ev_tag ha) ev_s) (tag_B r)
/-- a row of a kind -/
theorem ev_m1 {o u w : Nat} (ha : Ev K ta σ G (Row.mesh o u w)) : Ev K (tOp (rIxT K) ta (tC (.int 1))) σ G o := ev_arg (k := 0) ha ev_i rfl rfl
theorem ev_m2 {o u w : Nat} (ha : Ev K ta σ G (Row.mesh o u w)) : Ev K (tOp (rIxT K) ta (tC (.int 2))) σ G u := ev_arg (k := 1) ha ev_i rfl rfl
theorem ev_m3 {o u w : Nat} (ha : Ev K ta σ G (Row.mesh o u w)) : Ev K (tOp (rIxT K) ta (tC (.int 3))) σ G w := ev_arg (k := 2) ha ev_i rfl rfl
theorem ev_c1 {t : Nat} (ha : Ev K ta σ G (Row.crush t)) : Ev K (tOp (rIxT K) ta (tC (.int 1))) σ G t := ev_arg (k := 0) ha ev_i rfl rfl
theorem ev_b1 {t : Nat} (ha : Ev K ta σ G (Row.bin t)) : Ev K (tOp (rIxT K) ta (tC (.int 1))) σ G t := ev_arg (k := 0) ha ev_i rfl rfl
/-- a row displayed -/
theorem ev_mkM {o u w : Nat} {td : TE} (h1 : Ev K ta σ G o) (h2 : Ev K tb σ G u) (h3 : Ev K tc σ G w) : Ev K (tTup (tCons (tC (.str "mesh")) (tCons ta (tCons tb (tCons tc tNil))))) σ G (Row.mesh o u w) := fun G1 H1 a b Q q =>
  h1 G1 H1 a b _ fun v1 G2 H2 s1 r1 => h2 G2 H2 (a.trans s1.gg) s1.gh _ fun v2 G3 H3 s2 r2 => h3 G3 H3 ((a.trans s1.gg).trans s2.gg) s2.gh _ fun v3 G4 H4 s3 r3 => ⟨sz_of (by show 4 ≤ 100000; decide), fun p hp =>
    q (.ref p) _ _ (((s1.trans s2).trans s3).trans (Stp.new s3.gh hp)) ⟨p, rfl, by rw [upd_same, show v1 = _ from r1, show v2 = _ from r2, show v3 = _ from r3]; rfl⟩⟩
theorem ev_mkC {t : Nat} (h1 : Ev K ta σ G t) : Ev K (tTup (tCons (tC (.str "crush")) (tCons ta tNil))) σ G (Row.crush t) := fun G1 H1 a b Q q =>
  h1 G1 H1 a b _ fun v1 G2 H2 s1 r1 => ⟨sz_of (by show 2 ≤ 100000; decide), fun p hp => q (.ref p) _ _ (s1.trans (Stp.new s1.gh hp)) ⟨p, rfl, by rw [upd_same, show v1 = _ from r1]; rfl⟩⟩
theorem ev_mkB {t : Nat} (h1 : Ev K ta σ G t) : Ev K (tTup (tCons (tC (.str "bin")) (tCons ta tNil))) σ G (Row.bin t) := fun G1 H1 a b Q q =>
  h1 G1 H1 a b _ fun v1 G2 H2 s1 r1 => ⟨sz_of (by show 2 ≤ 100000; decide), fun p hp => q (.ref p) _ _ (s1.trans (Stp.new s1.gh hp)) ⟨p, rfl, by rw [upd_same, show v1 = _ from r1]; rfl⟩⟩
/-! ### a works's fields -/
theorem ev_parts {wd : Wd} (T : Tx K mg base) (ha : Ev K ta σ G wd) : Ev K (tFld K ta "parts") σ G wd.p := fun G1 H1 a b Q q => ha G1 H1 a b _ fun v G2 H2 s ⟨p, dx, r, e1, e2, e3⟩ =>
  ⟨p, CW K, dx, _, _, e1, s.gh _ _ e2, T.clW, T.nW_parts, rfl, q _ G2 H2 s rfl⟩
theorem ev_rows {wd : Wd} (T : Tx K mg base) (ha : Ev K ta σ G wd) : Ev K (tFld K ta "rows") σ G wd.rows := fun G1 H1 a b Q q => ha G1 H1 a b _ fun v G2 H2 s ⟨p, dx, r, e1, e2, e3⟩ =>
  ⟨p, CW K, dx, _, _, e1, s.gh _ _ e2, T.clW, T.nW_rows, rfl, q _ G2 H2 s e3⟩
theorem ev_row {wd : Wd} {n : Nat} {r : Row} (T : Tx K mg base) (ha : Ev K ta σ G wd) (hb : Ev K tb σ G n) (h : wd.rows[n]? = some r) : Ev K (tOp (rIxL K) (tFld K ta "rows") tb) σ G r := ev_ixN (ev_rows T ha) hb rfl h
end
/-! ### an instance of one's own, its fields written -/
section
variable {K : PySem.W.Frag} {σ : L2.St} {G H : Hp} {te : TE} {α : Type} [Rep α] {x : α} {D : Ends} {tz : TS} {f : Str}
theorem s_fld {i : Nat} {p C dx : Addr} {fs : List (Str × V)} (hi : σ[i]? = some (some (.ref p))) (gp : G p = none) (hp : H p = some (.ins C dx fs)) (c : Cls K C) (n : NoAttr K C f) (hl : fs.length < 1000) (gh : Same G H) (h : Ev K te σ G x)
    (k : ∀ v G2 H2, Stp K G H G2 H2 → rp K G2 v x → H2 p = some (.ins C dx fs) → G2 p = none → D.nx σ (upd H2 p (.ins C dx (putF f v fs)))) : sFld K (tVar i) te f D σ H :=
  h G H (Same.refl G) gh _ fun v G2 H2 s r => by
    obtain ⟨e1, e2⟩ := s.own gp hp (fun _ z => by cases z)
    exact ⟨.ref p, hi, p, C, dx, fs, rfl, e2, c, n, hl, k v G2 H2 s r e2 e1⟩
theorem q_fld {i : Nat} {p C dx : Addr} {fs : List (Str × V)} (hi : σ[i]? = some (some (.ref p))) (gp : G p = none) (hp : H p = some (.ins C dx fs)) (c : Cls K C) (n : NoAttr K C f) (hl : fs.length < 1000) (gh : Same G H) (h : Ev K te σ G x)
    (k : ∀ v G2 H2, Stp K G H G2 H2 → rp K G2 v x → H2 p = some (.ins C dx fs) → G2 p = none → tz D σ (upd H2 p (.ins C dx (putF f v fs)))) : tSeq (sFld K (tVar i) te f) tz D σ H := s_fld (D := { D with nx := tz D }) hi gp hp c n hl gh h k
end
/-! ### the making of a works -/
/-- rows that are rows of a works of n rows -/
def okR (n : Nat) : Row → Prop
  | .mesh o u v => 1 ≤ o ∧ o ≤ 20 ∧ u < n ∧ v < n
  | .crush t => t < n
  | .bin b => b ≤ 5
def spWInit (K : PySem.W.Frag) : Sp := fun vs H Q _ => ∃ G H0 x dx v2 v3, ∃ (p : Nat) (rows : List Row), vs = [.ref x, v2, v3] ∧ Same G H0 ∧ H0 x = none ∧ H0 dx = none ∧ dx ≠ x ∧ H = upd (upd H0 dx (.own x)) x (.ins (CW K) dx []) ∧ rp K G v2 p ∧ rp K G v3 rows ∧
  (2 ≤ p ∧ p ≤ 9 ∧ 1 ≤ rows.length ∧ rows.length ≤ 12 ∧ ∀ r ∈ rows, okR rows.length r) ∧ ∀ G' H', Stp K G H0 G' H' → rp K G' (.ref x) (⟨p, rows⟩ : Wd) → Q .non H'
section
variable {K : PySem.W.Frag} {σ : L2.St} {G : Hp} {ta tb : TE}
theorem ev_works {E : XK} {p : Nat} {rows : List Row} (h1 : Ev K ta σ G p) (h2 : Ev K tb σ G rows) (hp : 2 ≤ p ∧ p ≤ 9 ∧ 1 ≤ rows.length ∧ rows.length ≤ 12 ∧ ∀ r ∈ rows, okR rows.length r) :
    Ev K (tMake (CW K) (spWInit K) [] E (tCons ta (tCons tb tNil))) σ G (⟨p, rows⟩ : Wd) := fun G1 H1 a b Q q =>
  h1 G1 H1 a b _ fun v G2 H2 s r => h2 G2 H2 (a.trans s.gg) s.gh _ fun v2 G3 H3 s2 r2 => fun x dx nx nd ne =>
    ⟨G3, H3, x, dx, v, v2, p, rows, rfl, s2.gh, nx, nd, ne, rfl, Rep.mono s2.gg r, r2, hp, fun G' H' s' r' => ⟨rfl, q (.ref x) G' H' ((s.trans s2).trans s') r'⟩⟩
end
/-! ### pieces, steps -/
def pieces (s p : Nat) : List (Nat × Nat) := fm [(s / p, p - s % p), (s / p + 1, s % p)] (fun x => decide (0 < x.1 * x.2)) fun x => x
def goesR (r : Row) (p s : Nat) : List (T3 Nat Nat Nat) := match r with
  | .mesh o u v => [⟨if s ≤ o then u else v, s, 1⟩]
  | .crush t => (pieces s p).map fun x => ⟨t, x.1, x.2⟩
  | .bin _ => []
def goes (wd : Wd) (row s : Nat) : List (T3 Nat Nat Nat) := match wd.rows[row]? with
  | some r => goesR r wd.p s
  | none => []
theorem goes_at {wd : Wd} {row s : Nat} {r : Row} (h : wd.rows[row]? = some r) : goes wd row s = goesR r wd.p s := by
  unfold goes
  rw [h]
theorem goesR_le {o u v p s : Nat} (h : s ≤ o) : goesR (.mesh o u v) p s = [⟨u, s, 1⟩] := by
  show [(⟨if s ≤ o then u else v, s, 1⟩ : T3 Nat Nat Nat)] = _
  rw [if_pos h]
theorem goesR_gt {o u v p s : Nat} (h : ¬ s ≤ o) : goesR (.mesh o u v) p s = [⟨v, s, 1⟩] := by
  show [(⟨if s ≤ o then u else v, s, 1⟩ : T3 Nat Nat Nat)] = _
  rw [if_neg h]
end Mw
/-! == of data; while; promises that only say what holds. -/
namespace Mw
open PySem PySem.Spec PyProof.Rows L2
theorem shaped_ints (ns : List Int) : SeqAt.shaped (.list (ns.map PyData.int)) = true := by
  have h : ∀ ns : List Int, PyData.canLayAll0 (ns.map PyData.int) = true ∧ PyData.depthAll (ns.map PyData.int) = 0 := fun ns => by
    induction ns with
    | nil => exact ⟨by simp [PyData.canLayAll0], by simp [PyData.depthAll]⟩
    | cons n ns ih => exact ⟨by simp [PyData.canLayAll0, PyData.canLay0, ih.1], by simp [PyData.depthAll, PyData.depth, ih.2]⟩
  obtain ⟨h1, h2⟩ := h ns
  unfold SeqAt.shaped
  simp [PyData.canLay0, PyData.depth, h1, h2]
theorem dpAll_ints {K : PySem.W.Frag} {G : Hp} : ∀ ns : List Int, DpAll K G (ns.map V.int) (ns.map PyData.int)
  | [] => .nil
  | n :: ns => .cons (.int n) (dpAll_ints ns)
theorem eqv_ints : ∀ ns ms : List Int, PyData.eqvAll (ns.map PyData.int) (ms.map PyData.int) = decide (ns = ms)
  | [], [] => by simp [PyData.eqvAll]
  | [], _ :: _ => by simp [PyData.eqvAll]
  | _ :: _, [] => by simp [PyData.eqvAll]
  | n :: ns, m :: ms => by
    have ih := eqv_ints ns ms
    simp [PyData.eqvAll, PyData.eqv, ih, Bool.beq_eq_decide_eq]
instance : Dat (List Int) := ⟨fun ns => .list (ns.map PyData.int), shaped_ints, fun ⟨a, xs, h1, h2, h3⟩ => by
  rw [h1]
  rw [ints_of h3] at h2
  exact .lst (SqL.of h2) (dpAll_ints _)⟩
instance : Dat (List Nat) := ⟨fun ns => .list ((ns.map fun n : Nat => (n : Int)).map PyData.int), fun ns => shaped_ints _, fun h => Dat.dp (α := List Int) (rp_nat_int h)⟩
theorem dpAll_nats {K : PySem.W.Frag} {G : Hp} : ∀ ns : List Nat, DpAll K G (ns.map fun n : Nat => V.int (n : Int)) (ns.map fun n : Nat => PyData.int (n : Int))
  | [] => .nil
  | n :: ns => .cons (.int n) (dpAll_nats ns)
def rowD (r : Row) : PyData := .tuple (.str r.tag :: r.args.map fun n : Nat => PyData.int (n : Int))
theorem shaped_row : ∀ r : Row, SeqAt.shaped (rowD r) = true
  | .mesh o u v => (by
    have h : PyData.strOk "mesh" = true := by decide +kernel
    simp [SeqAt.shaped, rowD, Row.tag, Row.args, PyData.canLay0, PyData.canLayAll0, PyData.depth, PyData.depthAll, h])
  | .crush t => (by
    have h : PyData.strOk "crush" = true := by decide +kernel
    simp [SeqAt.shaped, rowD, Row.tag, Row.args, PyData.canLay0, PyData.canLayAll0, PyData.depth, PyData.depthAll, h])
  | .bin b => (by
    have h : PyData.strOk "bin" = true := by decide +kernel
    simp [SeqAt.shaped, rowD, Row.tag, Row.args, PyData.canLay0, PyData.canLayAll0, PyData.depth, PyData.depthAll, h])
instance : Dat Row := ⟨rowD, shaped_row, fun {K G v r} ⟨a, h1, h2⟩ => by
  rw [h1]
  exact .tup (SqT.of h2) (.cons (.str _) (dpAll_nats r.args))⟩
theorem eqv_bin (r : Row) (b : Nat) : PyData.eqv (rowD r) (rowD (.bin b)) = decide (r = .bin b) := by
  cases r with
  | mesh o u v =>
    have h : (Str.ofString "mesh" == Str.ofString "bin") = false := by decide +kernel
    simp [rowD, Row.tag, Row.args, PyData.eqv, PyData.eqvAll, h]
  | crush t =>
    have h : (Str.ofString "crush" == Str.ofString "bin") = false := by decide +kernel
    simp [rowD, Row.tag, Row.args, PyData.eqv, PyData.eqvAll, h]
  | bin c =>
    have h : ((c : Int) = (b : Int)) = (c = b) := by
      apply propext
      omega
    simp [rowD, Row.tag, Row.args, PyData.eqv, PyData.eqvAll, h, Bool.beq_eq_decide_eq]
section
variable {K : PySem.W.Frag} {σ : L2.St} {G G' H : Hp} {ta tb tc te : TE} {t u : TT} {α β γ δ ε : Type} [Rep α] [Rep β] [Rep γ] [Rep δ] [Rep ε] {x : α} {y : β} {z : γ} {v : V} {D : Ends} {tu tw tz : TS} {g : TG}
theorem ev_eqD [Dat α] [Dat β] (ha : Ev K ta σ G x) (hb : Ev K tb σ G y) : Ev K (tOp (rEqD K) ta tb) σ G (PyData.eqv (Dat.d x) (Dat.d y)) :=
  ev_op ha hb fun v w G1 H1 Q _ s r1 r2 q => ⟨_, _, Dat.dp (Rep.mono s r1), Dat.dp (Rep.mono s r2), Dat.sh x, Dat.sh y, q _ G1 H1 (Stp.refl s) rfl⟩
theorem ev_neD [Dat α] [Dat β] (ha : Ev K ta σ G x) (hb : Ev K tb σ G y) : Ev K (tOp (rNeD K) ta tb) σ G (!PyData.eqv (Dat.d x) (Dat.d y)) :=
  ev_op ha hb fun v w G1 H1 Q _ s r1 r2 q => ⟨_, _, Dat.dp (Rep.mono s r1), Dat.dp (Rep.mono s r2), Dat.sh x, Dat.sh y, q _ G1 H1 (Stp.refl s) rfl⟩
theorem ev_eqL {ns ms : List Int} (ha : Ev K ta σ G ns) (hb : Ev K tb σ G ms) : Ev K (tOp (rEqD K) ta tb) σ G (decide (ns = ms)) := ev_as (ev_eqD ha hb) (by
  show PyData.eqv (.list (ns.map PyData.int)) (.list (ms.map PyData.int)) = _
  rw [← eqv_ints]
  simp [PyData.eqv])
theorem ev_neL {ns ms : List Int} (ha : Ev K ta σ G ns) (hb : Ev K tb σ G ms) : Ev K (tOp (rNeD K) ta tb) σ G (!decide (ns = ms)) := ev_as (ev_neD ha hb) (by
  show (!PyData.eqv (.list (ns.map PyData.int)) (.list (ms.map PyData.int))) = _
  rw [← eqv_ints]
  simp [PyData.eqv])
theorem ev_eqBin {r : Row} {b : Nat} (ha : Ev K ta σ G r) (hb : Ev K tb σ G (Row.bin b)) : Ev K (tOp (rEqD K) ta tb) σ G (decide (r = .bin b)) := ev_as (ev_eqD ha hb) (eqv_bin r b)
/-! ### one's own things read as if frozen -/
theorem Stp.thaw {G2 H2 : Hp} (gh : Same G H) (s : Stp K H H G2 H2) : Stp K G H G H2 := ⟨Same.refl G, gh.trans (s.gg.trans s.gh), s.hh, fun _ h => .inl h⟩
theorem Stp.keep {G2 H2 : Hp} (s : Stp K H H G2 H2) : Same H H2 := s.gg.trans s.gh
theorem q_setW {i : Nat} {l : List α} (gh : Same G H) (h : EvW K te σ G l) (k : ∀ L vs G2 H2, Stp K G H G2 H2 → H L = none → G2 L = none → H2 L = some (.lst vs) → All2 (rp K G2) vs l → tz D (σ.set i (some (.ref L))) H2) : tSeq (tAsg te (gName i)) tz D σ H :=
  h G H (Same.refl G) gh _ fun L vs G2 H2 s n g h r => k L vs G2 H2 s n g h r
/-- xs.append(a new list of numbers), xs of one's own, read while the new one is made -/
theorem s_appT {i : Nat} {l : Addr} {xs : List V} {m : List Nat} (hi : σ[i]? = some (some (.ref l))) (gl : G l = none) (hl : H l = some (.lst xs)) (hz : xs.length < 100000) (gh : Same G H) (h : EvW K te σ H m)
    (k : ∀ v G2 H2, Stp K G H G2 H2 → rp K G2 v m → H2 l = some (.lst xs) → G2 l = none → D.nx σ (upd H2 l (.lst (xs ++ [v])))) : tDrop (tBM K "list" rAppend (tVar i) (tCons te tNil)) D σ H :=
  ⟨.ref l, hi, .inl ⟨rfl, xs, SqL.of hl⟩, h H H (Same.refl H) (Same.refl H) _ fun L vs G2 H2 s n g h r => by
    have s1 : Stp K G H G H2 := s.thaw gh
    have e2 : H2 l = some (.lst xs) := s.keep _ _ hl
    have nl : L ≠ l := fun z => by
      rw [z, hl] at n
      cases n
    have ev : vs = (m.map fun n : Nat => (n : Int)).map V.int := nats_of r
    refine ⟨l, xs, .ref L, rfl, rfl, e2, sz_lt hz, k (.ref L) _ H2 (s1.frz n (gh.free n) h) ⟨L, vs, rfl, upd_same, ?_⟩ e2 (by rw [upd_ne nl.symm]; exact gl)⟩
    rw [ev]
    have all : ∀ (G' : Hp) (l : List Nat), All2 (rp K G') ((l.map fun n : Nat => (n : Int)).map V.int) l := fun G' l => by
      induction l with
      | nil => exact .nil
      | cons a l ih => exact .cons rfl ih
    exact all _ m⟩
/-! ### while -/
theorem s_while (W : Nat → L2.St → Hp → Prop) (m0 : Nat) (h0 : W m0 σ H)
    (hs : ∀ m σ' H', W m σ' H' → ∃ G' b, Same G' H' ∧ ET K t σ' G' b ∧ (b = true → ∀ G2 H2, Stp K G' H' G2 H2 → tu { D with nx := fun σ2 H2 => ∃ m', m' < m ∧ W m' σ2 H2, ct := fun σ2 H2 => ∃ m', m' < m ∧ W m' σ2 H2, bk := D.nx } σ' H2) ∧
      (b = false → ∀ G2 H2, Stp K G' H' G2 H2 → D.nx σ' H2)) : tWhile t tu D σ H :=
  ⟨W, ⟨m0, h0⟩, fun m σ' H' w => by
    obtain ⟨G', b, gh, ht, h1, h2⟩ := hs m σ' H' w
    refine ht G' H' (Same.refl G') gh _ fun G2 H2 s => ?_
    cases b with
    | true =>
      rw [if_pos rfl]
      exact ⟨_, fun σ2 H2 n => n, h1 rfl G2 H2 s⟩
    | false =>
      rw [if_neg (by decide)]
      exact h2 rfl G2 H2 s⟩
theorem q_while (W : Nat → L2.St → Hp → Prop) (m0 : Nat) (h0 : W m0 σ H)
    (hs : ∀ m σ' H', W m σ' H' → ∃ G' b, Same G' H' ∧ ET K t σ' G' b ∧ (b = true → ∀ G2 H2, Stp K G' H' G2 H2 → tu { D with nx := fun σ2 H2 => ∃ m', m' < m ∧ W m' σ2 H2, ct := fun σ2 H2 => ∃ m', m' < m ∧ W m' σ2 H2, bk := tz D } σ' H2) ∧
      (b = false → ∀ G2 H2, Stp K G' H' G2 H2 → tz D σ' H2)) : tSeq (tWhile t tu) tz D σ H := s_while (D := { D with nx := tz D }) W m0 h0 hs
/-! ### in a list of numbers -/
theorem flat_nats : ∀ ns : List Nat, ((ns.map fun n : Nat => (n : Int)).map V.int).all flatV = true
  | [] => rfl
  | n :: ns => by
    have ih := flat_nats ns
    show (flatV (.int (n : Int)) && _) = true
    rw [ih] <;> rfl
theorem inV_nats (n : Nat) : ∀ ns : List Nat, inV (.int (n : Int)) ((ns.map fun n : Nat => (n : Int)).map V.int) = decide (n ∈ ns)
  | [] => rfl
  | m :: ns => by
    have ih := inV_nats n ns
    show (eqV (.int (m : Int)) (.int (n : Int)) || inV (.int (n : Int)) ((ns.map fun n : Nat => (n : Int)).map V.int)) = _
    rw [ih]
    have e : eqV (.int (m : Int)) (.int (n : Int)) = decide (n = m) := by
      show ((m : Int) == (n : Int)) = _
      rw [Bool.beq_eq_decide_eq, dec_eq]
      exact decide_eq_decide.mpr ⟨fun h => h.symm, fun h => h.symm⟩
    rw [e]
    simp [List.mem_cons]
theorem ev_notIn {n : Nat} {ns : List Nat} (ha : Ev K ta σ G n) (hb : Ev K tb σ G ns) : Ev K (tOp (rIn K true) ta tb) σ G (!decide (n ∈ ns)) :=
  ev_op ha hb fun v w G1 H1 Q _ s r1 ⟨a, xs, e1, e2, e3⟩ q => by
    obtain rfl : v = .int (n : Int) := r1
    rw [nats_of e3] at e2
    refine ⟨a, _, e1, .inl (SqL.of (s _ _ e2)), rfl, flat_nats ns, ?_⟩
    rw [if_pos rfl, inV_nats]
    exact q _ G1 H1 (Stp.refl s) rfl
/-! ### promises that only say what holds -/
def spE1 (K : PySem.W.Frag) (pre : α → Prop) (R : α → β → Prop) : Sp := fun vs H Q _ => ∃ G v x, vs = [v] ∧ Same G H ∧ rp K G v x ∧ pre x ∧ ∀ w G' H' y, Stp K G H G' H' → rp K G' w y → R x y → Q w H'
def spE2 (K : PySem.W.Frag) (pre : α → β → Prop) (R : α → β → γ → Prop) : Sp := fun vs H Q _ => ∃ G v1 v2 x y, vs = [v1, v2] ∧ Same G H ∧ rp K G v1 x ∧ rp K G v2 y ∧ pre x y ∧ ∀ w G' H' z, Stp K G H G' H' → rp K G' w z → R x y z → Q w H'
def spE3 (K : PySem.W.Frag) (pre : α → β → γ → Prop) (R : α → β → γ → δ → Prop) : Sp := fun vs H Q _ => ∃ G v1 v2 v3 x y z, vs = [v1, v2, v3] ∧ Same G H ∧ rp K G v1 x ∧ rp K G v2 y ∧ rp K G v3 z ∧ pre x y z ∧ ∀ w G' H' u, Stp K G H G' H' → rp K G' w u → R x y z u → Q w H'
theorem ev_E1 {E : XK} {pre : α → Prop} {R : α → β → Prop} (h1 : Ev K ta σ G x) (hp : pre x) : EvE K (tCall (spE1 K pre R) [] E (tCons ta tNil)) σ G (R x) := fun G1 H1 a b Q q => h1 G1 H1 a b _ fun v G2 H2 s r =>
  ⟨G2, v, x, rfl, s.gh, r, hp, fun w G' H' y s' r' hy => q w G' H' y (s.trans s') r' hy⟩
theorem ev_E2 {E : XK} {pre : α → β → Prop} {R : α → β → γ → Prop} (h1 : Ev K ta σ G x) (h2 : Ev K tb σ G y) (hp : pre x y) : EvE K (tCall (spE2 K pre R) [] E (tCons ta (tCons tb tNil))) σ G (R x y) := fun G1 H1 a b Q q => h1 G1 H1 a b _ fun v G2 H2 s r =>
  h2 G2 H2 (a.trans s.gg) s.gh _ fun v2 G3 H3 s2 r2 => ⟨G3, v, v2, x, y, rfl, s2.gh, Rep.mono s2.gg r, r2, hp, fun w G' H' z s' r' hz => q w G' H' z ((s.trans s2).trans s') r' hz⟩
theorem ev_E3 {E : XK} {pre : α → β → γ → Prop} {R : α → β → γ → δ → Prop} (h1 : Ev K ta σ G x) (h2 : Ev K tb σ G y) (h3 : Ev K tc σ G z) (hp : pre x y z) : EvE K (tCall (spE3 K pre R) [] E (tCons ta (tCons tb (tCons tc tNil)))) σ G (R x y z) := fun G1 H1 a b Q q =>
  h1 G1 H1 a b _ fun v G2 H2 s r => h2 G2 H2 (a.trans s.gg) s.gh _ fun v2 G3 H3 s2 r2 => h3 G3 H3 ((a.trans s.gg).trans s2.gg) s2.gh _ fun v3 G4 H4 s3 r3 =>
    ⟨G4, v, v2, v3, x, y, z, rfl, s3.gh, Rep.mono (s2.gg.trans s3.gg) r, Rep.mono s3.gg r2, r3, hp, fun w G' H' u s' r' hu => q w G' H' u (((s.trans s2).trans s3).trans s') r' hu⟩
/-- for over a list of which one knows what holds -/
theorem s_forE {tl : TE} {P : List α → Prop} (gh : Same G H) (h : EvE K tl σ G P)
    (k : ∀ l G1 H1, Stp K G H G1 H1 → P l → (∃ vl, rp K G1 vl l) → ∃ Pv : Nat → L2.St → Hp → Prop, Pv 0 σ H1 ∧ (∀ i σ' H', Pv i σ' H' → Same G1 H') ∧
      (∀ i x v σ' H', l[i]? = some x → rp K G1 v x → Pv i σ' H' → g v σ' H' fun σ2 H2 => tu { D with nx := Pv (i + 1), ct := Pv (i + 1), bk := D.nx } σ2 H2) ∧ (∀ σ' H', Pv l.length σ' H' → D.nx σ' H')) : tFor (iList K tl) g tu D σ H := by
  refine h G H (Same.refl G) gh _ fun vl G1 H1 l s r hp => ?_
  obtain ⟨Pv, h0, hs, ht, hd⟩ := k l G1 H1 s hp ⟨vl, r⟩
  obtain ⟨a, vs, e1, e2, e3⟩ := r
  refine ⟨a, e1, ⟨vs, SqL.of (s.gh _ _ e2)⟩, for_list (xs := vs) Pv h0 (fun i σ' H' _ p => SqL.of (hs i σ' H' p _ _ e2)) (fun i v σ' H' hi p => ?_) (fun σ' H' p => hd σ' H' (by rw [← e3.len]; exact p))⟩
  obtain ⟨x, hx, rx⟩ := e3.getV hi
  exact ht i x v σ' H' hx rx p
theorem q_forE {tl : TE} {P : List α → Prop} (gh : Same G H) (h : EvE K tl σ G P)
    (k : ∀ l G1 H1, Stp K G H G1 H1 → P l → (∃ vl, rp K G1 vl l) → ∃ Pv : Nat → L2.St → Hp → Prop, Pv 0 σ H1 ∧ (∀ i σ' H', Pv i σ' H' → Same G1 H') ∧
      (∀ i x v σ' H', l[i]? = some x → rp K G1 v x → Pv i σ' H' → g v σ' H' fun σ2 H2 => tu { D with nx := Pv (i + 1), ct := Pv (i + 1), bk := tz D } σ2 H2) ∧ (∀ σ' H', Pv l.length σ' H' → tz D σ' H')) : tSeq (tFor (iList K tl) g tu) tz D σ H := s_forE (D := { D with nx := tz D }) gh h k
/-- sorted of numbers -/
theorem ev_sorted {ns : List Nat} (ha : Ev K ta σ G ns) : EvE K (tCB (rSortedI K) (tCons ta tNil)) σ G (fun ms : List Nat => ms.Perm ns ∧ ms.Pairwise (· ≤ ·)) := fun G1 H1 a b Q q => ha G1 H1 a b _ fun v G2 H2 s ⟨p, vs, e1, e2, e3⟩ => by
  rw [nats_of e3] at e2
  refine ⟨p, _, by rw [e1], SqL.of (s.gh _ _ e2), fun ns' d hp hs hd => ?_⟩
  have nn : ∀ m ∈ ns', 0 ≤ m := fun m hm => by
    obtain ⟨n, _, e⟩ := List.mem_map.mp (hp.mem_iff.mp hm)
    omega
  have em : (ns'.map Int.toNat).map (fun n : Nat => (n : Int)) = ns' := by
    rw [List.map_map]
    conv => rhs; rw [← List.map_id ns']
    exact List.map_congr_left fun m hm => by
      have := nn m hm
      show ((m.toNat : Nat) : Int) = m
      omega
  have hpm : (ns'.map Int.toNat).Perm ns := by
    have h := hp.map Int.toNat
    rw [List.map_map, show (Int.toNat ∘ fun n : Nat => (n : Int)) = id from funext fun n => Int.toNat_natCast n, List.map_id] at h
    exact h
  refine q (.ref d) _ _ (ns'.map Int.toNat) (s.trans (Stp.new s.gh hd)) ⟨d, _, rfl, upd_same, ?_⟩ ⟨hpm, ?_⟩
  · rw [← em, List.map_map, List.map_map]
    have all : ∀ (G' : Hp) (l : List Int), All2 (rp K G') (l.map (V.int ∘ (fun n : Nat => (n : Int)) ∘ Int.toNat)) (l.map Int.toNat) := fun G' l => by
      induction l with
      | nil => exact .nil
      | cons m l ih => exact .cons rfl ih
    have e := all (upd G2 d (.lst (((ns'.map Int.toNat).map (fun n : Nat => (n : Int))).map V.int))) ns'
    rw [em] at e ⊢
    exact e
  · exact (List.pairwise_map).mpr (hs.imp fun {a b} h => by omega)
end
end Mw
/-! Works: steps of whole grains, ranks, weights. Plain Lean. -/
namespace Mw
/-- where a grain goes on whole -/
def whole (wd : Wd) (row s : Nat) : Option Nat := match wd.rows[row]? with
  | some (.mesh o u v) => some (if s ≤ o then u else v)
  | some (.crush t) => if s = 1 then some t else none
  | _ => none
structure Good (wd : Wd) : Prop where
  p2 : 2 ≤ wd.p
  p9 : wd.p ≤ 9
  n1 : 1 ≤ wd.rows.length
  n12 : wd.rows.length ≤ 12
  ok : ∀ r ∈ wd.rows, okR wd.rows.length r
  rk : ∃ rho : Nat → Nat → Nat, (∀ s row, rho s row ≤ 15) ∧ ∀ s row t, 1 ≤ s → whole wd row s = some t → rho s t < rho s row
theorem whole_lt {wd : Wd} (g : Good wd) {row s t : Nat} (h : whole wd row s = some t) : t < wd.rows.length := by
  unfold whole at h
  split at h
  · rename_i o u v e
    have := g.ok _ (List.mem_of_getElem? e)
    obtain ⟨_, _, h1, h2⟩ := this
    have h := Option.some.inj h
    subst h
    split
    · exact h1
    · exact h2
  · rename_i t' e
    have := g.ok _ (List.mem_of_getElem? e)
    split at h
    · cases h
      exact this
    · cases h
  · cases h
theorem pieces_one {p : Nat} (hp : 2 ≤ p) : pieces 1 p = [(1, 1)] := by
  have h1 : 1 / p = 0 := Nat.div_eq_of_lt (by omega)
  have h2 : 1 % p = 1 := Nat.mod_eq_of_lt (by omega)
  unfold pieces fm
  rw [h1, h2]
  simp
/-- the pieces by cases -/
theorem pieces_cases {s p : Nat} (hp : 2 ≤ p) (hs : 1 ≤ s) :
    (s / p = 0 ∧ s % p = s ∧ pieces s p = [(1, s)]) ∨ (0 < s / p ∧ s % p = 0 ∧ pieces s p = [(s / p, p)]) ∨ (0 < s / p ∧ 0 < s % p ∧ pieces s p = [(s / p, p - s % p), (s / p + 1, s % p)]) := by
  have hm : s % p < p := Nat.mod_lt _ (by omega)
  by_cases hq : s / p = 0
  · have e : s % p = s := by
      have := Nat.div_add_mod s p
      rw [hq] at this
      omega
    refine .inl ⟨hq, e, ?_⟩
    unfold pieces fm
    rw [hq, e]
    have : (0 : Nat) < s := by omega
    simp [this]
  · have hq' : 0 < s / p := Nat.pos_of_ne_zero hq
    have h1 : 0 < s / p * (p - s % p) := Nat.mul_pos hq' (by omega)
    by_cases hr : s % p = 0
    · refine .inr (.inl ⟨hq', hr, ?_⟩)
      unfold pieces fm
      rw [hr] at h1 ⊢
      have h1' : 0 < s / p * p := by simpa using h1
      simp [h1', List.filter_cons]
    · have hr' : 0 < s % p := Nat.pos_of_ne_zero hr
      have h2 : 0 < (s / p + 1) * (s % p) := Nat.mul_pos (by omega) hr'
      refine .inr (.inr ⟨hq', hr', ?_⟩)
      unfold pieces fm
      simp only [List.filter_cons, decide_eq_true h1, decide_eq_true h2, if_true, List.filter_nil, List.map_cons, List.map_nil]
theorem div_lt_self' {s p : Nat} (hp : 2 ≤ p) (hs : 1 ≤ s) : s / p < s := Nat.div_lt_self (by omega) (by omega)
theorem piece_lt {s p : Nat} (hp : 2 ≤ p) (hs : 2 ≤ s) (hr : 0 < s % p) : s / p + 1 < s := by
  have h0 := Nat.div_add_mod s p
  have h1 : 2 * (s / p) ≤ p * (s / p) := Nat.mul_le_mul_right _ hp
  by_cases hq : s / p = 0
  · omega
  · omega
/-- what whole_to reads off -/
def wholeL (l : List (T3 Nat Nat Nat)) (s : Nat) : Option Nat := match l with
  | [x] => if x.b = s ∧ x.c = 1 then some x.a else none
  | _ => none
theorem whole_goes {wd : Wd} {row s : Nat} (hp : 2 ≤ wd.p) (hs : 1 ≤ s) : wholeL (goes wd row s) s = whole wd row s := by
  unfold goes whole
  cases e : wd.rows[row]? with
  | none => rfl
  | some r =>
    cases r with
    | bin b => rfl
    | mesh o u v =>
      show (if s = s ∧ 1 = 1 then some (if s ≤ o then u else v) else none) = _
      rw [if_pos ⟨rfl, rfl⟩]
    | crush t =>
      show wholeL ((pieces s wd.p).map fun x => ⟨t, x.1, x.2⟩) s = if s = 1 then some t else none
      rcases pieces_cases hp hs with ⟨h1, h2, h3⟩ | ⟨h1, h2, h3⟩ | ⟨h1, h2, h3⟩
      · rw [h3]
        show (if 1 = s ∧ s = 1 then some t else none) = _
        by_cases h : s = 1
        · rw [if_pos ⟨h.symm, h⟩, if_pos h]
        · rw [if_neg (fun z => h z.2), if_neg h]
      · rw [h3]
        have := div_lt_self' hp hs
        show (if s / wd.p = s ∧ wd.p = 1 then some t else none) = _
        rw [if_neg (fun z => by omega), if_neg (fun z => by
          rw [z] at h1
          have := Nat.div_eq_of_lt (show 1 < wd.p by omega)
          omega)]
      · rw [h3]
        show none = _
        rw [if_neg (fun z => by
          rw [z] at h1
          have := Nat.div_eq_of_lt (show 1 < wd.p by omega)
          omega)]
/-! ### the depth of a size -/
def clog (s : Nat) : Nat := if h : s ≤ 1 then 0 else clog ((s + 1) / 2) + 1
termination_by s
decreasing_by omega
theorem clog_low {s : Nat} (h : s ≤ 1) : clog s = 0 := by
  rw [clog]
  simp [h]
theorem clog_step {s : Nat} (h : 2 ≤ s) : clog s = clog ((s + 1) / 2) + 1 := by
  rw [clog]
  simp [show ¬ s ≤ 1 by omega]
theorem clog_mono : ∀ {b a : Nat}, a ≤ b → clog a ≤ clog b := by
  intro b
  induction b using Nat.strongRecOn with
  | _ b ih =>
    intro a h
    by_cases ha : a ≤ 1
    · rw [clog_low ha]
      exact Nat.zero_le _
    · rw [clog_step (s := a) (by omega), clog_step (s := b) (by omega)]
      exact Nat.succ_le_succ (ih ((b + 1) / 2) (by omega) (by omega))
theorem clog_le : ∀ (k : Nat) {s : Nat}, s ≤ 2 ^ k → clog s ≤ k
  | 0, s, h => by rw [clog_low (by simpa using h)]; exact Nat.le_refl _
  | k + 1, s, h => by
    by_cases hs : s ≤ 1
    · rw [clog_low hs]
      exact Nat.zero_le _
    · rw [clog_step (by omega)]
      exact Nat.succ_le_succ (clog_le k (by rw [Nat.pow_succ] at h; omega))
/-- a piece is less deep -/
theorem clog_piece {s p q : Nat} (hp : 2 ≤ p) (hs : 2 ≤ s) (hq : q ≤ s / p ∨ (0 < s % p ∧ q ≤ s / p + 1)) : clog q + 1 ≤ clog s := by
  rw [clog_step hs]
  refine Nat.succ_le_succ (clog_mono ?_)
  have h0 := Nat.div_add_mod s p
  have h1 : 2 * (s / p) ≤ p * (s / p) := Nat.mul_le_mul_right _ hp
  rcases hq with h | ⟨h2, h⟩
  · omega
  · omega
/-! ### weights -/
def Wf (wd : Wd) (b : Nat) : Nat → Nat → Nat → Nat
  | 0, _, _ => 0
  | f + 1, row, s => match wd.rows[row]? with
    | some (.bin k) => if k = b then s else 0
    | some (.mesh o u v) => Wf wd b f (if s ≤ o then u else v) s
    | some (.crush t) => (wd.p - s % wd.p) * Wf wd b f t (s / wd.p) + (s % wd.p) * Wf wd b f t (s / wd.p + 1)
    | none => 0
theorem Wf_bin {wd : Wd} {b f row s k : Nat} (h : wd.rows[row]? = some (.bin k)) : Wf wd b (f + 1) row s = if k = b then s else 0 := by
  rw [Wf, h]
theorem Wf_mesh {wd : Wd} {b f row s o u v : Nat} (h : wd.rows[row]? = some (.mesh o u v)) : Wf wd b (f + 1) row s = Wf wd b f (if s ≤ o then u else v) s := by
  rw [Wf, h]
theorem Wf_crush {wd : Wd} {b f row s t : Nat} (h : wd.rows[row]? = some (.crush t)) : Wf wd b (f + 1) row s = (wd.p - s % wd.p) * Wf wd b f t (s / wd.p) + (s % wd.p) * Wf wd b f t (s / wd.p + 1) := by
  rw [Wf, h]
theorem Wf_none {wd : Wd} {b f row s : Nat} (h : wd.rows[row]? = none) : Wf wd b f row s = 0 := by
  cases f with
  | zero => rfl
  | succ f => rw [Wf, h]
theorem Wf_zero {wd : Wd} {b : Nat} (hp : 2 ≤ wd.p) : ∀ f row, Wf wd b f row 0 = 0
  | 0, _ => rfl
  | f + 1, row => by
    cases e : wd.rows[row]? with
    | none => exact Wf_none e
    | some r =>
      cases r with
      | bin k =>
        rw [Wf_bin e]
        split <;> rfl
      | mesh o u v =>
        rw [Wf_mesh e]
        exact Wf_zero hp f _
      | crush t =>
        rw [Wf_crush e, Nat.zero_div, Nat.zero_mod, Wf_zero hp f t]
        simp
theorem Wf_same {wd : Wd} {b : Nat} (g : Good wd) {rho : Nat → Nat → Nat} (h15 : ∀ s row, rho s row ≤ 15) (hd : ∀ s row t, 1 ≤ s → whole wd row s = some t → rho s t < rho s row) :
    ∀ f f' row s, clog s * 16 + rho s row < f → clog s * 16 + rho s row < f' → Wf wd b f row s = Wf wd b f' row s
  | 0, _, _, _, h, _ => absurd h (Nat.not_lt_zero _)
  | _ + 1, 0, _, _, _, h => absurd h (Nat.not_lt_zero _)
  | f + 1, f' + 1, row, s, h1, h2 => by
    by_cases hs : s = 0
    · subst hs
      rw [Wf_zero g.p2, Wf_zero g.p2]
    have hs : 1 ≤ s := by omega
    cases e : wd.rows[row]? with
    | none => rw [Wf_none e, Wf_none e]
    | some r =>
      cases r with
      | bin k => rw [Wf_bin e, Wf_bin e]
      | mesh o u v =>
        rw [Wf_mesh e, Wf_mesh e]
        have hw : whole wd row s = some (if s ≤ o then u else v) := by
          unfold whole
          rw [e]
        have := hd s row _ hs hw
        exact Wf_same g h15 hd f f' _ s (by omega) (by omega)
      | crush t =>
        rw [Wf_crush e, Wf_crush e]
        by_cases h1s : s = 1
        · subst h1s
          have hw : whole wd row 1 = some t := by
            unfold whole
            rw [e]
            rfl
          have := hd 1 row _ hs hw
          have e1 : 1 / wd.p = 0 := Nat.div_eq_of_lt (by have := g.p2; omega)
          rw [e1, Wf_zero g.p2, Wf_zero g.p2, Nat.zero_add, Wf_same g h15 hd f f' t 1 (by omega) (by omega)]
        · have hp := g.p2
          have c1 := clog_piece (s := s) (p := wd.p) (q := s / wd.p) hp (by omega) (.inl (Nat.le_refl _))
          have r1 := h15 (s / wd.p) t
          rw [Wf_same g h15 hd f f' t (s / wd.p) (by omega) (by omega)]
          by_cases hr : s % wd.p = 0
          · rw [hr, Nat.zero_mul, Nat.zero_mul]
          · have c2 := clog_piece (s := s) (p := wd.p) (q := s / wd.p + 1) hp (by omega) (.inr ⟨by omega, Nat.le_refl _⟩)
            have r2 := h15 (s / wd.p + 1) t
            rw [Wf_same g h15 hd f f' t (s / wd.p + 1) (by omega) (by omega)]
/-- what comes of one grain into the bins of a number -/
def W (wd : Wd) (b row s : Nat) : Nat := Wf wd b (clog s * 16 + 17) row s
/-- a grain's own weight where it lies -/
def own (wd : Wd) (b row s : Nat) : Nat := if wd.rows[row]? = some (.bin b) then s else 0
def wsum (wd : Wd) (b : Nat) (l : List (T3 Nat Nat Nat)) : Nat := (l.map fun x => x.c * W wd b x.a x.b).sum
section
variable {wd : Wd} (g : Good wd) {b row s : Nat}
include g
theorem W_any {f : Nat} (h : clog s * 16 + 16 ≤ f) : Wf wd b f row s = W wd b row s := by
  obtain ⟨rho, h1, h2⟩ := g.rk
  have := h1 s row
  exact Wf_same g h1 h2 _ _ _ _ (by omega) (by omega)
theorem W_zero : W wd b row 0 = 0 := Wf_zero g.p2 _ _
theorem W_bin {k : Nat} (h : wd.rows[row]? = some (.bin k)) : W wd b row s = if k = b then s else 0 := Wf_bin h
theorem W_mesh {o u v : Nat} (h : wd.rows[row]? = some (.mesh o u v)) : W wd b row s = W wd b (if s ≤ o then u else v) s := by
  show Wf wd b (clog s * 16 + 16 + 1) row s = _
  rw [Wf_mesh h, W_any g (Nat.le_refl _)]
theorem W_crush {t : Nat} (h : wd.rows[row]? = some (.crush t)) : W wd b row s = (wd.p - s % wd.p) * W wd b t (s / wd.p) + (s % wd.p) * W wd b t (s / wd.p + 1) := by
  have hp := g.p2
  show Wf wd b (clog s * 16 + 16 + 1) row s = _
  rw [Wf_crush h]
  by_cases hs : s ≤ 1
  · have e1 : s / wd.p = 0 := Nat.div_eq_of_lt (by omega)
    rw [e1, W_any g (by rw [clog_low (Nat.zero_le _)]; omega), W_any g (s := 0 + 1) (by rw [clog_low (Nat.le_refl _)]; omega)]
  · have c1 := clog_piece (s := s) (p := wd.p) (q := s / wd.p) hp (by omega) (.inl (Nat.le_refl _))
    rw [W_any g (by omega)]
    by_cases hr : s % wd.p = 0
    · rw [hr, Nat.zero_mul, Nat.zero_mul]
    · have c2 := clog_piece (s := s) (p := wd.p) (q := s / wd.p + 1) hp (by omega) (.inr ⟨by omega, Nat.le_refl _⟩)
      rw [W_any g (s := s / wd.p + 1) (by omega)]
theorem W_none (h : wd.rows[row]? = none) : W wd b row s = 0 := Wf_none h
omit g in
theorem Wf_le (hp : 2 ≤ wd.p) : ∀ f row s, Wf wd b f row s ≤ s
  | 0, _, _ => Nat.zero_le _
  | f + 1, row, s => by
    cases e : wd.rows[row]? with
    | none =>
      rw [Wf_none e]
      exact Nat.zero_le _
    | some r =>
      cases r with
      | bin k =>
        rw [Wf_bin e]
        split
        · exact Nat.le_refl _
        · exact Nat.zero_le _
      | mesh o u v =>
        rw [Wf_mesh e]
        exact Wf_le hp f _ s
      | crush t =>
        rw [Wf_crush e]
        have h1 := Nat.mul_le_mul_left (wd.p - s % wd.p) (Wf_le hp f t (s / wd.p))
        have h2 := Nat.mul_le_mul_left (s % wd.p) (Wf_le hp f t (s / wd.p + 1))
        have h3 : (wd.p - s % wd.p) * (s / wd.p) + (s % wd.p) * (s / wd.p + 1) = s := by
          have hm : s % wd.p < wd.p := Nat.mod_lt _ (by omega)
          rw [Nat.mul_add, Nat.mul_one, ← Nat.add_assoc, ← Nat.add_mul, Nat.sub_add_cancel (Nat.le_of_lt hm)]
          exact Nat.div_add_mod s wd.p
        omega
theorem W_le : W wd b row s ≤ s := Wf_le g.p2 _ _ _
theorem W_goes (hs : 1 ≤ s) : W wd b row s = own wd b row s + wsum wd b (goes wd row s) := by
  cases e : wd.rows[row]? with
  | none =>
    rw [W_none g e]
    unfold own goes wsum
    rw [e]
    rfl
  | some r =>
    rw [goes_at e]
    unfold own
    rw [e]
    cases r with
    | bin k =>
      rw [W_bin g e]
      show _ = (if some (Row.bin k) = some (Row.bin b) then s else 0) + 0
      by_cases h : k = b
      · subst h
        rw [if_pos rfl, if_pos rfl] <;> rfl
      · rw [if_neg h, if_neg (fun z => h (by cases z; rfl))]
    | mesh o u v =>
      have hne : ¬ (some (Row.mesh o u v) = some (Row.bin b)) := fun z => by cases z
      rw [W_mesh g e, if_neg hne]
      show _ = 0 + (1 * W wd b (if s ≤ o then u else v) s + 0)
      omega
    | crush t =>
      have hne : ¬ (some (Row.crush t) = some (Row.bin b)) := fun z => by cases z
      rw [W_crush g e, if_neg hne]
      show _ = 0 + wsum wd b ((pieces s wd.p).map fun x => ⟨t, x.1, x.2⟩)
      rcases pieces_cases g.p2 hs with ⟨h1, h2, h3⟩ | ⟨h1, h2, h3⟩ | ⟨h1, h2, h3⟩
      · rw [h3, h1, h2, W_zero g]
        show _ = 0 + (s * W wd b t 1 + 0)
        rw [Nat.zero_add, Nat.mul_zero]
        omega
      · rw [h3, h2]
        show _ = 0 + (wd.p * W wd b t (s / wd.p) + 0)
        rw [Nat.zero_mul, Nat.sub_zero]
        omega
      · rw [h3]
        show _ = 0 + ((wd.p - s % wd.p) * W wd b t (s / wd.p) + ((s % wd.p) * W wd b t (s / wd.p + 1) + 0))
        omega
end
end Mw
namespace Mw
def Row.opening : Row → Nat
  | .mesh o _ _ => o
  | _ => 0
def opens (wd : Wd) : List Nat := fm wd.rows Row.isM Row.opening
def crushes (wd : Wd) : List Nat := fm (List.range wd.rows.length) (fun i => (wd.rows.getD i (.bin 0)).isC) fun i => i
def maxl (l : List Nat) : Nat := l.foldl max 0
def height (one other : Wd) : Nat := maxl (opens one ++ opens other)
theorem foldl_max : ∀ (l : List Nat) (a : Nat), a ≤ l.foldl max a ∧ (∀ y ∈ l, y ≤ l.foldl max a) ∧ (l.foldl max a = a ∨ l.foldl max a ∈ l)
  | [], a => ⟨Nat.le_refl _, (fun _ h => nomatch h), .inl rfl⟩
  | x :: l, a => by
    obtain ⟨h1, h2, h3⟩ := foldl_max l (max a x)
    have e : (x :: l).foldl max a = l.foldl max (max a x) := rfl
    rw [e]
    refine ⟨by omega, fun y hy => ?_, ?_⟩
    · rcases List.mem_cons.mp hy with h | h
      · subst h
        omega
      · exact h2 y h
    · rcases h3 with h | h
      · by_cases hx : x ≤ a
        · exact .inl (by rw [h]; omega)
        · exact .inr (by rw [h, show max a x = x by omega]; exact List.mem_cons_self)
      · exact .inr (List.mem_cons_of_mem _ h)
theorem maxl_le {l : List Nat} {y : Nat} (h : y ∈ l) : y ≤ maxl l := (foldl_max l 0).2.1 y h
theorem maxl_mem (l : List Nat) : maxl l ∈ 0 :: l := by
  rcases (foldl_max l 0).2.2 with h | h
  · have e : maxl l = 0 := h
    rw [e]
    exact List.mem_cons_self
  · exact List.mem_cons_of_mem _ h
theorem mem_fm {α β : Type} {l : List α} {p : α → Bool} {f : α → β} {y : β} : y ∈ fm l p f ↔ ∃ x, x ∈ l ∧ p x = true ∧ f x = y := by
  unfold fm
  rw [List.mem_map]
  constructor
  · rintro ⟨x, hx, e⟩
    obtain ⟨h1, h2⟩ := List.mem_filter.mp hx
    exact ⟨x, h1, h2, e⟩
  · rintro ⟨x, h1, h2, e⟩
    exact ⟨x, List.mem_filter.mpr ⟨h1, h2⟩, e⟩
theorem opens_of {wd : Wd} (g : Good wd) {o : Nat} (h : o ∈ opens wd) : 1 ≤ o ∧ o ≤ 20 := by
  obtain ⟨r, h1, h2, h3⟩ := mem_fm.mp h
  have := g.ok r h1
  cases r with
  | mesh o' u v =>
    cases h3
    exact ⟨this.1, this.2.1⟩
  | crush t => cases h2
  | bin b => cases h2
theorem opens_mem {wd : Wd} {row o u v : Nat} (h : wd.rows[row]? = some (.mesh o u v)) : o ∈ opens wd := mem_fm.mpr ⟨_, List.mem_of_getElem? h, rfl, rfl⟩
theorem opens_len (wd : Wd) : (opens wd).length ≤ wd.rows.length := fm_len _ _ _
theorem crushes_len (wd : Wd) : (crushes wd).length ≤ wd.rows.length := by
  have := fm_len (List.range wd.rows.length) (fun i => (wd.rows.getD i (.bin 0)).isC) fun i => i
  rw [List.length_range] at this
  exact this
theorem height_le {one other : Wd} (g1 : Good one) (g2 : Good other) : height one other ≤ 20 := by
  rcases List.mem_cons.mp (maxl_mem (opens one ++ opens other)) with h | h
  · show maxl _ ≤ 20
    omega
  · rcases List.mem_append.mp h with h | h
    · exact (opens_of g1 h).2
    · exact (opens_of g2 h).2
theorem le_height1 {one other : Wd} {row o u v : Nat} (h : one.rows[row]? = some (.mesh o u v)) : o ≤ height one other := maxl_le (List.mem_append_left _ (opens_mem h))
theorem le_height2 {one other : Wd} {row o u v : Nat} (h : other.rows[row]? = some (.mesh o u v)) : o ≤ height one other := maxl_le (List.mem_append_right _ (opens_mem h))
theorem mem_crushes {wd : Wd} {row : Nat} : row ∈ crushes wd ↔ ∃ t, wd.rows[row]? = some (.crush t) := by
  unfold crushes
  rw [mem_fm]
  constructor
  · rintro ⟨x, h1, h2, rfl⟩
    have hx : x < wd.rows.length := List.mem_range.mp h1
    rw [List.getD_eq_getElem?_getD, List.getElem?_eq_getElem hx] at h2
    cases e : wd.rows[x] with
    | crush t => exact ⟨t, by rw [List.getElem?_eq_getElem hx, e]⟩
    | mesh o u v =>
      rw [e] at h2
      cases h2
    | bin b =>
      rw [e] at h2
      cases h2
  · rintro ⟨t, e⟩
    exact ⟨row, List.mem_range.mpr (List.getElem?_eq_some_iff.mp e).1, by rw [List.getD_eq_getElem?_getD, e]; rfl, rfl⟩
end Mw
namespace Mw
open PySem PySem.Spec PyProof.Rows L2
section
variable {P : Program} {w : World} {K : PySem.W.Frag} {mg : Str → Option Value} {base : Heap}
theorem c_pieces_of (h : Has K mg "pieces_of" d_pieces_of) (T : Tx K mg base) : Cal P w K mg base "pieces_of" 1 ["size", "parts"] (sp2 K (fun s p : Nat => 0 < p ∧ p < 1000 ∧ s < 2 ^ 60) pieces) := by
  refine h.cal sc_pieces_of (fun _ _ _ _ _ _ us hl => match us, hl with | [_, _], _ => rfl) (fun vs H Q E h => ?_) (fun f cdv A outer s H vs Q E hr h => ?_)
  · obtain ⟨_, _, _, _, _, rfl, _⟩ := h
    rfl
  · obtain ⟨G, v1, v2, s, p, rfl, gh, r1, r2, ⟨h0, h1, h2⟩, q⟩ := h
    refine ⟨_, (pss_cons (ps_set (i := 2) sc_pieces_of.nd rfl (.inl rfl) (pe_lst (pa_cons (pe_tup (pa_cons (pe_op op_fdiv (pv 0) (pv 1)) (pa_cons (pe_op op_sub (pv 1) (pe_op op_mod (pv 0) (pv 1))) pa_nil))) (pa_cons (pe_tup (pa_cons (pe_op op_add (pe_op op_fdiv (pv 0) (pv 1)) pe_int) (pa_cons (pe_op op_mod (pv 0) (pv 1)) pa_nil))) pa_nil))))
      (pss_one (ps_ret (pe_lc (own := [("pair", 3)]) (g := (gName 3)) rfl sc_pieces_of.nd (pi_list (pv 2)) (blkOk_by (N := N_pieces_of) (sc := defScope s_pieces_of) (by decide +kernel)) (fun _ _ _ _ _ => (pg_name (i := 3) sc_pieces_of.nd rfl (Or.inl rfl))) (fun _ _ _ _ _ => pts_one (pt_cmpR op_gt (pe_op op_mul (pe_ix (ixT K) (pv 3) pe_int (fun _ _ => rfl)) (pe_ix (ixT K) (pv 3) pe_int (fun _ _ => rfl))) pe_int (nomark _))) (fun _ _ _ _ _ => (pv 3)))))), ?_⟩
    have hm : s % p ≤ p := Nat.le_of_lt (Nat.mod_lt _ h0)
    refine q_set (K := K) gh (ev_lst (el_cons (ev_t2 (ev_divN (ev_var r1) (ev_var r2) h0 (by omega)) (ev_subN (ev_var r2) (ev_modN (ev_var r1) (ev_var r2) h0) hm))
      (el_cons (ev_t2 (ev_addN (ev_divN (ev_var r1) (ev_var r2) h0 (by omega)) ev_n) (ev_modN (ev_var r1) (ev_var r2) h0)) el_nil)) (by simp)) fun v G2 H2 st r => ?_
    refine s_ret (K := K) st.gh (ev_lcL (fun x : Nat × Nat => decide (0 < x.1 * x.2)) (fun x => x) (ev_var r) (by simp) (fun _ => rfl) (fun i x v G1 sg hx rx => ?_) (fun i x v G1 sg hx rx hp => ev_var rx)) fun u G3 H3 s3 r3 => q u G3 H3 (st.trans s3) r3
    have hx1 : x.1 < 2 ^ 61 := by
      have hd : s / p ≤ s := Nat.div_le_self _ _
      rcases List.mem_of_getElem? hx with _ | ⟨_, _ | ⟨_, hh⟩⟩
      · show s / p < 2 ^ 61
        omega
      · show s / p + 1 < 2 ^ 61
        omega
      · cases hh
    exact et_t (ev_gtN (ev_mulN (ev_p0 (ev_var rx)) (ev_p1 (ev_var rx)) (cmul_of (by omega))) ev_n)
theorem c_goes_on (h : Has K mg "goes_on" d_goes_on) (T : Tx K mg base) (c_pieces_of : Cal P w K mg base "pieces_of" 1 ["size", "parts"] (sp2 K (fun s p : Nat => 0 < p ∧ p < 1000 ∧ s < 2 ^ 60) pieces)) :
    Cal P w K mg base "goes_on" 2 ["works", "row", "size"] (sp3 K (fun (wd : Wd) (row s : Nat) => row < wd.rows.length ∧ 0 < wd.p ∧ wd.p < 1000 ∧ s < 2 ^ 60) goes) := by
  refine h.cal sc_goes_on (fun _ _ _ _ _ _ us hl => match us, hl with | [_, _, _], _ => rfl) (fun vs H Q E h => ?_) (fun f cdv A outer s0 H vs Q E hr h => ?_)
  · obtain ⟨_, _, _, _, _, _, _, rfl, _⟩ := h
    rfl
  · obtain ⟨G, v1, v2, v3, wd, row, s, rfl, gh, r1, r2, r3, ⟨h0, h1, h2, h3⟩, q⟩ := h
    refine ⟨_, (pss_cons (ps_set (i := 3) sc_goes_on.nd rfl (.inr rfl) (pe_ix (ixL K) (fldK K (pv 0)) (pv 1) (fun _ _ => rfl)))
      (pss_cons (ps_if (pt_cmpR op_eq (pe_ix (ixT K) (pv 3) pe_int (fun _ _ => rfl)) pe_str (nomark _)) (pss_one (ps_ret (pe_lst pa_nil))) pss_nil)
      (pss_cons (ps_if (pt_cmpR op_eq (pe_ix (ixT K) (pv 3) pe_int (fun _ _ => rfl)) pe_str (nomark _)) (pss_one (ps_ret (pe_lc (own := [("piece", 4), ("many", 5)]) (g := (gTup K 2 (gCons (gName 4) (gCons (gName 5) gNil)))) (tt := tYes) rfl sc_goes_on.nd (pi_list (pe_c c_pieces_of (hr.mono (by decide)) (pa_cons (pv 2) (pa_cons (fldK K (pv 0)) pa_nil)))) (blkOk_by (N := N_goes_on) (sc := defScope s_goes_on) (by decide +kernel)) (fun _ _ _ _ _ => (pg_tup rfl (pgs_cons (pg_name (i := 4) sc_goes_on.nd rfl (Or.inl rfl)) (pgs_cons (pg_name (i := 5) sc_goes_on.nd rfl (Or.inl rfl)) pgs_nil)))) (fun _ _ _ _ _ => pts_nil) (fun _ _ _ _ _ => (pe_tup (pa_cons (pe_ix (ixT K) (pv 3) pe_int (fun _ _ => rfl)) (pa_cons (pv 4) (pa_cons (pv 5) pa_nil)))))))) pss_nil)
      (pss_cons (ps_if (pt_cmpR op_le (pv 2) (pe_ix (ixT K) (pv 3) pe_int (fun _ _ => rfl)) (nomark _)) (pss_one (ps_ret (pe_lst (pa_cons (pe_tup (pa_cons (pe_ix (ixT K) (pv 3) pe_int (fun _ _ => rfl)) (pa_cons (pv 2) (pa_cons pe_int pa_nil)))) pa_nil)))) pss_nil)
      (pss_one (ps_ret (pe_lst (pa_cons (pe_tup (pa_cons (pe_ix (ixT K) (pv 3) pe_int (fun _ _ => rfl)) (pa_cons (pv 2) (pa_cons pe_int pa_nil)))) pa_nil)))))))), ?_⟩
    have hrow := List.getElem?_eq_getElem h0
    rw [goes_at hrow] at q
    generalize wd.rows[row] = rw at hrow q
    refine q_set (K := K) gh (ev_row T (ev_var r1) (ev_var r2) hrow) fun v G2 H2 st r => ?_
    cases rw with
    | bin b =>
      refine q_when (K := K) st.gh (et_t (ev_isB (ev_var r))) (fun _ G3 H3 s3 => ?_) (fun e => by cases e)
      exact s_ret (K := K) s3.gh (ev_lst (el_nil (α := T3 Nat Nat Nat)) (by simp)) fun w G4 H4 s4 r4 => q w G4 H4 ((st.trans s3).trans s4) r4
    | crush t =>
      refine q_when (K := K) st.gh (et_t (ev_isB (ev_var r))) (fun e => by cases e) (fun _ G3 H3 s3 => ?_)
      refine q_when (K := K) s3.gh (et_t (ev_isC (ev_var (Rep.mono s3.gg r)))) (fun _ G4 H4 s4 => ?_) (fun e => by cases e)
      have s14 := (st.trans s3).trans s4
      refine s_ret (K := K) s4.gh (ev_lcP (fun _ => true) (fun x : Nat × Nat => (⟨t, x.1, x.2⟩ : T3 Nat Nat Nat)) (ev_2 (ev_var r3) (ev_parts T (ev_var (Rep.mono s14.gg r1))) ⟨h1, h2, h3⟩) ?_ (fun _ _ => rfl) (fun i x v w G1 sg hx ra rb => et_yes) (fun i x v w G1 sg hx ra rb _ => ?_)) fun w G5 H5 s5 r5 => ?_
      · exact Nat.lt_of_le_of_lt (fm_len _ _ _) (by simp)
      · exact ev_t3 (ev_c1 (ev_var (Rep.mono ((s3.gg.trans s4.gg).trans sg) r))) (ev_var ra) (ev_var rb)
      · rw [fm_yes] at r5
        exact q w G5 H5 (s14.trans s5) r5
    | mesh o u w' =>
      refine q_when (K := K) st.gh (et_t (ev_isB (ev_var r))) (fun e => by cases e) (fun _ G3 H3 s3 => ?_)
      refine q_when (K := K) s3.gh (et_t (ev_isC (ev_var (Rep.mono s3.gg r)))) (fun e => by cases e) (fun _ G4 H4 s4 => ?_)
      have rr := Rep.mono (s3.gg.trans s4.gg) r
      have s14 := (st.trans s3).trans s4
      refine q_when (K := K) s4.gh (et_t (ev_leN (ev_var r3) (ev_m1 (ev_var rr)))) (fun e G5 H5 s5 => ?_) (fun e G5 H5 s5 => ?_)
      · refine s_ret (K := K) s5.gh (ev_lst (el_cons (ev_t3 (ev_m2 (ev_var (Rep.mono s5.gg rr))) (ev_var (x := s) r3) (ev_n (n := 1))) el_nil) (by simp)) fun w G6 H6 s6 r6 => q w G6 H6 ((s14.trans s5).trans s6) ?_
        rw [goesR_le (of_decide_eq_true e)]
        exact r6
      · refine s_ret (K := K) s5.gh (ev_lst (el_cons (ev_t3 (ev_m3 (ev_var (Rep.mono s5.gg rr))) (ev_var (x := s) r3) (ev_n (n := 1))) el_nil) (by simp)) fun w G6 H6 s6 r6 => q w G6 H6 ((s14.trans s5).trans s6) ?_
        rw [goesR_gt (of_decide_eq_false e)]
        exact r6
theorem c_good_row (h : Has K mg "good_row" d_good_row) (T : Tx K mg base) : Cal P w K mg base "good_row" 1 ["row", "many"] (sp2 K (fun (r : Row) (n : Nat) => okR n r) fun _ _ => true) := by
  refine h.cal sc_good_row (fun _ _ _ _ _ _ us hl => match us, hl with | [_, _], _ => rfl) (fun vs H Q E h => ?_) (fun f cdv A outer s0 H vs Q E hr h => ?_)
  · obtain ⟨_, _, _, _, _, rfl, _⟩ := h
    rfl
  · obtain ⟨G, v1, v2, r, n, rfl, gh, r1, r2, hp, q⟩ := h
    refine ⟨_, (pss_cons (ps_if (PW.pt (pw_and (pt_cmpR op_eq (pe_callB (lenK K) (by rfl) T.b_len PySem.boot_len (pa_cons (pv 0) pa_nil)) pe_int (nomark _)) (pw_and1 (pt_cmpR op_eq (pe_ix (ixT K) (pv 0) pe_int (fun _ _ => rfl)) pe_str (nomark _))))) (pss_one (ps_ret (pe_and (pe_chain op_le op_le pe_int (pe_ix (ixT K) (pv 0) pe_int (fun _ _ => rfl)) (pe_k T.k_WIDEST_works)) (pe_and (pe_chain op_le op_lt pe_int (pe_ix (ixT K) (pv 0) pe_int (fun _ _ => rfl)) (pv 1)) (pe_one (pe_chain op_le op_lt pe_int (pe_ix (ixT K) (pv 0) pe_int (fun _ _ => rfl)) (pv 1))))))) pss_nil)
      (pss_cons (ps_if (PW.pt (pw_and (pt_cmpR op_eq (pe_callB (lenK K) (by rfl) T.b_len PySem.boot_len (pa_cons (pv 0) pa_nil)) pe_int (nomark _)) (pw_and1 (pt_cmpR op_eq (pe_ix (ixT K) (pv 0) pe_int (fun _ _ => rfl)) pe_str (nomark _))))) (pss_one (ps_ret (pe_chain op_le op_lt pe_int (pe_ix (ixT K) (pv 0) pe_int (fun _ _ => rfl)) (pv 1)))) pss_nil)
      (pss_one (ps_ret (pe_and (pe_cmpR op_eq (pe_callB (lenK K) (by rfl) T.b_len PySem.boot_len (pa_cons (pv 0) pa_nil)) pe_int (nomark _)) (pe_and (pe_cmpR op_eq (pe_ix (ixT K) (pv 0) pe_int (fun _ _ => rfl)) pe_str (nomark _)) (pe_one (pe_chain op_le op_le pe_int (pe_ix (ixT K) (pv 0) pe_int (fun _ _ => rfl)) (pe_k T.k_MOST_BIN))))))))), ?_⟩
    have ch : ∀ {i j k : Nat}, i ≤ j → j < k → (decide ((i : Int) ≤ (j : Int)) && decide ((j : Int) < (k : Int))) = true := fun h1 h2 => by
      rw [dec_le, dec_lt, decide_eq_true h1, decide_eq_true h2] <;> rfl
    cases r with
    | mesh o u v =>
      refine q_when (K := K) gh (et_as (et_and (et_t (ev_eqN (ev_lenR (ev_var r1)) ev_n)) (fun _ => et_t (ev_isM (ev_var r1)))) (b := _) (c := true) rfl) (fun _ G2 H2 s => ?_) (fun e => by cases e)
      have r1 := Rep.mono s.gg r1
      refine s_ret (K := K) s.gh (ev_as (ev_andV (ev_ch (i := 1) (k := 10 ^ 60) ev_i (ev_nI (ev_m1 (ev_var r1))) ev_i) fun _ => ev_andV (ev_ch (i := 0) ev_i (ev_nI (ev_m2 (ev_var r1))) (ev_nI (ev_var r2))) fun _ => ev_ch (i := 0) ev_i (ev_nI (ev_m3 (ev_var r1))) (ev_nI (ev_var r2))) ?_) fun w G3 H3 s3 r3 => q w G3 H3 (s.trans s3) r3
      obtain ⟨h1, h2, h3, h4⟩ := hp
      have e0 : (decide ((1 : Int) ≤ (o : Int)) && decide ((o : Int) ≤ (10 ^ 60 : Int))) = true := by
        rw [decide_eq_true (by omega), decide_eq_true (by omega)] <;> rfl
      have e1 := ch (Nat.zero_le u) h3
      have e2 := ch (Nat.zero_le v) h4
      show ((decide ((1 : Int) ≤ (o : Int)) && decide ((o : Int) ≤ (10 ^ 60 : Int))) && ((decide (((0 : Nat) : Int) ≤ (u : Int)) && decide ((u : Int) < (n : Int))) && (decide (((0 : Nat) : Int) ≤ (v : Int)) && decide ((v : Int) < (n : Int))))) = true
      rw [e0, e1, e2] <;> rfl
    | crush t =>
      refine q_when (K := K) gh (et_as (et_and (et_t (ev_eqN (ev_lenR (ev_var r1)) ev_n)) (fun _ => et_t (ev_isM (ev_var r1)))) (b := _) (c := false) rfl) (fun e => by cases e) (fun _ G2 H2 s => ?_)
      have r1 := Rep.mono s.gg r1
      refine q_when (K := K) s.gh (et_as (et_and (et_t (ev_eqN (ev_lenR (ev_var r1)) ev_n)) (fun _ => et_t (ev_isC (ev_var r1)))) (b := _) (c := true) rfl) (fun _ G3 H3 s3 => ?_) (fun e => by cases e)
      have r1 := Rep.mono s3.gg r1
      exact s_ret (K := K) s3.gh (ev_as (ev_ch (i := 0) ev_i (ev_nI (ev_c1 (ev_var r1))) (ev_nI (ev_var r2))) (ch (Nat.zero_le t) hp)) fun w G4 H4 s4 r4 => q w G4 H4 ((s.trans s3).trans s4) r4
    | bin b =>
      refine q_when (K := K) gh (et_as (et_and (et_t (ev_eqN (ev_lenR (ev_var r1)) ev_n)) (fun _ => et_t (ev_isM (ev_var r1)))) (b := _) (c := false) rfl) (fun e => by cases e) (fun _ G2 H2 s => ?_)
      have r1 := Rep.mono s.gg r1
      refine q_when (K := K) s.gh (et_as (et_and (et_t (ev_eqN (ev_lenR (ev_var r1)) ev_n)) (fun _ => et_t (ev_isC (ev_var r1)))) (b := _) (c := false) rfl) (fun e => by cases e) (fun _ G3 H3 s3 => ?_)
      have r1 := Rep.mono s3.gg r1
      refine s_ret (K := K) s3.gh (ev_as (ev_andV (ev_eqN (ev_lenR (ev_var r1)) ev_n) fun _ => ev_andV (ev_isB (ev_var r1)) fun _ => ev_ch (i := 0) (k := 5) ev_i (ev_nI (ev_b1 (ev_var r1))) ev_i) ?_) fun w G4 H4 s4 r4 => q w G4 H4 ((s.trans s3).trans s4) r4
      have h1 : b ≤ 5 := hp
      show (true && (true && (decide (((0 : Nat) : Int) ≤ (b : Int)) && decide ((b : Int) ≤ ((5 : Nat) : Int))))) = true
      rw [dec_le, dec_le, decide_eq_true h1, decide_eq_true (Nat.zero_le b)] <;> rfl
theorem c_Works_init (h : HasM K (CW K) d_Works_init) (T : Tx K mg base) (c_good_row : Cal P w K mg base "good_row" 1 ["row", "many"] (sp2 K (fun (r : Row) (n : Nat) => okR n r) fun _ _ => true)) :
    CalM P w K mg base (He.ma K (CW K) "__init__") 2 ["self", "parts", "rows"] (spWInit K) := by
  refine h.cal sc_Works_init (fun _ _ _ _ _ _ us hl => match us, hl with | [_, _, _], _ => rfl) (fun vs H Q E h => ?_) (fun f cdv A outer s0 H vs Q E hr h => ?_)
  · obtain ⟨_, _, _, _, _, _, _, _, rfl, _⟩ := h
    rfl
  · obtain ⟨G, H0, x, dx, v2, v3, p, rows, rfl, gh0, nx, nd, ne, rfl, r2, r3, ⟨h1, h2, h3, h4, h5⟩, q⟩ := h
    refine ⟨_, (pss_cons (ps_if (PW.pt (pw_or (pt_cmpR op_lt (pv 1) pe_int (nomark _)) (pw_or (pt_cmpR op_gt (pv 1) (pe_k T.k_MOST_PARTS) (nomark _)) (pw_or (pt_cmpR op_lt (pe_callB (lenK K) (by rfl) T.b_len PySem.boot_len (pa_cons (pv 2) pa_nil)) pe_int (nomark _)) (pw_or1 (pt_cmpR op_gt (pe_callB (lenK K) (by rfl) T.b_len PySem.boot_len (pa_cons (pv 2) pa_nil)) (pe_k T.k_MOST_ROWS) (nomark _))))))) (pss_one ps_never) pss_nil)
      (pss_cons (ps_for PassesOwn.never rfl (pi_list (pv 2)) (pg_name (i := 3) sc_Works_init.nd rfl (.inl rfl)) (pss_one (ps_if (pt_not (pt_val (pe_c c_good_row (hr.mono (by decide)) (pa_cons (pv 3) (pa_cons (pe_callB (lenK K) (by rfl) T.b_len PySem.boot_len (pa_cons (pv 2) pa_nil)) pa_nil))))) (pss_one ps_never) pss_nil)))
      (pss_cons (ps_fld (pv 0) (pv 1) rfl)
      (pss_one (ps_fld (pv 0) (pe_callTy (listK K) (by rfl) T.b_list (by decide +kernel) (pa_cons (pv 2) pa_nil)) rfl))))), ?_⟩
    have nx1 : upd H0 dx (.own x) x = none := by
      rw [upd_ne ne.symm]
      exact nx
    have s0 : Stp K G H0 G (upd (upd H0 dx (.own x)) x (.ins (CW K) dx [])) := (Stp.raw gh0 nd).trans (Stp.raw (gh0.trans (same_new nd)) nx1)
    have gx : G x = none := gh0.free nx
    refine q_when (K := K) s0.gh (et_as (et_or (et_t (ev_ltN (ev_var r2) (ev_n (n := 2)))) fun _ => et_or (et_t (ev_gt (ev_nI (ev_var r2)) (ev_i (i := 9)))) fun _ => et_or (et_t (ev_ltN (ev_len (ev_var r3)) (ev_n (n := 1)))) fun _ => et_t (ev_gt (ev_nI (ev_len (ev_var r3))) (ev_i (i := 12)))) (c := false) ?_) (fun e => by cases e) (fun _ G2 H2 s2 => ?_)
    · rw [decide_eq_false (by omega), decide_eq_false (by omega), decide_eq_false (by omega), decide_eq_false (by omega)] <;> rfl
    refine q_for (K := K) s2.gh (ev_var (Rep.mono s2.gg r3)) fun G3 H3 s3 _ => ⟨fun i σ' H' => ∃ y G', σ' = [some (.ref x), some v2, some v3, y] ∧ Stp K G3 H3 G' H', ⟨none, G3, rfl, Stp.refl s3.gh⟩, ?_, ?_, ?_⟩
    · rintro i σ' H' ⟨y, G', _, s'⟩
      exact s'.gg.trans s'.gh
    · rintro i r v σ' H' hi rv ⟨y, G', rfl, s'⟩
      have r3' := Rep.mono (((s2.gg.trans s3.gg).trans s'.gg)) r3
      refine s_when (K := K) s'.gh (et_as (et_not (et_b (ev_2 (ev_var (Rep.mono s'.gg rv)) (ev_len (ev_var r3')) (h5 r (List.mem_of_getElem? hi))))) (c := false) rfl) (fun e => by cases e) (fun _ G4 H4 s4 => ⟨some v, G4, rfl, s'.trans s4⟩)
    · rintro σ' H' ⟨y, G', rfl, s'⟩
      have st := ((s0.trans s2).trans s3).trans s'
      obtain ⟨gx', hx'⟩ := ((s2.trans s3).trans s').own gx upd_same (fun _ z => by cases z)
      refine q_fld (K := K) rfl gx' hx' T.clW T.nW_parts (by decide) s'.gh (ev_var (x := p) r2) fun v G4 H4 s4 r4 e4 g4 => ?_
      obtain rfl : v = .int (p : Int) := r4
      have t4 : Stp K G H0 G4 (upd H4 x (.ins (CW K) dx [("parts", .int (p : Int))])) := (st.trans s4).put nx g4 e4 (fun _ z => by cases z) (fun _ z => by cases z)
      refine s_fld (K := K) rfl g4 upd_same T.clW T.nW_rows (by show 1 < 1000; decide) t4.gh (ev_list (ev_var (Rep.mono t4.gg r3))) fun v G5 H5 s5 r5 e5 g5 => ?_
      have t5 := (t4.trans s5).put (o := .ins (CW K) dx (putF "rows" v [("parts", .int (p : Int))])) nx g5 e5 (fun _ z => by cases z) (fun _ z => by cases z)
      obtain ⟨a, xs, rfl, f1, f2⟩ := r5
      have t6 := t5.frz nx g5 upd_same
      refine q _ _ t6 ⟨x, dx, a, rfl, upd_same, Rep.mono (same_new g5) ⟨a, xs, rfl, f1, f2⟩⟩
end
end Mw
namespace Mw
open PySem PySem.Spec PyProof.Rows L2
abbrev spGoes (K : PySem.W.Frag) : Sp := sp3 K (fun (wd : Wd) (row s : Nat) => row < wd.rows.length ∧ 0 < wd.p ∧ wd.p < 1000 ∧ s < 2 ^ 60) goes
abbrev spWhole (K : PySem.W.Frag) : Sp := sp3 K (fun (wd : Wd) (row s : Nat) => row < wd.rows.length ∧ 2 ≤ wd.p ∧ wd.p < 1000 ∧ 1 ≤ s ∧ s < 2 ^ 60) whole
abbrev spRingFrom (K : PySem.W.Frag) : Sp := sp3 K (fun (wd : Wd) (row s : Nat) => Good wd ∧ row < wd.rows.length ∧ 1 ≤ s ∧ s < 2 ^ 60) fun _ _ _ => ([] : List Nat)
abbrev spSizes (K : PySem.W.Frag) : Sp := spE1 K Good fun _ (l : List Nat) => ∀ s ∈ l, 1 ≤ s ∧ s ≤ 21
abbrev spRingOf (K : PySem.W.Frag) : Sp := sp1 K Good fun _ => (none : Option (Nat × List Nat))
abbrev spCrushers (K : PySem.W.Frag) : Sp := sp1 K Good crushes
abbrev spOpenings (K : PySem.W.Frag) : Sp := sp1 K Good opens
abbrev spHeight (K : PySem.W.Frag) : Sp := sp2 K (fun one other => Good one ∧ Good other) height
abbrev spCheck (K : PySem.W.Frag) : Sp := sp2 K (fun one other => Good one ∧ Good other ∧ one.p = other.p ∧ (crushes one).length ≤ 4 ∧ (crushes other).length ≤ 4) fun _ _ => (none : Option Nat)
section
variable {P : Program} {w : World} {K : PySem.W.Frag} {mg : Str → Option Value} {base : Heap}
theorem c_whole_to (h : Has K mg "whole_to" d_whole_to) (T : Tx K mg base) (c_goes_on : Cal P w K mg base "goes_on" 2 ["works", "row", "size"] (spGoes K)) : Cal P w K mg base "whole_to" 3 ["works", "row", "size"] (spWhole K) := by
  refine h.cal sc_whole_to (fun _ _ _ _ _ _ us hl => match us, hl with | [_, _, _], _ => rfl) (fun vs H Q E h => ?_) (fun f cdv A outer s0 H vs Q E hr h => ?_)
  · obtain ⟨_, _, _, _, _, _, _, rfl, _⟩ := h
    rfl
  · obtain ⟨G, v1, v2, v3, wd, row, s, rfl, gh, r1, r2, r3, ⟨h0, h1, h2, h3, h4⟩, q⟩ := h
    refine ⟨_, (pss_cons (ps_set (i := 3) sc_whole_to.nd rfl (.inl rfl) (pe_c c_goes_on (hr.mono (by decide)) (pa_cons (pv 0) (pa_cons (pv 1) (pa_cons (pv 2) pa_nil)))))
      (pss_cons (ps_if (PW.pt (pw_and (pt_cmpR op_eq (pe_callB (lenK K) (by rfl) T.b_len PySem.boot_len (pa_cons (pv 3) pa_nil)) pe_int (nomark _)) (pw_and (pt_cmpR op_eq (pe_ix (ixT K) (pe_ix (ixL K) (pv 3) pe_int (fun _ _ => rfl)) pe_int (fun _ _ => rfl)) (pv 2) (nomark _)) (pw_and1 (pt_cmpR op_eq (pe_ix (ixT K) (pe_ix (ixL K) (pv 3) pe_int (fun _ _ => rfl)) pe_int (fun _ _ => rfl)) pe_int (nomark _)))))) (pss_one (ps_ret (pe_ix (ixT K) (pe_ix (ixL K) (pv 3) pe_int (fun _ _ => rfl)) pe_int (fun _ _ => rfl)))) pss_nil)
      (pss_one (ps_ret pe_non)))), ?_⟩
    rw [← whole_goes h1 h3] at q
    refine q_set (K := K) gh (ev_3 (ev_var r1) (ev_var r2) (ev_var r3) ⟨h0, by omega, h2, h4⟩) fun v G2 H2 st r => ?_
    generalize goes wd row s = l at q r
    match l with
    | [] =>
      refine q_when (K := K) st.gh (et_as (et_and (b := true) (et_t (ev_eqN (ev_len (ev_var r)) (ev_n (n := 1)))) (fun e => by cases e)) (c := false) rfl) (fun e => by cases e) (fun _ G3 H3 s3 => ?_)
      exact s_ret (K := K) s3.gh ev_non fun w G4 H4 s4 r4 => q w G4 H4 ((st.trans s3).trans s4) r4
    | a :: b :: l =>
      refine q_when (K := K) st.gh (et_as (et_and (b := true) (et_t (ev_eqN (ev_len (ev_var r)) (ev_n (n := 1)))) (fun e => ?_)) (c := false) ?_) (fun e => by cases e) (fun _ G3 H3 s3 => ?_)
      · have := of_decide_eq_true e
        simp at this
      · have : ¬ (a :: b :: l).length = 1 := by simp
        rw [decide_eq_false this] <;> rfl
      · exact s_ret (K := K) s3.gh ev_non fun w G4 H4 s4 r4 => q w G4 H4 ((st.trans s3).trans s4) r4
    | [x] =>
      have ix : ∀ {G : Hp}, rp K G v [x] → Ev K (tOp (rIxL K) (tVar 3) (tC (.int 0))) ((start N_whole_to [v1, v2, v3]).set 3 (some v)) G x := fun r => ev_ixN (ev_var r) ev_i (j := 0) rfl rfl
      refine q_when (K := K) st.gh (et_and (et_t (ev_eqN (ev_len (ev_var r)) (ev_n (n := 1)))) (fun _ => et_and (et_t (ev_eqN (ev_x1 (ix r)) (ev_var r3))) (fun _ => et_t (ev_eqN (ev_x2 (ix r)) (ev_n (n := 1)))))) (fun e G3 H3 s3 => ?_) (fun e G3 H3 s3 => ?_)
      · have e2 : x.b = s ∧ x.c = 1 := by simpa using e
        refine s_ret (K := K) s3.gh (ev_some (ev_x0 (ix (Rep.mono s3.gg r)))) fun w G4 H4 s4 r4 => q w G4 H4 ((st.trans s3).trans s4) ?_
        show rp K G4 w (if x.b = s ∧ x.c = 1 then some x.a else none)
        rw [if_pos e2]
        exact r4
      · have e2 : ¬ (x.b = s ∧ x.c = 1) := by
          rintro ⟨h1, h2⟩
          simp [h1, h2] at e
        refine s_ret (K := K) s3.gh (ev_non (α := Nat)) fun w G4 H4 s4 r4 => q w G4 H4 ((st.trans s3).trans s4) ?_
        show rp K G4 w (if x.b = s ∧ x.c = 1 then some x.a else none)
        rw [if_neg e2]
        exact r4
theorem c_ring_from (h : Has K mg "ring_from" d_ring_from) (T : Tx K mg base) (c_whole_to : Cal P w K mg base "whole_to" 3 ["works", "row", "size"] (spWhole K)) : Cal P w K mg base "ring_from" 4 ["works", "row", "size"] (spRingFrom K) := by
  refine h.cal sc_ring_from (fun _ _ _ _ _ _ us hl => match us, hl with | [_, _, _], _ => rfl) (fun vs H Q E h => ?_) (fun f cdv A outer s0 H vs Q E hr h => ?_)
  · obtain ⟨_, _, _, _, _, _, _, rfl, _⟩ := h
    rfl
  · obtain ⟨G, v1, v2, v3, wd, row, s, rfl, gh, r1, r2, r3, ⟨g, h0, h1, h2⟩, q⟩ := h
    refine ⟨_, (pss_cons (ps_set (i := 3) sc_ring_from.nd rfl (.inl rfl) (pe_lst pa_nil))
      (pss_cons (ps_while PassesOwn.never (PW.pt (pw_and (pt_cmpR op_notN (pv 1) pe_non (nomark _)) (pw_and1 (pt_cmpR (notInK K) (pv 1) (pv 3) (by rfl))))) (pss_cons (ps_expr (pe_bm PySem.F.plainAttrs_list PySem.F.slot_list_append PySem.F.type_list_append mt_append (pv 3) (pa_cons (pv 1) pa_nil)))
      (pss_one (ps_set (i := 1) sc_ring_from.nd rfl (.inl rfl) (pe_c c_whole_to (hr.mono (by decide)) (pa_cons (pv 0) (pa_cons (pv 1) (pa_cons (pv 2) pa_nil))))))))
      (pss_cons (ps_if (pt_cmpR op_isN (pv 1) pe_non (nomark _)) (pss_one (ps_ret (pe_lst pa_nil))) pss_nil)
      (pss_one (ps_ret (pe_slice (slK K) (pv 3) (po_some (pe_bm PySem.F.plainAttrs_list PySem.F.slot_list_index PySem.F.type_list_index mt_index (pv 3) (pa_cons (pv 1) pa_nil))) po_none)))))), ?_⟩
    obtain ⟨rho, h15, hd⟩ := g.rk
    refine q_new fun p hp => ?_
    refine q_while (K := K) (fun m σ' H' => ∃ (o : Option Nat) (ws : List Nat) (vo : V) (G' : Hp), σ' = [some v1, some vo, some v3, some (.ref p)] ∧ rp K G vo o ∧ Stp K G H G' H' ∧ G' p = none ∧ H' p = some (.lst ((ws.map fun n : Nat => (n : Int)).map V.int)) ∧
      (∀ r, o = some r → r < wd.rows.length ∧ m = rho s r + 1 ∧ ∀ x ∈ ws, rho s r < rho s x) ∧ ws.length + m ≤ 17) (rho s row + 1) ⟨some row, [], v2, G, rfl, r2, Stp.raw gh hp, gh.free hp, upd_same, fun r e => ?_, ?_⟩ ?_
    · cases e
      exact ⟨h0, rfl, fun _ z => nomatch z⟩
    · have := h15 s row
      show 0 + _ ≤ 17
      omega
    · rintro m σ' H' ⟨o, ws, vo, G', rfl, ro, st, gp, hp', ho, hl⟩
      have rw' : rp K H' (.ref p) ws := ⟨p, _, rfl, hp', by
        have all : ∀ l : List Nat, All2 (rp K H') ((l.map fun n : Nat => (n : Int)).map V.int) l := fun l => by
          induction l with
          | nil => exact .nil
          | cons a l ih => exact .cons rfl ih
        exact all ws⟩
      cases o with
      | none =>
        refine ⟨H', false, Same.refl H', et_as (et_and (b := true) (et_t (ev_notN (α := Nat) (ev_var (x := none) ro))) (fun e => by cases e)) rfl, (fun e => by cases e), fun _ G2 H2 s2 => ?_⟩
        have s3 := st.trans (s2.thaw st.gh)
        refine q_when (K := K) s3.gh (et_t (ev_isN (α := Nat) (ev_var (x := none) ro))) (fun _ G3 H3 s4 => ?_) (fun e => by cases e)
        exact s_ret (K := K) s4.gh (ev_lst (el_nil (α := Nat)) (by simp)) fun w G5 H5 s5 r5 => q w G5 H5 ((s3.trans s4).trans s5) r5
      | some r =>
        obtain ⟨hr1, hr2, hr3⟩ := ho r rfl
        have nin : r ∉ ws := fun z => Nat.lt_irrefl _ (hr3 r z)
        refine ⟨H', true, Same.refl H', et_as (et_and (et_t (ev_notN (α := Nat) (ev_var (x := some r) ro))) (fun _ => et_t (ev_notIn (ev_var (x := r) ro) (ev_var rw')))) ?_, fun _ G2 H2 s2 => ?_, (fun e => by cases e)⟩
        · show (true && !decide (r ∈ ws)) = true
          rw [decide_eq_false nin] <;> rfl
        · have s3 := st.trans (s2.thaw st.gh)
          refine q_app (K := K) rfl gp (s2.keep _ _ hp') (by rw [List.length_map, List.length_map]; omega) s3.gh (ev_var (x := r) ro) fun v G3 H3 s4 r4 e4 g4 => ?_
          obtain rfl : v = .int (r : Int) := r4
          have s5 := (s3.trans s4).putL (o := .lst (((ws.map fun n : Nat => (n : Int)).map V.int) ++ [.int (r : Int)])) hp g4 e4
          refine s_set (K := K) s5.gh (ev_3 (ev_var (Rep.mono s5.gg r1)) (ev_var (x := r) ro) (ev_var r3) ⟨hr1, g.p2, by have := g.p9; omega, h1, h2⟩) fun v G4 H4 s6 r6 => ?_
          obtain ⟨g6, h6⟩ := s6.ownL g4 upd_same
          have hw : ∀ r', whole wd r s = some r' → r' < wd.rows.length ∧ rho s r' < rho s r := fun r' e => ⟨whole_lt g e, hd s r r' h1 e⟩
          generalize whole wd r s = o' at r6 hw
          have r6' : rp K G v o' := by
            cases o' with
            | none => exact r6
            | some x => exact r6
          refine ⟨(match o' with
            | some r' => rho s r' + 1
            | none => 0), ?_, o', ws ++ [r], v, G4, rfl, r6', s5.trans s6, g6, ?_, fun r' e => ?_, ?_⟩
          · cases o' with
            | none =>
              show 0 < m
              omega
            | some r' =>
              have := (hw r' rfl).2
              show rho s r' + 1 < m
              omega
          · rw [h6, List.map_append, List.map_append] <;> rfl
          · subst e
            obtain ⟨a1, a2⟩ := hw r' rfl
            refine ⟨a1, rfl, fun x hx => ?_⟩
            rcases List.mem_append.mp hx with hx | hx
            · exact Nat.lt_trans a2 (hr3 x hx)
            · rw [List.mem_singleton.mp hx]
              exact a2
          · rw [List.length_append]
            cases o' with
            | none =>
              show ws.length + 1 + 0 ≤ 17
              omega
            | some r' =>
              have := (hw r' rfl).2
              show ws.length + 1 + (rho s r' + 1) ≤ 17
              omega
end
end Mw
namespace Mw
open PySem PySem.Spec PyProof.Rows L2
section
variable {P : Program} {w : World} {K : PySem.W.Frag} {mg : Str → Option Value} {base : Heap}
theorem ev_opening {K : PySem.W.Frag} {σ : L2.St} {G : Hp} {ta : TE} {r : Row} (ha : Ev K ta σ G r) (h : r.isM = true) : Ev K (tOp (rIxT K) ta (tC (.int 1))) σ G r.opening := by
  cases r with
  | mesh o u v => exact ev_m1 ha
  | crush t => cases h
  | bin b => cases h
theorem c_sizes_looked (h : Has K mg "sizes_looked" d_sizes_looked) (T : Tx K mg base) : Cal P w K mg base "sizes_looked" 1 ["works"] (spSizes K) := by
  refine h.cal sc_sizes_looked (fun _ _ _ _ _ _ us hl => match us, hl with | [_], _ => rfl) (fun vs H Q E h => ?_) (fun f cdv A outer s0 H vs Q E hr h => ?_)
  · obtain ⟨_, _, _, rfl, _⟩ := h
    rfl
  · obtain ⟨G, v1, wd, rfl, gh, r1, g, q⟩ := h
    refine ⟨_, (pss_cons (ps_setLc (i := 1) (own := [("row", 2)]) (g := (gName 2)) rfl sc_sizes_looked.nd  rfl rfl (sw_true rfl rfl rfl (by decide +kernel)) (pi_list (fldK K (pv 0))) (blkOk_by (N := N_sizes_looked) (sc := defScope s_sizes_looked) (by decide +kernel)) (fun _ _ _ _ _ => (pg_name (i := 2) sc_sizes_looked.nd rfl (Or.inl rfl))) (fun _ _ _ _ _ => pts_one (pt_cmpR op_eq (pe_ix (ixT K) (pv 2) pe_int (fun _ _ => rfl)) pe_str (nomark _))) (fun _ _ _ _ _ => (pe_ix (ixT K) (pv 2) pe_int (fun _ _ => rfl))))
      (pss_one (ps_ret (pe_callB (sortK K) (by rfl) T.b_sorted (by decide +kernel) (pa_cons (pe_op op_cat (pe_op op_cat (pe_lst (pa_cons pe_int pa_nil)) (pv 1)) (pe_lc (own := [("opening", 3)]) (g := (gName 3)) (tt := tYes) rfl sc_sizes_looked.nd (pi_list (pv 1)) (blkOk_by (N := N_sizes_looked) (sc := defScope s_sizes_looked) (by decide +kernel)) (fun _ _ _ _ _ => (pg_name (i := 3) sc_sizes_looked.nd rfl (Or.inl rfl))) (fun _ _ _ _ _ => pts_nil) (fun _ _ _ _ _ => (pe_op op_add (pv 3) pe_int)))) pa_nil))))), ?_⟩
    have hl : wd.rows.length < 50000 := by
      have := g.n12
      omega
    refine q_set (K := K) gh (ev_lcL Row.isM Row.opening (ev_rows T (ev_var r1)) hl (fun _ => rfl) (fun i r v G1 _ _ rv => et_t (ev_isM (ev_var rv))) (fun i r v G1 _ _ rv hp => ev_opening (ev_var rv) hp)) fun v G2 H2 st r => ?_
    have hol : (opens wd).length ≤ 12 := Nat.le_trans (opens_len wd) g.n12
    have r : rp K G2 v (opens wd) := r
    refine s_retE (K := K) st.gh (ev_sorted (ns := [1] ++ opens wd ++ fm (opens wd) (fun _ => true) (fun n => n + 1)) (ev_cat (ev_cat (ev_lst (el_cons (ev_n (n := 1)) el_nil) (by simp)) (ev_var r) (by simp; omega))
      (ev_lcL (fun _ => true) (fun n : Nat => n + 1) (ev_var r) (by omega) (fun _ => rfl) (fun i n v G1 _ _ rv => et_yes) (fun i n v G1 _ _ rv hp => ev_addN (ev_var rv) (ev_n (n := 1)))) (by
        have := fm_len (opens wd) (fun _ => true) (fun n => n + 1)
        simp
        omega))) fun w G3 H3 l s3 r3 ⟨hp, _⟩ => q w G3 H3 l (st.trans s3) r3 fun s hs => ?_
    have hm := hp.mem_iff.mp hs
    rcases List.mem_append.mp hm with hm | hm
    · rcases List.mem_append.mp hm with hm | hm
      · rw [List.mem_singleton.mp hm]
        omega
      · have := opens_of g hm
        omega
    · obtain ⟨o, h1, _, h2⟩ := mem_fm.mp hm
      have := opens_of g h1
      omega
theorem c_ring_of (h : Has K mg "ring_of" d_ring_of) (T : Tx K mg base) (c_sizes_looked : Cal P w K mg base "sizes_looked" 1 ["works"] (spSizes K)) (c_ring_from : Cal P w K mg base "ring_from" 4 ["works", "row", "size"] (spRingFrom K)) : Cal P w K mg base "ring_of" 5 ["works"] (spRingOf K) := by
  refine h.cal sc_ring_of (fun _ _ _ _ _ _ us hl => match us, hl with | [_], _ => rfl) (fun vs H Q E h => ?_) (fun f cdv A outer s0 H vs Q E hr h => ?_)
  · obtain ⟨_, _, _, rfl, _⟩ := h
    rfl
  · obtain ⟨G, v1, wd, rfl, gh, r1, g, q⟩ := h
    refine ⟨_, (pss_cons (ps_for PassesOwn.never rfl (pi_list (pe_c c_sizes_looked (hr.mono (by decide)) (pa_cons (pv 0) pa_nil))) (pg_name (i := 1) sc_ring_of.nd rfl (.inl rfl)) (pss_one (ps_for PassesOwn.never rfl (pi_range1 (by rfl) T.b_range (pa_cons (pe_callB (lenK K) (by rfl) T.b_len PySem.boot_len (pa_cons (fldK K (pv 0)) pa_nil)) pa_nil)) (pg_name (i := 2) sc_ring_of.nd rfl (.inl rfl)) (pss_cons (ps_set (i := 3) sc_ring_of.nd rfl (.inl rfl) (pe_c c_ring_from (hr.mono (by decide)) (pa_cons (pv 0) (pa_cons (pv 2) (pa_cons (pv 1) pa_nil)))))
      (pss_one (ps_if (pt_cmpR (neDK K hr.units) (pv 3) (pe_lst pa_nil) (nomark _)) (pss_one (ps_ret (pe_tup (pa_cons (pv 1) (pa_cons (pv 3) pa_nil))))) pss_nil))))))
      (pss_one (ps_ret pe_non))), ?_⟩
    refine q_forE (K := K) gh (ev_E1 (ev_var r1) g) fun l G1 H1 s1 hl _ => ⟨fun i σ' H' => ∃ a b c G', σ' = [some v1, a, b, c] ∧ Stp K G1 H1 G' H', ⟨none, none, none, G1, rfl, Stp.refl s1.gh⟩, ?_, ?_, ?_⟩
    · rintro i σ' H' ⟨a, b, c, G', _, s⟩
      exact s.gg.trans s.gh
    · rintro i s v σ' H' hi rv ⟨a, b, c, G', rfl, st⟩
      have hs := hl s (List.mem_of_getElem? hi)
      have r1' := Rep.mono (s1.gg.trans st.gg) r1
      refine s_forR (K := K) (n := wd.rows.length) st.gh (ev_nI (ev_len (ev_rows T (ev_var r1')))) rfl (by have := g.n12; omega) fun G2 H2 s2 => ⟨fun i σ' H' => ∃ b c G', σ' = [some v1, some v, b, c] ∧ Stp K G2 H2 G' H', ⟨b, c, G2, rfl, Stp.refl s2.gh⟩, ?_, ?_⟩
      · rintro j σ' H' hj ⟨b, c, G', rfl, s3⟩
        have r1'' := Rep.mono (s2.gg.trans s3.gg) r1'
        refine q_set (K := K) s3.gh (ev_3 (ev_var r1'') (ev_var (x := j) rfl) (ev_var (x := s) rv) ⟨g, hj, hs.1, by omega⟩) fun v2 G3 H3 s4 r4 => ?_
        refine s_when (K := K) s4.gh (et_as (et_t (ev_neD (ev_var r4) (ev_lst (el_nil (α := Nat)) (by simp)))) (c := false) ?_) (fun e => by cases e) (fun _ G4 H4 s5 => ⟨_, _, G4, rfl, (s3.trans s4).trans s5⟩)
        show (!PyData.eqv (.list []) (.list [])) = false
        simp [PyData.eqv, PyData.eqvAll]
      · rintro σ' H' ⟨b, c, G', rfl, s3⟩
        exact ⟨_, _, _, G', rfl, (st.trans s2).trans s3⟩
    · rintro σ' H' ⟨a, b, c, G', rfl, st⟩
      exact s_ret (K := K) st.gh (ev_non (α := Nat × List Nat)) fun w G4 H4 s4 r4 => q w G4 H4 ((s1.trans st).trans s4) r4
theorem c_crushers_of (h : Has K mg "crushers_of" d_crushers_of) (T : Tx K mg base) : Cal P w K mg base "crushers_of" 1 ["works"] (spCrushers K) := by
  refine h.cal sc_crushers_of (fun _ _ _ _ _ _ us hl => match us, hl with | [_], _ => rfl) (fun vs H Q E h => ?_) (fun f cdv A outer s0 H vs Q E hr h => ?_)
  · obtain ⟨_, _, _, rfl, _⟩ := h
    rfl
  · obtain ⟨G, v1, wd, rfl, gh, r1, g, q⟩ := h
    refine ⟨_, (pss_one (ps_ret (pe_lc (own := [("row", 1)]) (g := (gName 1)) rfl sc_crushers_of.nd (pi_range1 (by rfl) T.b_range (pa_cons (pe_callB (lenK K) (by rfl) T.b_len PySem.boot_len (pa_cons (fldK K (pv 0)) pa_nil)) pa_nil)) (blkOk_by (N := N_crushers_of) (sc := defScope s_crushers_of) (by decide +kernel)) (fun _ _ _ _ _ => (pg_name (i := 1) sc_crushers_of.nd rfl (Or.inl rfl))) (fun _ _ _ _ _ => pts_one (pt_cmpR op_eq (pe_ix (ixT K) (pe_ix (ixL K) (fldK K (pv 0)) (pv 1) (fun _ _ => rfl)) pe_int (fun _ _ => rfl)) pe_str (nomark _))) (fun _ _ _ _ _ => (pv 1))))), ?_⟩
    refine s_ret (K := K) gh (ev_lcR (n := wd.rows.length) (fun i => (wd.rows.getD i (.bin 0)).isC) (fun i => i) (ev_nI (ev_len (ev_rows T (ev_var r1)))) rfl (by have := g.n12; omega) (fun _ => rfl) (fun i G1 sg hi => et_t (ev_isC (ev_row T (ev_var (Rep.mono sg r1)) (ev_var (x := i) rfl) ?_))) (fun i G1 sg hi hp => ev_var rfl)) fun w G2 H2 s2 r2 => q w G2 H2 s2 r2
    rw [List.getD_eq_getElem?_getD, List.getElem?_eq_getElem hi] <;> rfl
theorem c_openings_of (h : Has K mg "openings_of" d_openings_of) (T : Tx K mg base) : Cal P w K mg base "openings_of" 1 ["works"] (spOpenings K) := by
  refine h.cal sc_openings_of (fun _ _ _ _ _ _ us hl => match us, hl with | [_], _ => rfl) (fun vs H Q E h => ?_) (fun f cdv A outer s0 H vs Q E hr h => ?_)
  · obtain ⟨_, _, _, rfl, _⟩ := h
    rfl
  · obtain ⟨G, v1, wd, rfl, gh, r1, g, q⟩ := h
    refine ⟨_, (pss_one (ps_ret (pe_lc (own := [("row", 1)]) (g := (gName 1)) rfl sc_openings_of.nd (pi_list (fldK K (pv 0))) (blkOk_by (N := N_openings_of) (sc := defScope s_openings_of) (by decide +kernel)) (fun _ _ _ _ _ => (pg_name (i := 1) sc_openings_of.nd rfl (Or.inl rfl))) (fun _ _ _ _ _ => pts_one (pt_cmpR op_eq (pe_ix (ixT K) (pv 1) pe_int (fun _ _ => rfl)) pe_str (nomark _))) (fun _ _ _ _ _ => (pe_ix (ixT K) (pv 1) pe_int (fun _ _ => rfl)))))), ?_⟩
    exact s_ret (K := K) gh (ev_lcL Row.isM Row.opening (ev_rows T (ev_var r1)) (by have := g.n12; omega) (fun _ => rfl) (fun i r v G1 _ _ rv => et_t (ev_isM (ev_var rv))) (fun i r v G1 _ _ rv hp => ev_opening (ev_var rv) hp)) fun w G2 H2 s2 r2 => q w G2 H2 s2 r2
theorem c_height_of (h : Has K mg "height_of" d_height_of) (T : Tx K mg base) (c_openings_of : Cal P w K mg base "openings_of" 1 ["works"] (spOpenings K)) : Cal P w K mg base "height_of" 2 ["one", "other"] (spHeight K) := by
  refine h.cal sc_height_of (fun _ _ _ _ _ _ us hl => match us, hl with | [_, _], _ => rfl) (fun vs H Q E h => ?_) (fun f cdv A outer s0 H vs Q E hr h => ?_)
  · obtain ⟨_, _, _, _, _, rfl, _⟩ := h
    rfl
  · obtain ⟨G, v1, v2, one, other, rfl, gh, r1, r2, ⟨g1, g2⟩, q⟩ := h
    refine ⟨_, (pss_one (ps_ret (pe_callB (maxK K) (by rfl) T.b_max (by decide +kernel) (pa_cons (pe_op op_cat (pe_op op_cat (pe_lst (pa_cons pe_int pa_nil)) (pe_c c_openings_of (hr.mono (by decide)) (pa_cons (pv 0) pa_nil))) (pe_c c_openings_of (hr.mono (by decide)) (pa_cons (pv 1) pa_nil))) pa_nil)))), ?_⟩
    have l1 := Nat.le_trans (opens_len one) g1.n12
    have l2 := Nat.le_trans (opens_len other) g2.n12
    refine s_ret (K := K) gh (ev_max (m := ((height one other : Nat) : Int)) (ev_nat_int (ns := [0] ++ opens one ++ opens other) (ev_cat (ev_cat (ev_lst (el_cons (ev_n (n := 0)) el_nil) (by simp)) (ev_1 (ev_var r1) g1) (by simp; omega)) (ev_1 (ev_var r2) g2) (by simp; omega))) ?_ fun y hy => ?_) fun w G2 H2 s2 r2 => q w G2 H2 s2 r2
    · refine List.mem_map.mpr ⟨height one other, ?_, rfl⟩
      exact maxl_mem (opens one ++ opens other)
    · obtain ⟨n, hn, rfl⟩ := List.mem_map.mp hy
      have h2 : n ≤ height one other := by
        rcases List.mem_cons.mp (show n ∈ 0 :: (opens one ++ opens other) from hn) with e | h
        · omega
        · exact maxl_le h
      omega
theorem c_check_two (h : Has K mg "check_two" d_check_two) (T : Tx K mg base) (c_ring_of : Cal P w K mg base "ring_of" 5 ["works"] (spRingOf K)) (c_crushers_of : Cal P w K mg base "crushers_of" 1 ["works"] (spCrushers K)) (c_height_of : Cal P w K mg base "height_of" 2 ["one", "other"] (spHeight K)) :
    Cal P w K mg base "check_two" 6 ["one", "other"] (spCheck K) := by
  refine h.cal sc_check_two (fun _ _ _ _ _ _ us hl => match us, hl with | [_, _], _ => rfl) (fun vs H Q E h => ?_) (fun f cdv A outer s0 H vs Q E hr h => ?_)
  · obtain ⟨_, _, _, _, _, rfl, _⟩ := h
    rfl
  · obtain ⟨G, v1, v2, one, other, rfl, gh, r1, r2, ⟨g1, g2, hp, hc1, hc2⟩, q⟩ := h
    refine ⟨_, (pss_cons (ps_if (PW.pt (pw_or (pt_cmpR op_notN (pe_c c_ring_of (hr.mono (by decide)) (pa_cons (pv 0) pa_nil)) pe_non (nomark _)) (pw_or1 (pt_cmpR op_notN (pe_c c_ring_of (hr.mono (by decide)) (pa_cons (pv 1) pa_nil)) pe_non (nomark _))))) (pss_one ps_never) pss_nil)
      (pss_cons (ps_if (pt_cmpR op_ne (fldK K (pv 0)) (fldK K (pv 1)) (nomark _)) (pss_one ps_never) pss_nil)
      (pss_cons (ps_if (PW.pt (pw_or (pt_cmpR op_gt (pe_callB (lenK K) (by rfl) T.b_len PySem.boot_len (pa_cons (pe_c c_crushers_of (hr.mono (by decide)) (pa_cons (pv 0) pa_nil)) pa_nil)) (pe_k T.k_MOST_CRUSHERS) (nomark _)) (pw_or1 (pt_cmpR op_gt (pe_callB (lenK K) (by rfl) T.b_len PySem.boot_len (pa_cons (pe_c c_crushers_of (hr.mono (by decide)) (pa_cons (pv 1) pa_nil)) pa_nil)) (pe_k T.k_MOST_CRUSHERS) (nomark _))))) (pss_one ps_never) pss_nil)
      (pss_one (ps_if (pt_cmpR op_gt (pe_c c_height_of (hr.mono (by decide)) (pa_cons (pv 0) (pa_cons (pv 1) pa_nil))) (pe_k T.k_WIDEST_alike) (nomark _)) (pss_one ps_never) pss_nil))))), ?_⟩
    refine q_when (K := K) gh (et_as (et_or (et_t (ev_notN (ev_1 (ev_var r1) g1))) fun _ => et_t (ev_notN (ev_1 (ev_var r2) g2))) (c := false) rfl) (fun e => by cases e) (fun _ G2 H2 s2 => ?_)
    refine q_when (K := K) s2.gh (et_as (et_t (ev_neN (ev_parts T (ev_var (Rep.mono s2.gg r1))) (ev_parts T (ev_var (Rep.mono s2.gg r2))))) (c := false) ?_) (fun e => by cases e) (fun _ G3 H3 s3 => ?_)
    · rw [decide_eq_true hp] <;> rfl
    have t3 := s2.trans s3
    refine q_when (K := K) s3.gh (et_as (et_or (et_t (ev_gtN (ev_len (ev_1 (ev_var (Rep.mono t3.gg r1)) g1)) (ev_n (n := 4)))) fun _ => et_t (ev_gtN (ev_len (ev_1 (ev_var (Rep.mono t3.gg r2)) g2)) (ev_n (n := 4)))) (c := false) ?_) (fun e => by cases e) (fun _ G4 H4 s4 => ?_)
    · rw [decide_eq_false (by omega), decide_eq_false (by omega)] <;> rfl
    have t4 := t3.trans s4
    refine s_when (K := K) s4.gh (et_as (et_t (ev_gtN (ev_2 (ev_var (Rep.mono t4.gg r1)) (ev_var (Rep.mono t4.gg r2)) ⟨g1, g2⟩) (ev_n (n := 20)))) (c := false) ?_) (fun e => by cases e) (fun _ G5 H5 s5 => q .non G5 H5 (t4.trans s5) rfl)
    have := height_le g1 g2
    rw [decide_eq_false (by omega)]
end
end Mw
namespace Mw
def wrow (wd : Wd) (b q : Nat) : List Nat := (List.range wd.rows.length).map fun t => W wd b t q
def wtab (wd : Wd) (b m : Nat) : List (List Nat) := (List.range m).map (wrow wd b)
theorem wtab_at {wd : Wd} {b m q : Nat} (h : q < m) : (wtab wd b m)[q]? = some (wrow wd b q) := by
  unfold wtab
  rw [List.getElem?_map, List.getElem?_range h] <;> rfl
theorem wrow_at {wd : Wd} {b q t : Nat} (h : t < wd.rows.length) : (wrow wd b q)[t]? = some (W wd b t q) := by
  unfold wrow
  rw [List.getElem?_map, List.getElem?_range h] <;> rfl
theorem whole_W {wd : Wd} (g : Good wd) {b r s t : Nat} (h : whole wd r s = some t) : W wd b r s = W wd b t s := by
  unfold whole at h
  split at h
  · rename_i o u v e
    cases h
    exact W_mesh g e
  · rename_i t' e
    split at h
    · rename_i h1
      cases h
      subst h1
      have e1 : 1 / wd.p = 0 := Nat.div_eq_of_lt (by have := g.p2; omega)
      have e2 : 1 % wd.p = 1 := Nat.mod_eq_of_lt (by have := g.p2; omega)
      rw [W_crush g e, e1, e2, W_zero g, Nat.mul_zero, Nat.zero_add, Nat.zero_add, Nat.one_mul]
    · cases h
  · cases h
theorem goes_c {wd : Wd} (g : Good wd) {r s : Nat} (hs : 1 ≤ s) : ∀ x ∈ goes wd r s, x.c ≤ 9 ∧ x.a < wd.rows.length ∧ 1 ≤ x.b ∧ x.b ≤ s := by
  intro x hx
  cases e : wd.rows[r]? with
  | none =>
    unfold goes at hx
    rw [e] at hx
    cases hx
  | some rw' =>
    rw [goes_at e] at hx
    have ok := g.ok _ (List.mem_of_getElem? e)
    cases rw' with
    | bin k => cases hx
    | mesh o u v =>
      rw [List.mem_singleton.mp hx]
      obtain ⟨_, _, h1, h2⟩ := ok
      refine ⟨show 1 ≤ 9 by decide, ?_, hs, Nat.le_refl _⟩
      show (if s ≤ o then u else v) < _
      split
      · exact h1
      · exact h2
    | crush t =>
      obtain ⟨y, hy, rfl⟩ := List.mem_map.mp hx
      have hp := g.p2
      have h9 := g.p9
      have hm : s % wd.p < wd.p := Nat.mod_lt _ (by omega)
      have hd := Nat.div_add_mod s wd.p
      rcases pieces_cases g.p2 hs with ⟨h1, h2, h3⟩ | ⟨h1, h2, h3⟩ | ⟨h1, h2, h3⟩
      · rw [h3] at hy
        rw [List.mem_singleton.mp hy]
        exact ⟨show s ≤ 9 by omega, ok, Nat.le_refl _, hs⟩
      · rw [h3] at hy
        rw [List.mem_singleton.mp hy]
        exact ⟨h9, ok, h1, Nat.div_le_self _ _⟩
      · rw [h3] at hy
        have hle : s / wd.p + 1 ≤ s := by
          have := div_lt_self' g.p2 hs
          omega
        rcases List.mem_cons.mp hy with hy | hy
        · rw [hy]
          exact ⟨show wd.p - s % wd.p ≤ 9 by omega, ok, h1, Nat.div_le_self _ _⟩
        · rw [List.mem_singleton.mp hy]
          exact ⟨show s % wd.p ≤ 9 by omega, ok, show 1 ≤ s / wd.p + 1 by omega, hle⟩
theorem goes_small {wd : Wd} (g : Good wd) {r s : Nat} (hs : 1 ≤ s) (h : whole wd r s = none) : ∀ x ∈ goes wd r s, x.b < s := by
  intro x hx
  cases e : wd.rows[r]? with
  | none =>
    unfold goes at hx
    rw [e] at hx
    cases hx
  | some rw' =>
    rw [goes_at e] at hx
    unfold whole at h
    rw [e] at h
    cases rw' with
    | bin k => cases hx
    | mesh o u v => cases h
    | crush t =>
      have h : (if s = 1 then some t else none) = none := h
      have hs1 : s ≠ 1 := fun z => by
        rw [if_pos z] at h
        cases h
      obtain ⟨y, hy, rfl⟩ := List.mem_map.mp hx
      have hd := div_lt_self' g.p2 hs
      rcases pieces_cases g.p2 hs with ⟨h1, h2, h3⟩ | ⟨h1, h2, h3⟩ | ⟨h1, h2, h3⟩
      · rw [h3] at hy
        rw [List.mem_singleton.mp hy]
        show 1 < s
        omega
      · rw [h3] at hy
        rw [List.mem_singleton.mp hy]
        exact hd
      · rw [h3] at hy
        rcases List.mem_cons.mp hy with hy | hy
        · rw [hy]
          exact hd
        · rw [List.mem_singleton.mp hy]
          exact piece_lt g.p2 (by omega) h2
theorem wsum_snoc (wd : Wd) (b : Nat) (l : List (T3 Nat Nat Nat)) (x : T3 Nat Nat Nat) : wsum wd b (l ++ [x]) = wsum wd b l + x.c * W wd b x.a x.b := by
  unfold wsum
  rw [List.map_append, List.sum_append]
  simp
theorem wholeL_some {l : List (T3 Nat Nat Nat)} {s : Nat} {t : Nat} (h : wholeL l s = some t) : ∃ x, l = [x] ∧ x.b = s ∧ x.c = 1 ∧ x.a = t := by
  match l, h with
  | [], h => cases h
  | _ :: _ :: _, h => cases h
  | [x], h =>
    have h : (if x.b = s ∧ x.c = 1 then some x.a else none) = some t := h
    by_cases c : x.b = s ∧ x.c = 1
    · rw [if_pos c] at h
      exact ⟨x, rfl, c.1, c.2, Option.some.inj h⟩
    · rw [if_neg c] at h
      cases h
theorem wtab_succ (wd : Wd) (b m : Nat) : wtab wd b (m + 1) = wtab wd b m ++ [wrow wd b m] := by
  unfold wtab
  rw [List.range_succ, List.map_append] <;> rfl
theorem wrow_zero {wd : Wd} (g : Good wd) (b : Nat) : wrow wd b 0 = wd.rows.map fun _ => 0 := by
  unfold wrow
  refine List.ext_getElem? fun i => ?_
  rw [List.getElem?_map, List.getElem?_map]
  by_cases h : i < wd.rows.length
  · rw [List.getElem?_range h, List.getElem?_eq_getElem h]
    show some (W wd b i 0) = some 0
    rw [W_zero g]
  · rw [List.getElem?_eq_none (by simpa using h), List.getElem?_eq_none (by omega)] <;> rfl
end Mw
namespace Mw
open PySem PySem.Spec PyProof.Rows L2
abbrev spOwn (K : PySem.W.Frag) : Sp := sp4 K (fun (wd : Wd) (row s b : Nat) => row < wd.rows.length) fun wd row s b => own wd b row s
abbrev spLaid (K : PySem.W.Frag) : Sp := sp5 K (fun (wd : Wd) (row s b : Nat) (t : List (List Nat)) => Good wd ∧ row < wd.rows.length ∧ 1 ≤ s ∧ s < 2 ^ 59 ∧ t = wtab wd b s) fun wd row s b _ => W wd b row s
abbrev spUpto (K : PySem.W.Frag) : Sp := sp3 K (fun (wd : Wd) (b m : Nat) => Good wd ∧ m ≤ 1000) fun wd b m => wtab wd b (m + 1)
section
variable {P : Program} {w : World} {K : PySem.W.Frag} {mg : Str → Option Value} {base : Heap}
theorem c_own_weight (h : Has K mg "own_weight" d_own_weight) (T : Tx K mg base) : Cal P w K mg base "own_weight" 1 ["works", "row", "size", "number"] (spOwn K) := by
  refine h.cal sc_own_weight (fun _ _ _ _ _ _ us hl => match us, hl with | [_, _, _, _], _ => rfl) (fun vs H Q E h => ?_) (fun f cdv A outer s0 H vs Q E hr h => ?_)
  · obtain ⟨_, _, _, _, _, _, _, _, _, rfl, _⟩ := h
    rfl
  · obtain ⟨G, v1, v2, v3, v4, wd, row, s, b, rfl, gh, r1, r2, r3, r4, h0, q⟩ := h
    refine ⟨_, (pss_cons (ps_if (pt_cmpR (eqDK K hr.units) (pe_ix (ixL K) (fldK K (pv 0)) (pv 1) (fun _ _ => rfl)) (pe_tup (pa_cons pe_str (pa_cons (pv 3) pa_nil))) (nomark _)) (pss_one (ps_ret (pv 2))) pss_nil)
      (pss_one (ps_ret pe_int))), ?_⟩
    have hrow := List.getElem?_eq_getElem h0
    refine q_when (K := K) gh (et_t (ev_eqBin (ev_row T (ev_var r1) (ev_var r2) hrow) (ev_mkB (ev_var (x := b) r4)))) (fun e G2 H2 s2 => ?_) (fun e G2 H2 s2 => ?_)
    · refine s_ret (K := K) s2.gh (ev_var (x := s) r3) fun w G3 H3 s3 r3 => q w G3 H3 (s2.trans s3) ?_
      show rp K G3 w (own wd b row s)
      unfold own
      rw [hrow, of_decide_eq_true e, if_pos rfl]
      exact r3
    · refine s_ret (K := K) s2.gh (ev_n (n := 0)) fun w G3 H3 s3 r3 => q w G3 H3 (s2.trans s3) ?_
      have hne : ¬ (wd.rows[row]? = some (.bin b)) := fun z => of_decide_eq_false e (by rw [hrow] at z; exact Option.some.inj z)
      show rp K G3 w (own wd b row s)
      unfold own
      rw [if_neg hne]
      exact r3
theorem c_laid_weight (h : Has K mg "laid_weight" d_laid_weight) (T : Tx K mg base) (c_goes_on : Cal P w K mg base "goes_on" 2 ["works", "row", "size"] (spGoes K)) (c_own_weight : Cal P w K mg base "own_weight" 1 ["works", "row", "size", "number"] (spOwn K)) :
    Cal P w K mg base "laid_weight" 3 ["works", "row", "size", "number", "ahead_of"] (spLaid K) := by
  refine h.cal sc_laid_weight (fun _ _ _ _ _ _ us hl => match us, hl with | [_, _, _, _, _], _ => rfl) (fun vs H Q E h => ?_) (fun f cdv A outer s0 H vs Q E hr h => ?_)
  · obtain ⟨_, _, _, _, _, _, _, _, _, _, _, rfl, _⟩ := h
    rfl
  · obtain ⟨G, v1, v2, v3, v4, v5, wd, row, s, b, tab, rfl, gh, r1, r2, r3, r4, r5, ⟨g, h0, h1, h2, rfl⟩, q⟩ := h
    refine ⟨_, (pss_cons (ps_set (i := 5) sc_laid_weight.nd rfl (.inl rfl) (pe_c c_goes_on (hr.mono (by decide)) (pa_cons (pv 0) (pa_cons (pv 1) (pa_cons (pv 2) pa_nil)))))
      (pss_cons (ps_while PassesOwn.never (PW.pt (pw_and (pt_cmpR op_eq (pe_callB (lenK K) (by rfl) T.b_len PySem.boot_len (pa_cons (pv 5) pa_nil)) pe_int (nomark _)) (pw_and (pt_cmpR op_eq (pe_ix (ixT K) (pe_ix (ixL K) (pv 5) pe_int (fun _ _ => rfl)) pe_int (fun _ _ => rfl)) (pv 2) (nomark _)) (pw_and1 (pt_cmpR op_eq (pe_ix (ixT K) (pe_ix (ixL K) (pv 5) pe_int (fun _ _ => rfl)) pe_int (fun _ _ => rfl)) pe_int (nomark _)))))) (pss_cons (ps_set (i := 1) sc_laid_weight.nd rfl (.inl rfl) (pe_ix (ixT K) (pe_ix (ixL K) (pv 5) pe_int (fun _ _ => rfl)) pe_int (fun _ _ => rfl)))
      (pss_one (ps_set (i := 5) sc_laid_weight.nd rfl (.inl rfl) (pe_c c_goes_on (hr.mono (by decide)) (pa_cons (pv 0) (pa_cons (pv 1) (pa_cons (pv 2) pa_nil))))))))
      (pss_cons (ps_set (i := 6) sc_laid_weight.nd rfl (.inl rfl) (pe_c c_own_weight (hr.mono (by decide)) (pa_cons (pv 0) (pa_cons (pv 1) (pa_cons (pv 2) (pa_cons (pv 3) pa_nil))))))
      (pss_cons (ps_for PassesOwn.never rfl (pi_list (pv 5)) (pg_tup rfl (pgs_cons (pg_name (i := 7) sc_laid_weight.nd rfl (.inl rfl)) (pgs_cons (pg_name (i := 8) sc_laid_weight.nd rfl (.inl rfl)) (pgs_cons (pg_name (i := 9) sc_laid_weight.nd rfl (.inl rfl)) pgs_nil)))) (pss_one (ps_aug (i := 6) sc_laid_weight.nd rfl (.inl rfl) (pe_op op_mul (pv 9) (pe_ix (ixL K) (pe_ix (ixL K) (pv 4) (pv 8) (fun _ _ => rfl)) (pv 7) (fun _ _ => rfl))) ip_add)))
      (pss_one (ps_ret (pv 6))))))), ?_⟩
    obtain ⟨rho, h15, hd⟩ := g.rk
    have pok : 0 < wd.p ∧ wd.p < 1000 ∧ s < 2 ^ 60 := ⟨by have := g.p2; omega, by have := g.p9; omega, by omega⟩
    obtain rfl : v3 = .int (s : Int) := r3
    refine q_set (K := K) gh (ev_3 (ev_var r1) (ev_var r2) (ev_var (x := s) rfl) ⟨h0, pok⟩) fun v G2 H2 s2 r => ?_
    obtain rfl : v2 = .int (row : Int) := r2
    refine q_while (K := K) (fun m σ' H' => ∃ (r : Nat) (vg : V) (G' : Hp), σ' = [some v1, some (.int (r : Int)), some (.int (s : Int)), some v4, some v5, some vg, none, none, none, none] ∧ Stp K G H G' H' ∧ rp K G' vg (goes wd r s) ∧ r < wd.rows.length ∧ m = rho s r ∧ W wd b r s = W wd b row s)
      (rho s row) ⟨row, v, G2, rfl, s2, r, h0, rfl, rfl⟩ ?_
    rintro m σ' H' ⟨r, vg, G', rfl, st, rg, hr', rfl, hW⟩
    have hwl := whole_goes (row := r) g.p2 h1
    have ix : ∀ {x : T3 Nat Nat Nat} {G : Hp}, rp K G vg [x] → Ev K (tOp (rIxL K) (tVar 5) (tC (.int 0))) [some v1, some (.int (r : Int)), some (.int (s : Int)), some v4, some v5, some vg, none, none, none, none] G x := fun r => ev_ixN (ev_var r) ev_i (j := 0) rfl rfl
    refine ⟨G', (wholeL (goes wd r s) s).isSome, st.gh, ?_, fun e G3 H3 s3 => ?_, fun e G3 H3 s3 => ?_⟩
    · clear hwl
      generalize goes wd r s = l at rg
      match l with
      | [] => exact et_as (et_and (b := true) (et_t (ev_eqN (ev_len (ev_var rg)) (ev_n (n := 1)))) (fun e => by cases e)) rfl
      | a :: c :: l =>
        refine et_as (et_and (b := true) (et_t (ev_eqN (ev_len (ev_var rg)) (ev_n (n := 1)))) (fun e => ?_)) ?_
        · have := of_decide_eq_true e
          simp at this
        · have : ¬ (a :: c :: l).length = 1 := by simp
          rw [decide_eq_false this] <;> rfl
      | [x] =>
        refine et_as (et_and (et_t (ev_eqN (ev_len (ev_var rg)) (ev_n (n := 1)))) (fun _ => et_and (et_t (ev_eqN (ev_x1 (ix rg)) (ev_var (x := s) rfl))) (fun _ => et_t (ev_eqN (ev_x2 (ix rg)) (ev_n (n := 1)))))) ?_
        show (true && (decide (x.b = s) && decide (x.c = 1))) = (if x.b = s ∧ x.c = 1 then some x.a else none).isSome
        by_cases e1 : x.b = s <;> by_cases e2 : x.c = 1 <;> simp [e1, e2]
    · rw [hwl] at e
      obtain ⟨t, ht⟩ := Option.isSome_iff_exists.mp e
      rw [ht] at hwl
      obtain ⟨x, ex, _, _, ea⟩ := wholeL_some hwl
      rw [ex] at rg
      refine q_set (K := K) s3.gh (ev_x0 (ix (Rep.mono s3.gg rg))) fun v G4 H4 s4 r4 => ?_
      rw [ea] at r4
      obtain rfl : v = .int (t : Int) := r4
      have t4 := (st.trans s3).trans s4
      have tl := whole_lt g ht
      refine s_set (K := K) s4.gh (ev_3 (ev_var (Rep.mono t4.gg r1)) (ev_var (x := t) rfl) (ev_var (x := s) rfl) ⟨tl, pok⟩) fun v G5 H5 s5 r5 => ?_
      exact ⟨rho s t, hd s r t h1 ht, t, v, G5, rfl, t4.trans s5, r5, tl, rfl, by rw [← whole_W g ht]; exact hW⟩
    · rw [hwl] at e
      have hn : whole wd r s = none := by
        cases z : whole wd r s with
        | none => rfl
        | some t =>
          rw [z] at e
          cases e
      have hsm := goes_small g h1 hn
      have hcc := goes_c g (r := r) h1
      replace q : ∀ w G' H', Stp K G H G' H' → rp K G' w (own wd b r s + wsum wd b (goes wd r s)) → Q w H' := by
        rw [← W_goes g h1, hW]
        exact q
      have t3 := st.trans s3
      refine q_set (K := K) s3.gh (ev_4 (ev_var (Rep.mono t3.gg r1)) (ev_var (x := r) rfl) (ev_var (x := s) rfl) (ev_var (x := b) r4) hr') fun v G4 H4 s4 r4' => ?_
      have t4 := t3.trans s4
      obtain rfl : v = .int (own wd b r s : Nat) := r4'
      refine q_for (K := K) s4.gh (ev_var (Rep.mono (s3.gg.trans s4.gg) rg)) fun G5 H5 s5 _ => ⟨fun i σ' H' => ∃ a b' c G', σ' = [some v1, some (.int (r : Int)), some (.int (s : Int)), some v4, some v5, some vg, some (.int ((own wd b r s + wsum wd b ((goes wd r s).take i) : Nat) : Int)), a, b', c] ∧ Stp K G5 H5 G' H', ⟨none, none, none, G5, rfl, Stp.refl s5.gh⟩, ?_, ?_, ?_⟩
      · rintro i σ' H' ⟨a, b', c, G', _, s6⟩
        exact s6.gg.trans s6.gh
      · rintro i x v σ' H' hi rv ⟨a, b', c, G', rfl, s6⟩
        refine g_three (Rep.mono s6.gg rv) s6.gh fun a1 a2 a3 ra rb rc => ?_
        have hx := List.mem_of_getElem? hi
        obtain ⟨c1, c2, c3, c4⟩ := hcc x hx
        have r5' := Rep.mono ((t4.gg.trans s5.gg).trans s6.gg) r5
        refine s_aug (K := K) rfl s6.gh (ev_nI (ev_mulN (ev_var rc) (ev_ixN (ev_ixN (ev_var r5') (ev_nI (ev_var rb)) rfl (wtab_at (hsm x hx))) (ev_nI (ev_var ra)) rfl (wrow_at c2)) (cmul_of (by omega)))) fun G7 H7 s7 => ⟨some a1, some a2, some a3, G7, ?_, s6.trans s7⟩
        rw [take_snoc hi, wsum_snoc]
        show [some v1, some (V.int (r : Int)), some (V.int (s : Int)), some v4, some v5, some vg, some (V.int (((own wd b r s + wsum wd b ((goes wd r s).take i) : Nat) : Int) + ((x.c * W wd b x.a x.b : Nat) : Int))), some a1, some a2, some a3] = _
        have e0 : (((own wd b r s + wsum wd b ((goes wd r s).take i) : Nat) : Int) + ((x.c * W wd b x.a x.b : Nat) : Int)) = ((own wd b r s + (wsum wd b ((goes wd r s).take i) + x.c * W wd b x.a x.b) : Nat) : Int) := by omega
        rw [e0]
      · rintro σ' H' ⟨a, b', c, G', rfl, s6⟩
        rw [List.take_length]
        exact s_ret (K := K) s6.gh (ev_var (x := own wd b r s + wsum wd b (goes wd r s)) rfl) fun w G7 H7 s7 r7 => q w G7 H7 (((t4.trans s5).trans s6).trans s7) r7
end
end Mw
namespace Mw
open PySem PySem.Spec PyProof.Rows L2
section
variable {P : Program} {w : World} {K : PySem.W.Frag} {mg : Str → Option Value} {base : Heap}
theorem c_weights_upto (h : Has K mg "weights_upto" d_weights_upto) (T : Tx K mg base) (c_laid_weight : Cal P w K mg base "laid_weight" 3 ["works", "row", "size", "number", "ahead_of"] (spLaid K)) :
    Cal P w K mg base "weights_upto" 4 ["works", "number", "most"] (spUpto K) := by
  refine h.cal sc_weights_upto (fun _ _ _ _ _ _ us hl => match us, hl with | [_, _, _], _ => rfl) (fun vs H Q E h => ?_) (fun f cdv A outer s0 H vs Q E hr h => ?_)
  · obtain ⟨_, _, _, _, _, _, _, rfl, _⟩ := h
    rfl
  · obtain ⟨G, v1, v2, v3, wd, b, m, rfl, gh, r1, r2, r3, ⟨g, hm⟩, q⟩ := h
    refine ⟨_, (pss_cons (ps_set (i := 3) sc_weights_upto.nd rfl (.inr rfl) (pe_lst (pa_cons (pe_lc (own := [("row", 5)]) (g := (gName 5)) (tt := tYes) rfl sc_weights_upto.nd (pi_list (fldK K (pv 0))) (blkOk_by (N := N_weights_upto) (sc := defScope s_weights_upto) (by decide +kernel)) (fun _ _ _ _ _ => (pg_name (i := 5) sc_weights_upto.nd rfl (Or.inl rfl))) (fun _ _ _ _ _ => pts_nil) (fun _ _ _ _ _ => pe_int)) pa_nil)))
      (pss_cons (ps_for PassesOwn.never rfl (pi_range2 (by rfl) T.b_range (pa_cons pe_int (pa_cons (pe_op op_add (pv 2) pe_int) pa_nil))) (pg_name (i := 4) sc_weights_upto.nd rfl (.inr rfl)) (pss_one (ps_expr (pe_bm PySem.F.plainAttrs_list PySem.F.slot_list_append PySem.F.type_list_append mt_append (pv 3) (pa_cons (pe_lc (own := [("row", 5)]) (g := (gName 5)) (tt := tYes) rfl sc_weights_upto.nd (pi_range1 (by rfl) T.b_range (pa_cons (pe_callB (lenK K) (by rfl) T.b_len PySem.boot_len (pa_cons (fldK K (pv 0)) pa_nil)) pa_nil)) (blkOk_by (N := N_weights_upto) (sc := defScope s_weights_upto) (by decide +kernel)) (fun _ _ _ _ _ => (pg_name (i := 5) sc_weights_upto.nd rfl (Or.inl rfl))) (fun _ _ _ _ _ => pts_nil) (fun _ _ _ _ _ => (pe_c c_laid_weight (hr.mono (by decide)) (pa_cons (pv 0) (pa_cons (pv 5) (pa_cons (pv 4) (pa_cons (pv 1) (pa_cons (pv 3) pa_nil)))))))) pa_nil)))))
      (pss_one (ps_ret (pv 3))))), ?_⟩
    have n12 := g.n12
    refine q_setW (K := K) (l := [wrow wd b 0]) gh (ew_lst (el_cons (ev_as (ev_lcL (fun _ => true) (fun _ : Row => (0 : Nat)) (ev_rows T (ev_var r1)) (by omega) (fun _ => rfl) (fun i x v G1 _ _ _ => et_yes) (fun i x v G1 _ _ _ _ => ev_n (n := 0))) (by rw [fm_yes, wrow_zero g])) el_nil) (by simp)) fun L vs G2 H2 s2 nL gL hL r => ?_
    refine q_forR2 (K := K) (a := 1) (n := m) s2.gh (ev_i (i := 1)) (ev_add (ev_nI (ev_var r3)) (ev_i (i := 1))) rfl (by omega) (by omega) (by omega) fun G3 H3 s3 => ⟨fun i σ' H' => ∃ a c G' vs, σ' = [some v1, some v2, some v3, some (.ref L), a, c] ∧ Stp K G H G' H' ∧ G' L = none ∧ H' L = some (.lst vs) ∧ All2 (rp K G') vs (wtab wd b (i + 1)),
      ⟨none, none, G3, vs, rfl, s2.trans s3, (s3.ownL gL hL).1, (s3.ownL gL hL).2, r.mp fun _ _ r => Rep.mono s3.gg r⟩, ?_, ?_⟩
    · rintro i σ' H' hi ⟨a, c, G', vs, rfl, st, gp, hp, rv⟩
      have hlen : vs.length = i + 1 := by
        rw [rv.len]
        unfold wtab
        rw [List.length_map, List.length_range]
      have rt : rp K H' (.ref L) (wtab wd b (i + 1)) := ⟨L, vs, rfl, hp, rv.mp fun _ _ r => Rep.mono st.gh r⟩
      have r1' := Rep.mono (st.gg.trans st.gh) r1
      refine s_appT (K := K) (m := wrow wd b (i + 1)) rfl gp hp (by omega) st.gh (ew_as (ew_lcR (n := wd.rows.length) (fun _ => true) (fun t => W wd b t (i + 1)) (ev_nI (ev_len (ev_rows T (ev_var r1')))) rfl (by omega) (fun _ => rfl) (fun j G1 sg hj => et_yes)
        (fun j G1 sg hj _ => ev_5 (ev_var (Rep.mono sg r1')) (ev_var (x := j) rfl) (ev_var (x := i + 1) (by rw [Nat.add_comm i 1]; rfl)) (ev_var r2) (ev_var (Rep.mono sg rt)) ⟨g, hj, by omega, by omega, rfl⟩)) (by rw [fm_yes]; rfl)) fun v G4 H4 s4 r4 e4 g4 => ?_
      refine ⟨_, c, G4, _, rfl, (st.trans s4).putL nL g4 e4, g4, upd_same, ?_⟩
      rw [wtab_succ]
      exact (rv.mp fun _ _ r => Rep.mono s4.gg r).app (.one r4)
    · rintro σ' H' ⟨a, c, G', vs, rfl, st, gp, hp, rv⟩
      have st' := st.frz nL gp hp
      exact s_ret (K := K) st'.gh (ev_var (x := wtab wd b (m + 1)) (G := upd G' L (.lst vs)) ⟨L, vs, rfl, upd_same, rv.mp fun _ _ r => Rep.mono (same_new gp) r⟩) fun w G7 H7 s7 r7 => q w G7 H7 (st'.trans s7) r7
end
end Mw
/-! Rules of my own: a display of one pair, its key a tuple. -/
namespace Mw
open PySem PySem.Spec PyProof.Rows L2
def tDisp1T (tk tv : TE) : TE := fun σ H Q => ∀ p, H p = none → tk σ (upd H p (.dT [])) fun x H1 => tv σ H1 fun y H2 => ∃ (b : Addr) (ks : List Key), x = .ref b ∧ H2 b = some (.tup (ks.map kV)) ∧ H2 p = some (.dT []) ∧ Q (.ref p) (upd H2 p (.dT [(ks, y)]))
theorem pe_disp1T {X : Cx} {k v : Expr} {tk tv : TE} {pos : Pos} (hu : X.A.units + 1 < cLine) (hk : PE X k tk) (hv : PE X v tv) : PE X (.Dict [some k] [v] pos) (tDisp1T tk tv) := by
  refine ⟨fun pins s σ H Q I q => ?_⟩
  have hn := I.hok.fresh (Nat.le_refl s.heap.objs.size)
  have I1 := I.laid (a := s.heap.objs.size) (o := .dT []) (h' := s.heap.push { cls := .type "dict", data := .dict #[] }) (t' := s.toks) (fun _ _ q => Heap.get?_push_of_some _ q) (Nat.le_refl _) (dt_empty s.heap I.big)
  have hp := pps_cons (pos := pos) hk hv pps_nil
  rw [arm_eval_Dict]
  refine wpAny_bind (wpAny_standAt ?_)
  show wpAny _ _ (dictDisplay ((pairTrees [some k] [v] X.env pos).map fun p => (some p.1, p.2))) _ _ _
  rw [dictDisplay_pairs _ (by intro z; cases z) (by show 1 < 17; decide)]
  refine wpAny_bind (wpAny_subDictH (knd := tupleKind (mixKind X.prog X.w)) (Q := fun d s' => wpAny (model X.prog X.w) X.A (pure (Value.ref d)) (EP X pins σ Q) X.xe s') (show X.A.units < cLine by omega) (by show 1 ≤ 15; decide) ?_)
  refine thn (hp.run pins _ σ _ (fun ps H2 => match ps with
    | [(x, y)] => ∃ (b : Addr) (ks : List Key), x = .ref b ∧ H2 b = some (.tup (ks.map kV)) ∧ H2 s.heap.objs.size = some (.dT []) ∧ Q (.ref s.heap.objs.size) (upd H2 s.heap.objs.size (.dT [(ks, y)]))
    | _ => False) I1 (q _ hn)) fun ws s2 ⟨ps, H2, I2, rel, q2⟩ => ?_
  match ps, q2 with
  | [], q2 => exact q2.elim
  | _ :: _ :: _, q2 => exact q2.elim
  | [(x, y)], ⟨b, ks, ex, eb, ed, q2⟩ =>
    subst ex
    cases rel with
    | @cons p u ps us hr t =>
      cases t
      obtain ⟨u1, u2⟩ := u
      obtain ⟨h1, h2⟩ := hr
      obtain rfl : u1 = Value.ref b := h1
      obtain ⟨z, hd, xs, rt, dd⟩ := dt_of I2.hok ed
      have exs : xs = [] := by
        cases rt
        rfl
      subst exs
      refine ⟨[(ks, b, u2)], ⟨rfl, rfl, key_of I2.hok eb, True.intro⟩, dd, fun h' tk dd' hs => ?_⟩
      have e1 : storedAllH ([] : List (List Key × Addr × Value)) [(ks, b, u2)] = [(ks, b, u2)] := rfl
      rw [e1] at dd'
      obtain ⟨o, es, ep, hq, h3, h4, h5, _, h6⟩ := dd'
      refine wpAny_pure ⟨.ref s.heap.objs.size, upd H2 s.heap.objs.size (.dT [(ks, y)]), d_write I2 (by rw [ed]; exact True.intro) hs ⟨o, hq⟩ ⟨by show 1 ≤ sizeLine; decide, hd, [(ks, b, u2)], .cons ⟨rfl, ?_, h2⟩ .nil, o, es, ep, hq, h3, h4, h5, h6⟩, rfl, q2⟩
      rw [upd_ne (ne_of eb ed (fun z => nomatch z))]
      exact eb
end Mw
namespace Mw
/-! ### unlike things of a list are no more than it has -/
theorem nodup_le {α : Type} [DecidableEq α] : ∀ {l m : List α}, l.Nodup → (∀ x ∈ l, x ∈ m) → l.length ≤ m.length
  | [], _, _, _ => Nat.zero_le _
  | x :: l, m, h, hs => by
    obtain ⟨h1, h2⟩ := List.nodup_cons.mp h
    have hx := hs x List.mem_cons_self
    have ih := nodup_le (l := l) (m := m.erase x) h2 fun y hy => by
      have hne : y ≠ x := fun z => h1 (z ▸ hy)
      exact (List.mem_erase_of_ne hne).mpr (hs y (List.mem_cons_of_mem _ hy))
    rw [List.length_erase_of_mem hx] at ih
    have := List.length_pos_of_mem hx
    rw [List.length_cons]
    omega
/-! ### the sizes that come of a size -/
def Lv (p S q : Nat) : Prop := ∃ j, j ≤ 60 ∧ (q = S / p ^ j ∨ q = S / p ^ j + 1)
theorem div60 {p S : Nat} (hp : 2 ≤ p) (hS : S < 2 ^ 60) : S / p ^ 60 = 0 := Nat.div_eq_of_lt (Nat.lt_of_lt_of_le hS (Nat.pow_le_pow_left hp 60))
theorem Lv.self (p S : Nat) : Lv p S S := ⟨0, by omega, .inl (by rw [Nat.pow_zero, Nat.div_one])⟩
theorem Lv.zero {p S : Nat} (hp : 2 ≤ p) (hS : S < 2 ^ 60) : Lv p S 0 := ⟨60, Nat.le_refl _, .inl (div60 hp hS).symm⟩
theorem Lv.one {p S : Nat} (hp : 2 ≤ p) (hS : S < 2 ^ 60) : Lv p S 1 := ⟨60, Nat.le_refl _, .inr (by rw [div60 hp hS])⟩
theorem Lv.le {p S q : Nat} (h : Lv p S q) : q ≤ S + 1 := by
  obtain ⟨j, _, h⟩ := h
  have := Nat.div_le_self S (p ^ j)
  omega
theorem div_succ {q p : Nat} (hp : 1 ≤ p) : ((q + 1) % p = 0 ∧ (q + 1) / p = q / p + 1) ∨ (0 < (q + 1) % p ∧ (q + 1) / p = q / p) := by
  have h1 := Nat.div_add_mod q p
  have hm : q % p < p := Nat.mod_lt _ (by omega)
  by_cases h : q % p + 1 = p
  · have e : q + 1 = p * (q / p + 1) := by
      rw [Nat.mul_add]
      omega
    left
    rw [e]
    exact ⟨Nat.mul_mod_right _ _, Nat.mul_div_cancel_left _ (by omega)⟩
  · have e : q + 1 = p * (q / p) + (q % p + 1) := by omega
    have hl : q % p + 1 < p := by omega
    right
    constructor
    · rw [e, Nat.mul_add_mod, Nat.mod_eq_of_lt hl]
      omega
    · rw [e, Nat.mul_add_div (by omega), Nat.div_eq_of_lt hl, Nat.add_zero]
theorem Lv.child {p S q r : Nat} (hp : 2 ≤ p) (hS : S < 2 ^ 60) (h : Lv p S q) (hr : r = q / p ∨ (0 < q % p ∧ r = q / p + 1)) : Lv p S r := by
  obtain ⟨j, hj, h⟩ := h
  have e : S / p ^ j / p = S / p ^ (j + 1) := by rw [Nat.div_div_eq_div_mul, Nat.pow_succ]
  have key : r = S / p ^ (j + 1) ∨ r = S / p ^ (j + 1) + 1 := by
    rw [← e]
    rcases h with h | h
    · subst h
      rcases hr with h | ⟨_, h⟩
      · exact .inl h
      · exact .inr h
    · subst h
      rcases div_succ (q := S / p ^ j) (p := p) (by omega) with ⟨h1, h2⟩ | ⟨h1, h2⟩
      · rcases hr with h | ⟨h3, h⟩
        · exact .inr (by rw [h, h2])
        · omega
      · rcases hr with h | ⟨h3, h⟩
        · exact .inl (by rw [h, h2])
        · exact .inr (by rw [h, h2])
  by_cases h60 : j + 1 ≤ 60
  · exact ⟨j + 1, h60, key⟩
  · have e0 : S / p ^ (j + 1) = 0 := by
      have := div60 hp hS
      have hj60 : j = 60 := by omega
      rw [← e, hj60, this, Nat.zero_div]
    rw [e0] at key
    rcases key with h | h
    · rw [h]
      exact Lv.zero hp hS
    · rw [h]
      exact Lv.one hp hS
/-- all rows at all these sizes -/
def Un0 (n p S : Nat) : List (Nat × Nat) := (List.range n).flatMap fun r => (List.range 61).flatMap fun j => [(r, S / p ^ j), (r, S / p ^ j + 1)]
theorem mem_Un0 {n p S r q : Nat} (hr : r < n) (h : Lv p S q) : (r, q) ∈ Un0 n p S := by
  obtain ⟨j, hj, h⟩ := h
  refine List.mem_flatMap.mpr ⟨r, List.mem_range.mpr hr, List.mem_flatMap.mpr ⟨j, List.mem_range.mpr (by omega), ?_⟩⟩
  rcases h with h | h
  · rw [h]
    exact List.mem_cons_self
  · rw [h]
    exact List.mem_cons_of_mem _ List.mem_cons_self
theorem len_flat {α β : Type} (f : α → List β) (c : Nat) (hf : ∀ x, (f x).length = c) : ∀ l : List α, (l.flatMap f).length = l.length * c
  | [] => by simp
  | x :: l => by
    rw [List.flatMap_cons, List.length_append, len_flat f c hf l, hf, List.length_cons, Nat.succ_mul, Nat.add_comm]
theorem len_Un0 (n p S : Nat) : (Un0 n p S).length = n * 122 := by
  unfold Un0
  rw [len_flat _ 122 (fun r => by rw [len_flat _ 2 (fun _ => rfl), List.length_range]), List.length_range]
/-! ### where a grain goes: less deep, of these sizes -/
section
variable {wd : Wd} (g : Good wd)
include g
theorem goes_whole {r q t : Nat} (hq : 1 ≤ q) (h : whole wd r q = some t) : goes wd r q = [⟨t, q, 1⟩] := by
  have e := whole_goes (row := r) g.p2 hq
  rw [h] at e
  obtain ⟨x, h1, h2, h3, h4⟩ := wholeL_some e
  rw [h1]
  obtain ⟨a, b, c⟩ := x
  subst h2 h3 h4
  rfl
/-- not whole: pieces -/
theorem goes_part {r q : Nat} (hq : 1 ≤ q) (h : whole wd r q = none) : ∀ x ∈ goes wd r q, 2 ≤ q ∧ (x.b = q / wd.p ∨ (0 < q % wd.p ∧ x.b = q / wd.p + 1)) := by
  intro x hx
  cases e : wd.rows[r]? with
  | none =>
    unfold goes at hx
    rw [e] at hx
    cases hx
  | some rw' =>
    rw [goes_at e] at hx
    unfold whole at h
    rw [e] at h
    cases rw' with
    | bin k => cases hx
    | mesh o u v => cases h
    | crush t =>
      have h : (if q = 1 then some t else none) = none := h
      have hs1 : q ≠ 1 := fun z => by
        rw [if_pos z] at h
        cases h
      refine ⟨by omega, ?_⟩
      obtain ⟨y, hy, rfl⟩ := List.mem_map.mp hx
      rcases pieces_cases g.p2 hq with ⟨h1, h2, h3⟩ | ⟨h1, h2, h3⟩ | ⟨h1, h2, h3⟩
      · rw [h3] at hy
        rw [List.mem_singleton.mp hy]
        exact .inr ⟨by omega, show 1 = q / wd.p + 1 by omega⟩
      · rw [h3] at hy
        rw [List.mem_singleton.mp hy]
        exact .inl rfl
      · rw [h3] at hy
        rcases List.mem_cons.mp hy with hy | hy
        · rw [hy]
          exact .inl rfl
        · rw [List.mem_singleton.mp hy]
          exact .inr ⟨h2, rfl⟩
theorem goes_len {r q : Nat} (hq : 1 ≤ q) : (goes wd r q).length ≤ 2 := by
  cases e : wd.rows[r]? with
  | none =>
    unfold goes
    rw [e]
    exact Nat.zero_le _
  | some rw' =>
    rw [goes_at e]
    cases rw' with
    | bin k => exact Nat.zero_le _
    | mesh o u v => exact (by decide : 1 ≤ 2)
    | crush t =>
      show ((pieces q wd.p).map _).length ≤ 2
      rw [List.length_map]
      rcases pieces_cases g.p2 hq with ⟨_, _, h3⟩ | ⟨_, _, h3⟩ | ⟨_, _, h3⟩ <;> rw [h3] <;> simp
theorem goes_Lv {r q S : Nat} (hq : 1 ≤ q) (hS : S < 2 ^ 60) (h : Lv wd.p S q) : ∀ x ∈ goes wd r q, Lv wd.p S x.b := by
  intro x hx
  cases e : whole wd r q with
  | some t =>
    rw [goes_whole g hq e] at hx
    rw [List.mem_singleton.mp hx]
    exact h
  | none => exact h.child g.p2 hS (goes_part g hq e x hx).2
theorem goes_rank {rho : Nat → Nat → Nat} (h15 : ∀ s row, rho s row ≤ 15) (hd : ∀ s row t, 1 ≤ s → whole wd row s = some t → rho s t < rho s row) {r q : Nat} (hq : 1 ≤ q) :
    ∀ x ∈ goes wd r q, clog x.b * 16 + rho x.b x.a < clog q * 16 + rho q r := by
  intro x hx
  cases e : whole wd r q with
  | some t =>
    rw [goes_whole g hq e] at hx
    rw [List.mem_singleton.mp hx]
    have := hd q r t hq e
    show clog q * 16 + rho q t < _
    omega
  | none =>
    obtain ⟨h2, h3⟩ := goes_part g hq e x hx
    have := clog_piece (s := q) (p := wd.p) (q := x.b) g.p2 h2 (h3.elim (fun h => .inl (by omega)) fun h => .inr ⟨h.1, by omega⟩)
    have := h15 x.b x.a
    omega
end
theorem own_zero (wd : Wd) (b r : Nat) : own wd b r 0 = 0 := by
  unfold own
  split <;> rfl
end Mw
/-! Readings at one heap: one's own things are read, too. -/
namespace Mw
open PySem PySem.Spec PyProof.Rows L2
section
variable {K : PySem.W.Frag} {σ : L2.St} {G G' H H' : Hp} {ta tb tc te : TE} {t u : TT} {α β γ δ ε : Type} [Rep α] [Rep β] [Rep γ] [Rep δ] [Rep ε] {x : α} {y : β} {z : γ} {v : V} {D : Ends} {tu tw tz : TS} {g : TG}
def EA {α : Type} [Rep α] (K : PySem.W.Frag) (te : TE) (σ : L2.St) (G H : Hp) (x : α) : Prop := ∀ Q : VK, (∀ v G2 H2, Stp K G H G2 H2 → rp K G2 v x → Q v H2) → te σ H Q
def ETA (K : PySem.W.Frag) (tt : TT) (σ : L2.St) (G H : Hp) (b : Bool) : Prop := ∀ Q : Bool → Hp → Prop, (∀ G2 H2, Stp K G H G2 H2 → Q b H2) → tt σ H Q
def EWA (K : PySem.W.Frag) (te : TE) (σ : L2.St) (G H : Hp) (l : List α) : Prop := ∀ Q : VK, (∀ L vs G2 H2, Stp K G H G2 H2 → H L = none → G2 L = none → H2 L = some (.lst vs) → All2 (rp K G2) vs l → Q (.ref L) H2) → te σ H Q
theorem Ev.at_ (h : Ev K te σ G x) (gh : Same G H) : EA K te σ G H x := fun Q q => h G H (Same.refl G) gh Q q
theorem ET.at_ {b : Bool} (h : ET K t σ G b) (gh : Same G H) : ETA K t σ G H b := fun Q q => h G H (Same.refl G) gh Q q
theorem EvW.at_ {l : List α} (h : EvW K te σ G l) (gh : Same G H) : EWA K te σ G H l := fun Q q => h G H (Same.refl G) gh Q q
theorem EWA.frz {l : List α} (h : EWA K te σ G H l) : EA K te σ G H l := fun Q q => h Q fun L vs G2 H2 s n g h r =>
  q (.ref L) _ H2 (s.frz n g h) ⟨L, vs, rfl, upd_same, r.mp fun _ _ r => Rep.mono (same_new g) r⟩
theorem ea_as {x' : α} (h : EA K te σ G H x) (e : x = x') : EA K te σ G H x' := e ▸ h
theorem eta_as {b c : Bool} (h : ETA K t σ G H b) (e : b = c) : ETA K t σ G H c := e ▸ h
theorem ewa_as {l m : List α} (h : EWA K te σ G H l) (e : l = m) : EWA K te σ G H m := e ▸ h
theorem eta_t {b : Bool} (h : EA K te σ G H b) : ETA K (tTest te) σ G H b := fun Q q => h _ fun v G2 H2 s r => ⟨b, r, q G2 H2 s⟩
theorem eta_b {b : Bool} (h : EA K te σ G H b) : ETA K (tB te) σ G H b := fun Q q => h _ fun v G2 H2 s r => ⟨b, r, q G2 H2 s⟩
theorem ev_neg1 : Ev K (tUn (rU fun i => .int (-i)) (tC (.int 1))) σ G (-1 : Int) := fun G1 H1 a b Q q => ⟨1, rfl, q _ G1 H1 (Stp.refl b) rfl⟩
theorem q_whileA (W : Nat → L2.St → Hp → Prop) (m0 : Nat) (h0 : W m0 σ H)
    (hs : ∀ m σ' H', W m σ' H' → ∃ G' b, ETA K t σ' G' H' b ∧ (b = true → ∀ G2 H2, Stp K G' H' G2 H2 → tu { D with nx := fun σ2 H2 => ∃ m', m' < m ∧ W m' σ2 H2, ct := fun σ2 H2 => ∃ m', m' < m ∧ W m' σ2 H2, bk := tz D } σ' H2) ∧
      (b = false → ∀ G2 H2, Stp K G' H' G2 H2 → tz D σ' H2)) : tSeq (tWhile t tu) tz D σ H :=
  ⟨W, ⟨m0, h0⟩, fun m σ' H' w => by
    obtain ⟨G', b, ht, h1, h2⟩ := hs m σ' H' w
    refine ht _ fun G2 H2 s => ?_
    cases b with
    | true =>
      rw [if_pos rfl]
      exact ⟨_, fun σ2 H2 n => n, h1 rfl G2 H2 s⟩
    | false =>
      rw [if_neg (by decide)]
      exact h2 rfl G2 H2 s⟩
theorem eta_not {a : Bool} (h1 : ETA K t σ G H a) : ETA K (tNot t) σ G H (!a) := fun Q q => h1 _ fun G2 H2 s => q G2 H2 s
theorem sA_set {i : Nat} (h : EA K te σ G H x) (k : ∀ v G2 H2, Stp K G H G2 H2 → rp K G2 v x → D.nx (σ.set i (some v)) H2) : tAsg te (gName i) D σ H := h _ k
theorem qA_set {i : Nat} (h : EA K te σ G H x) (k : ∀ v G2 H2, Stp K G H G2 H2 → rp K G2 v x → tz D (σ.set i (some v)) H2) : tSeq (tAsg te (gName i)) tz D σ H := h _ k
theorem sA_ret (h : EA K te σ G H x) (k : ∀ v G2 H2, Stp K G H G2 H2 → rp K G2 v x → D.rt v H2) : tRet te D σ H := h _ k
theorem sA_if {b : Bool} (h : ETA K t σ G H b) (h1 : b = true → ∀ G2 H2, Stp K G H G2 H2 → tu D σ H2) (h2 : b = false → ∀ G2 H2, Stp K G H G2 H2 → tw D σ H2) : tIfS t tu tw D σ H := h _ fun G2 H2 s => by
  cases b with
  | true =>
    show tu D σ H2
    exact h1 rfl G2 H2 s
  | false =>
    show tw D σ H2
    exact h2 rfl G2 H2 s
theorem qA_if {b : Bool} (h : ETA K t σ G H b) (h1 : b = true → ∀ G2 H2, Stp K G H G2 H2 → tu { D with nx := tz D } σ H2) (h2 : b = false → ∀ G2 H2, Stp K G H G2 H2 → tw { D with nx := tz D } σ H2) : tSeq (tIfS t tu tw) tz D σ H := sA_if (D := { D with nx := tz D }) h h1 h2
theorem sA_aug {i : Nat} {a b : Int} (hx : σ[i]? = some (some (.int a))) (h : EA K te σ G H b) (k : ∀ G2 H2, Stp K G H G2 H2 → D.nx (σ.set i (some (.int (a + b)))) H2) : tAug i te (ipI fun i j => i + j) D σ H :=
  ⟨.int a, hx, h _ fun v G2 H2 s r => ⟨a, b, rfl, r, k G2 H2 s⟩⟩
theorem ea_mulN {a b : Nat} (gh : Same G H) (ha : Ev K ta σ G a) (hb : ∀ G2 H2, Stp K G H G2 H2 → EA K tb σ G2 H2 b) (h : CMul a b) : EA K (tOp (rI CMul fun i j => .int (i * j)) ta tb) σ G H (a * b) := fun Q q =>
  ha.at_ gh _ fun v G2 H2 s1 r1 => hb G2 H2 s1 _ fun w G3 H3 s2 r2 => ⟨a, b, r1, r2, h, q _ G3 H3 (s1.trans s2) (show V.int ((a : Int) * (b : Int)) = V.int ((a * b : Nat) : Int) by rw [Int.natCast_mul])⟩
/-- one's own list, read at a place -/
theorem ea_own {i : Nat} {l : Addr} {vs : List V} {xs : List α} {j : Int} (hi : σ[i]? = some (some (.ref l))) (gl : G l = none) (hl : H l = some (.lst vs)) (gh : Same G H) (hb : Ev K tb σ G j) (r : All2 (rp K G) vs xs) (h : atI xs j = some x) : EA K (tOp (rIxL K) (tVar i) tb) σ G H x := fun Q q =>
  ⟨.ref l, hi, hb.at_ gh _ fun w G2 H2 s r2 => by
    obtain ⟨e1, e2⟩ := s.ownL gl hl
    obtain ⟨u, h1, h2⟩ := atI_all r h
    exact ⟨l, vs, j, u, rfl, r2, SqL.of e2, h1, q u G2 H2 s (Rep.mono s.gg h2)⟩⟩
theorem ea_lenO {i : Nat} {l : Addr} {vs : List V} {n : Nat} (hi : σ[i]? = some (some (.ref l))) (hl : H l = some (.lst vs)) (gh : Same G H) (e : vs.length = n) : EA K (tCB (rLn K) (tCons (tVar i) tNil)) σ G H n := fun Q q =>
  ⟨.ref l, hi, l, vs, rfl, .inl (SqL.of hl), q _ G H (Stp.refl gh) (by rw [e]; rfl)⟩
theorem ea_gtN {a b : Nat} (ha : EA K ta σ G H a) (hb : ∀ G2 H2, Stp K G H G2 H2 → EA K tb σ G2 H2 b) : EA K (tOp (rI0 fun i j => .bl (decide (j < i))) ta tb) σ G H (decide (b < a)) := fun Q q =>
  ha _ fun v G2 H2 s1 r1 => hb G2 H2 s1 _ fun w G3 H3 s2 r2 => ⟨a, b, r1, r2, by
    show Q (V.bl (decide ((b : Int) < (a : Int)))) H3
    rw [dec_lt]
    exact q _ G3 H3 (s1.trans s2) rfl⟩
/-- xs.pop() -/
theorem s_pop {i : Nat} {l : Addr} {vs : List V} {y : V} (hi : σ[i]? = some (some (.ref l))) (hl : H l = some (.lst vs)) (hy : vs[vs.length - 1]? = some y) (k : D.nx σ (upd H l (.lst vs.dropLast))) : tDrop (tBM0 K "list" rPop (tVar i)) D σ H :=
  ⟨.ref l, hi, .inl ⟨rfl, vs, SqL.of hl⟩, l, vs, y, rfl, rfl, hl, hy, k⟩
/-- the table of what f says of pairs -/
def memo (f : Nat × Nat → Nat) (gs : List (Nat × Nat)) : List (List Key × V) := gs.map fun g => ([.inl (g.1 : Int), .inl (g.2 : Int)], .int (f g : Int))
theorem memo_at (f : Nat × Nat → Nat) (k : Nat × Nat) : ∀ gs : List (Nat × Nat), valV (memo f gs) [.inl (k.1 : Int), .inl (k.2 : Int)] = if k ∈ gs then some (.int (f k : Int)) else none
  | [] => rfl
  | g :: gs => by
    have ih := memo_at f k gs
    by_cases e : g = k
    · subst e
      rw [if_pos List.mem_cons_self]
      exact valV_pos rfl
    · have ne : ¬ (([.inl (g.1 : Int), .inl (g.2 : Int)] : List Key) = [.inl (k.1 : Int), .inl (k.2 : Int)]) := fun z => by
        simp only [List.cons.injEq, Sum.inl.injEq, and_true] at z
        exact e (Prod.ext (by omega) (by omega))
      show valV (([.inl (g.1 : Int), .inl (g.2 : Int)], V.int (f g : Int)) :: memo f gs) _ = _
      rw [valV_neg ne, ih]
      have : (k ∈ g :: gs) = (k ∈ gs) := by
        apply propext
        rw [List.mem_cons]
        exact ⟨fun h => h.elim (fun h => absurd h.symm e) id, .inr⟩
      simp only [this]
theorem memo_put (f : Nat × Nat → Nat) {k : Nat × Nat} {gs : List (Nat × Nat)} (h : k ∉ gs) : putK (memo f gs) [.inl (k.1 : Int), .inl (k.2 : Int)] (.int (f k : Int)) = memo f (gs ++ [k]) := by
  rw [putK_new _ (by rw [memo_at, if_neg h])]
  unfold memo
  rw [List.map_append] <;> rfl
theorem pairV {k : Nat × Nat} (r : rp K G v k) (gh : Same G H) : ∃ b, v = .ref b ∧ H b = some (.tup ((([.inl (k.1 : Int), .inl (k.2 : Int)] : List Key)).map kV)) := by
  obtain ⟨a, x, y, h1, h2, h3, h4⟩ := r
  refine ⟨a, h1, ?_⟩
  have h3 : x = .int (k.1 : Int) := h3
  have h4 : y = .int (k.2 : Int) := h4
  subst h3 h4
  exact gh _ _ h2
theorem ea_dget {i : Nat} {l : Addr} {f : Nat × Nat → Nat} {gs : List (Nat × Nat)} {k : Nat × Nat} (hi : σ[i]? = some (some (.ref l))) (gl : G l = none) (hl : H l = some (.dT (memo f gs))) (gh : Same G H) (hb : Ev K tb σ G k) (h : k ∈ gs) : EA K (tDGet (tVar i) tb) σ G H (f k) := fun Q q =>
  ⟨.ref l, hi, hb.at_ gh _ fun w G2 H2 s r2 => by
    obtain ⟨e1, e2⟩ := s.own gl hl (fun _ z => by cases z)
    obtain ⟨b, h1, h2⟩ := pairV r2 s.gh
    refine ⟨l, .int (f k : Int), rfl, ?_, q _ G2 H2 s rfl⟩
    rw [h1]
    have := DGet.t e2 h2
    rw [memo_at, if_pos h] at this
    exact this⟩
theorem ea_din {i : Nat} {l : Addr} {f : Nat × Nat → Nat} {gs : List (Nat × Nat)} {k : Nat × Nat} (hi : σ[i]? = some (some (.ref l))) (gl : G l = none) (hl : H l = some (.dT (memo f gs))) (gh : Same G H) (hb : Ev K tb σ G k) : EA K (tDIn tb (tVar i)) σ G H (decide (k ∈ gs)) := fun Q q =>
  hb.at_ gh _ fun w G2 H2 s r2 => by
    obtain ⟨e1, e2⟩ := s.own gl hl (fun _ z => by cases z)
    obtain ⟨b, h1, h2⟩ := pairV r2 s.gh
    refine ⟨.ref l, hi, l, _, rfl, by rw [h1]; exact DGet.t e2 h2, q _ G2 H2 s ?_⟩
    rw [memo_at]
    by_cases h : k ∈ gs
    · rw [if_pos h, decide_eq_true h] <;> rfl
    · rw [if_neg h, decide_eq_false h] <;> rfl
theorem ea_dnotin {i : Nat} {l : Addr} {f : Nat × Nat → Nat} {gs : List (Nat × Nat)} {k : Nat × Nat} (hi : σ[i]? = some (some (.ref l))) (gl : G l = none) (hl : H l = some (.dT (memo f gs))) (gh : Same G H) (hb : Ev K tb σ G k) : EA K (tDNotIn tb (tVar i)) σ G H (!decide (k ∈ gs)) := fun Q q =>
  hb.at_ gh _ fun w G2 H2 s r2 => by
    obtain ⟨e1, e2⟩ := s.own gl hl (fun _ z => by cases z)
    obtain ⟨b, h1, h2⟩ := pairV r2 s.gh
    refine ⟨.ref l, hi, l, _, rfl, by rw [h1]; exact DGet.t e2 h2, q _ G2 H2 s ?_⟩
    rw [memo_at]
    by_cases h : k ∈ gs
    · rw [if_pos h, decide_eq_true h] <;> rfl
    · rw [if_neg h, decide_eq_false h] <;> rfl
/-- {(a, b): 0} -/
theorem q_disp {i : Nat} {k : Nat × Nat} {tk : TE} (gh : Same G H) (h : Ev K tk σ G k) (kk : ∀ kn G2 H2, Stp K G H G2 H2 → H kn = none → G2 kn = none → H2 kn = some (.dT [([.inl (k.1 : Int), .inl (k.2 : Int)], .int 0)]) → tz D (σ.set i (some (.ref kn))) H2) :
    tSeq (tAsg (tDisp1T tk (tC (.int 0))) (gName i)) tz D σ H := fun kn hkn => by
  have s1 : Stp K G H G (upd H kn (.dT [])) := Stp.raw gh hkn
  refine h.at_ s1.gh _ fun v G2 H2 s2 r => ?_
  obtain ⟨e1, e2⟩ := s2.own (gh.free hkn) upd_same (fun _ z => by cases z)
  obtain ⟨b, h1, h2⟩ := pairV r s2.gh
  refine ⟨b, _, h1, h2, e2, kk kn G2 _ ((s1.trans s2).put hkn e1 e2 (fun _ z => by cases z) (fun _ z => by cases z)) hkn e1 upd_same⟩
/-! ### comprehensions at one heap -/
theorem Cw.turnA {L : Addr} {l : List α} {H' : Hp} {σ2 : L2.St} {b : Bool} {Nx : Hp → Prop} (w : Cw K G H L l H') (hn : H L = none) (hz : l.length < 50000) (ht : ∀ G1 H1, Stp K G H G1 H1 → ETA K t σ2 G1 H1 b) (he : b = true → ∀ G1 H1, Stp K G H G1 H1 → EA K te σ2 G1 H1 x)
    (hN : ∀ H2, Cw K G H L (if b = true then l ++ [x] else l) H2 → Nx H2) : t σ2 H' fun b H3 => if b = true then te σ2 H3 fun y H4 => ∃ acc, H4 L = some (.lst acc) ∧ acc.length < sizeLine ∧ Nx (upd H4 L (.lst (acc ++ [y]))) else Nx H3 := by
  obtain ⟨G', vs, s, g0, h0, r⟩ := w
  refine ht G' H' s _ fun G2 H2 s2 => ?_
  cases hb : b with
  | true =>
    show te σ2 H2 fun y H4 => ∃ acc, H4 L = some (.lst acc) ∧ acc.length < sizeLine ∧ Nx (upd H4 L (.lst (acc ++ [y])))
    refine he hb G2 H2 (s.trans s2) _ fun v G3 H3 s3 rv => ?_
    obtain ⟨g3, h3⟩ := (s2.trans s3).ownL g0 h0
    refine ⟨vs, h3, sz_lt (by rw [r.len]; omega), hN _ ?_⟩
    rw [if_pos hb]
    exact ⟨G3, _, ((s.trans s2).trans s3).putL hn g3 h3, g3, upd_same, (r.mp fun _ _ q => Rep.mono (s2.gg.trans s3.gg) q).app (.one rv)⟩
  | false =>
    show Nx H2
    obtain ⟨g2, h2⟩ := s2.ownL g0 h0
    refine hN _ ?_
    rw [if_neg (by rw [hb]; decide)]
    exact ⟨G2, vs, s.trans s2, g2, h2, r.mp fun _ _ q => Rep.mono s2.gg q⟩
theorem ewa_lcL {tl : TE} {j : Nat} {vs : List Nat} {l : List α} (p : α → Bool) (f : α → β) (h : EA K tl σ G H l) (hz : l.length < 50000) (hw : ∀ x, wipe ((wipe σ vs).set j (some x)) vs = wipe σ vs)
    (ht : ∀ (i : Nat) (x : α) v G1 H1, Stp K G H G1 H1 → l[i]? = some x → rp K G1 v x → ETA K t ((wipe σ vs).set j (some v)) G1 H1 (p x)) (he : ∀ (i : Nat) (x : α) v G1 H1, Stp K G H G1 H1 → l[i]? = some x → rp K G1 v x → p x = true → EA K te ((wipe σ vs).set j (some v)) G1 H1 (f x)) :
    EWA K (tLc (iList K tl) (gName j) t te vs) σ G H (fm l p f) := fun Q q => by
  refine h _ fun vl G1 H1 s r => ?_
  obtain ⟨A, ws, e1, e2, e3⟩ := r
  refine ⟨A, e1, ⟨ws, SqL.of (s.gh _ _ e2)⟩, fun L hL => ?_⟩
  refine lc_list (xs := ws) (fun i H' => Cw K G1 H1 L (fm (l.take i) p f) H') (Cw.nil s.gh hL) (fun i H' _ w => ?_) (fun i v H' hi w => ⟨hw v, ?_⟩) (fun H' w => ?_)
  · obtain ⟨G', vs, s', _, _, _⟩ := w
    exact SqL.of (s'.gh _ _ (s'.gg _ _ e2))
  · obtain ⟨x, hx, rx⟩ := e3.getV hi
    have hlen : (fm (l.take i) p f).length < 50000 := Nat.lt_of_le_of_lt (fm_len _ _ _) (Nat.lt_of_le_of_lt (List.length_take_le _ _) (by
      have := (List.getElem?_eq_some_iff.mp hx).1
      omega))
    refine Cw.turnA w hL hlen (fun G2 H2 s2 => ht i x v G2 H2 (s.trans s2) hx (Rep.mono s2.gg rx)) (fun hb G2 H2 s2 => he i x v G2 H2 (s.trans s2) hx (Rep.mono s2.gg rx) hb) fun H2 w2 => ?_
    show Cw K G1 H1 L (fm (l.take (i + 1)) p f) H2
    rw [take_snoc hx, fm_snoc]
    exact w2
  · rw [e3.len, List.take_length] at w
    exact w.out hL fun L vs G2 H2 s2 n2 g2 h2 r2 => q L vs G2 H2 (s.trans s2) (s.free n2) g2 h2 r2
theorem ewa_lcT {tl : TE} {j1 j2 j3 : Nat} {vs : List Nat} {l : List (T3 α γ δ)} (p : T3 α γ δ → Bool) (f : T3 α γ δ → β) (h : EA K tl σ G H l) (hz : l.length < 50000) (hw : ∀ x y z, wipe ((((wipe σ vs).set j1 (some x)).set j2 (some y)).set j3 (some z)) vs = wipe σ vs)
    (ht : ∀ (i : Nat) (x : T3 α γ δ) v w u G1 H1, Stp K G H G1 H1 → l[i]? = some x → rp K G1 v x.a → rp K G1 w x.b → rp K G1 u x.c → ETA K t ((((wipe σ vs).set j1 (some v)).set j2 (some w)).set j3 (some u)) G1 H1 (p x))
    (he : ∀ (i : Nat) (x : T3 α γ δ) v w u G1 H1, Stp K G H G1 H1 → l[i]? = some x → rp K G1 v x.a → rp K G1 w x.b → rp K G1 u x.c → p x = true → EA K te ((((wipe σ vs).set j1 (some v)).set j2 (some w)).set j3 (some u)) G1 H1 (f x)) :
    EWA K (tLc (iList K tl) (gTup K 3 (gCons (gName j1) (gCons (gName j2) (gCons (gName j3) gNil)))) t te vs) σ G H (fm l p f) := fun Q q => by
  refine h _ fun vl G1 H1 s r => ?_
  obtain ⟨A, ws, e1, e2, e3⟩ := r
  refine ⟨A, e1, ⟨ws, SqL.of (s.gh _ _ e2)⟩, fun L hL => ?_⟩
  refine lc_list (xs := ws) (fun i H' => Cw K G1 H1 L (fm (l.take i) p f) H') (Cw.nil s.gh hL) (fun i H' _ w => ?_) (fun i v H' hi w => ?_) (fun H' w => ?_)
  · obtain ⟨G', vs, s', _, _, _⟩ := w
    exact SqL.of (s'.gh _ _ (s'.gg _ _ e2))
  · obtain ⟨x, hx, rx⟩ := e3.getV hi
    have hlen : (fm (l.take i) p f).length < 50000 := Nat.lt_of_le_of_lt (fm_len _ _ _) (Nat.lt_of_le_of_lt (List.length_take_le _ _) (by
      have := (List.getElem?_eq_some_iff.mp hx).1
      omega))
    obtain ⟨G', vs', s', u1, u2, u3⟩ := id w
    refine g_three rx (s'.gg.trans s'.gh) fun v1 v2 v3 r1 r2 r3 => ⟨hw v1 v2 v3, ?_⟩
    refine Cw.turnA w hL hlen (fun G2 H2 s2 => ht i x v1 v2 v3 G2 H2 (s.trans s2) hx (Rep.mono s2.gg r1) (Rep.mono s2.gg r2) (Rep.mono s2.gg r3)) (fun hb G2 H2 s2 => he i x v1 v2 v3 G2 H2 (s.trans s2) hx (Rep.mono s2.gg r1) (Rep.mono s2.gg r2) (Rep.mono s2.gg r3) hb) fun H2 w2 => ?_
    show Cw K G1 H1 L (fm (l.take (i + 1)) p f) H2
    rw [take_snoc hx, fm_snoc]
    exact w2
  · rw [e3.len, List.take_length] at w
    exact w.out hL fun L vs G2 H2 s2 n2 g2 h2 r2 => q L vs G2 H2 (s.trans s2) (s.free n2) g2 h2 r2
end
end Mw
namespace Mw
open PySem PySem.Spec PyProof.Rows L2
theorem clog60 {q : Nat} (h : q < 2 ^ 61) : clog q ≤ 61 := clog_le 61 (Nat.le_of_lt h)
theorem last_snoc {α : Type} (l : List α) (h : 0 < l.length) : ∃ m x, l = m ++ [x] := by
  have ne : l ≠ [] := fun z => by
    rw [z] at h
    cases h
  exact ⟨l.dropLast, l.getLast ne, (List.dropLast_concat_getLast ne).symm⟩
theorem snoc_last {α : Type} (m : List α) (x : α) : (m ++ [x]).getLast? = some x := by simp
theorem atI_last {α : Type} (m : List α) (x : α) : atI (m ++ [x]) (-1) = some x := by
  unfold atI ixN
  rw [List.length_append, List.length_singleton]
  have e : (-1 + (((m.length + 1 : Nat)) : Int)).toNat = m.length := by omega
  rw [if_neg (by decide), if_pos (by omega), e]
  simp
/-- what stands when weight_in goes on -/
structure WinP (wd : Wd) (row S : Nat) (rho : Nat → Nat → Nat) (gs stk : List (Nat × Nat)) : Prop where
  nd : gs.Nodup
  un : ∀ g ∈ gs, g ∈ Un0 wd.rows.length wd.p S
  ok : ∀ g ∈ stk, g.1 < wd.rows.length ∧ 1 ≤ g.2 ∧ Lv wd.p S g.2
  ix : ∀ i g, stk[i]? = some g → i + 2 * (clog g.2 * 16 + rho g.2 g.1) ≤ 2100
  rt : (row, S) ∈ gs ∨ stk[0]? = some (row, S)
structure WinI (K : PySem.W.Frag) (G H : Hp) (wd : Wd) (b row S : Nat) (rho : Nat → Nat → Nat) (kn st : Addr) (gs stk : List (Nat × Nat)) (G' H' : Hp) : Prop where
  st_ : Stp K G H G' H'
  gk : G' kn = none
  hk : H' kn = some (.dT (memo (fun g => W wd b g.1 g.2) gs))
  gl : G' st = none
  hl : ∃ vs, H' st = some (.lst vs) ∧ All2 (rp K G') vs stk
  p : WinP wd row S rho gs stk
/-- how much is left -/
def winM (wd : Wd) (S : Nat) (rho : Nat → Nat → Nat) (gs stk : List (Nat × Nat)) : Nat := ((Un0 wd.rows.length wd.p S).length - gs.length) * 4000 + match stk.getLast? with
  | none => 0
  | some g => if g ∈ gs then 1600 + stk.length else clog g.2 * 16 + rho g.2 g.1
section
variable {K : PySem.W.Frag} {G H G' H' G4 H4 : Hp} {wd : Wd} {b row S : Nat} {rho : Nat → Nat → Nat} {kn st : Addr} {gs stk : List (Nat × Nat)} {k : Nat × Nat}
theorem WinI.on (v : WinI K G H wd b row S rho kn st gs stk G' H') (s : Stp K G' H' G4 H4) : WinI K G H wd b row S rho kn st gs stk G4 H4 := by
  obtain ⟨k1, k2⟩ := s.own v.gk v.hk (fun _ z => by cases z)
  obtain ⟨vs, hl, rv⟩ := v.hl
  obtain ⟨l1, l2⟩ := s.ownL v.gl hl
  exact ⟨v.st_.trans s, k1, k2, l1, ⟨vs, l2, rv.mp fun _ _ r => Rep.mono s.gg r⟩, v.p⟩
theorem WinI.ne (v : WinI K G H wd b row S rho kn st gs stk G' H') : kn ≠ st := fun z => by
  obtain ⟨vs, hl, _⟩ := v.hl
  have := v.hk
  rw [z, hl] at this
  cases this
theorem WinP.len (v : WinP wd row S rho gs stk) : stk.length ≤ 2101 := by
  by_cases h : stk.length = 0
  · omega
  · have := v.ix (stk.length - 1) _ (List.getElem?_eq_getElem (by omega))
    omega
theorem WinP.pop (v : WinP wd row S rho gs (stk ++ [k])) (h : k ∈ gs) : WinP wd row S rho gs stk := by
  refine ⟨v.nd, v.un, fun g hg => v.ok g (List.mem_append_left _ hg), fun i g hi => v.ix i g ?_, ?_⟩
  · rw [List.getElem?_append_left (List.getElem?_eq_some_iff.mp hi).1]
    exact hi
  · rcases v.rt with h1 | h1
    · exact .inl h1
    · cases stk with
      | nil =>
        have : k = (row, S) := by simpa using h1
        exact .inl (this ▸ h)
      | cons a l => exact .inr (by simpa using h1)
theorem WinP.push (v : WinP wd row S rho gs (stk ++ [k])) {l : List (Nat × Nat)} (hl : l.length ≤ 2) (h : ∀ x ∈ l, (x.1 < wd.rows.length ∧ 1 ≤ x.2 ∧ Lv wd.p S x.2) ∧ clog x.2 * 16 + rho x.2 x.1 < clog k.2 * 16 + rho k.2 k.1) : WinP wd row S rho gs (stk ++ [k] ++ l) := by
  refine ⟨v.nd, v.un, fun g hg => ?_, fun i g hi => ?_, v.rt.elim .inl fun h1 => .inr ?_⟩
  · rcases List.mem_append.mp hg with hg | hg
    · exact v.ok g hg
    · exact (h g hg).1
  · by_cases hlt : i < (stk ++ [k]).length
    · rw [List.getElem?_append_left hlt] at hi
      exact v.ix i g hi
    · rw [List.getElem?_append_right (by omega)] at hi
      have hm := List.mem_of_getElem? hi
      have h2 := (h g hm).2
      have h3 := v.ix stk.length k (by simp)
      have h4 := (List.getElem?_eq_some_iff.mp hi).1
      rw [List.length_append, List.length_singleton] at h4
      omega
  · cases stk <;> simpa using h1
theorem WinP.learn (v : WinP wd row S rho gs (stk ++ [k])) (h : k ∉ gs) : WinP wd row S rho (gs ++ [k]) (stk ++ [k]) := by
  have hk := v.ok k (by simp)
  refine ⟨?_, fun g hg => ?_, v.ok, v.ix, v.rt.elim (fun h => .inl (List.mem_append_left _ h)) .inr⟩
  · refine List.nodup_append.mpr ⟨v.nd, by simp, ?_⟩
    intro a ha b hb e
    rw [List.mem_singleton.mp hb] at e
    exact h (e ▸ ha)
  · rcases List.mem_append.mp hg with hg | hg
    · exact v.un g hg
    · rw [List.mem_singleton.mp hg]
      exact mem_Un0 hk.1 hk.2.2
theorem winM_pop (v : WinP wd row S rho gs (stk ++ [k])) (hS : S < 2 ^ 60) (h15 : ∀ s row, rho s row ≤ 15) (h : k ∈ gs) : winM wd S rho gs stk < winM wd S rho gs (stk ++ [k]) := by
  unfold winM
  rw [snoc_last]
  show _ < _ + if k ∈ gs then _ else _
  rw [if_pos h, List.length_append, List.length_singleton]
  refine Nat.add_lt_add_left ?_ _
  cases e : stk.getLast? with
  | none =>
    show 0 < 1600 + (stk.length + 1)
    omega
  | some g =>
    show (if g ∈ gs then _ else _) < _
    split
    · omega
    · have hg := v.ok g (List.mem_append_left _ (List.mem_of_getLast? e))
      have := hg.2.2.le
      have := clog60 (q := g.2) (by omega)
      have := h15 g.2 g.1
      omega
theorem winM_push {l : List (Nat × Nat)} (h : k ∉ gs) (hl : 0 < l.length) (hx : ∀ x ∈ l, x ∉ gs ∧ clog x.2 * 16 + rho x.2 x.1 < clog k.2 * 16 + rho k.2 k.1) : winM wd S rho gs (stk ++ [k] ++ l) < winM wd S rho gs (stk ++ [k]) := by
  obtain ⟨m, x, rfl⟩ := last_snoc l hl
  unfold winM
  rw [← List.append_assoc, snoc_last, snoc_last]
  obtain ⟨h1, h2⟩ := hx x (by simp)
  show _ + (if x ∈ gs then _ else _) < _ + if k ∈ gs then _ else _
  rw [if_neg h, if_neg h1]
  omega
theorem winM_learn (v : WinP wd row S rho gs (stk ++ [k])) (h : k ∉ gs) : winM wd S rho (gs ++ [k]) (stk ++ [k]) < winM wd S rho gs (stk ++ [k]) := by
  have hv := v.learn h
  have h1 := nodup_le hv.nd hv.un
  have h2 := v.len
  unfold winM
  rw [snoc_last]
  show _ + (if k ∈ gs ++ [k] then _ else _) < _ + if k ∈ gs then _ else _
  rw [if_neg h, if_pos (by simp)]
  rw [List.length_append, List.length_singleton] at h1 ⊢
  rw [List.length_append, List.length_singleton] at h2 ⊢
  omega
/-- d[k] = f k -/
theorem s_dputM {σ : L2.St} {D : Ends} {i j l : Nat} {f : Nat × Nat → Nat} {v : V} (hi : σ[i]? = some (some (.ref kn))) (hj : σ[j]? = some (some v)) (hl : σ[l]? = some (some (.int (f k : Int)))) (hk : H kn = some (.dT (memo f gs))) (gh : Same G H) (r : rp K G v k) (h : k ∉ gs) (hz : gs.length < 100000)
    (kk : D.nx σ (upd H kn (.dT (memo f (gs ++ [k]))))) : sDPut (tVar i) (tVar j) (tVar l) D σ H := by
  obtain ⟨b, h1, h2⟩ := pairV r gh
  subst h1
  refine ⟨_, hl, _, hi, _, hj, kn, _, rfl, DPut.t hk h2 (sz_lt (by unfold memo; rw [List.length_map]; exact hz)), ?_⟩
  rw [memo_put f h]
  exact kk
end
end Mw
namespace Mw
open PySem PySem.Spec PyProof.Rows L2
abbrev spWin (K : PySem.W.Frag) : Sp := sp4 K (fun (wd : Wd) (row s b : Nat) => Good wd ∧ row < wd.rows.length ∧ 1 ≤ s ∧ s + 1 < 2 ^ 60) fun wd row s b => W wd b row s
section
variable {P : Program} {w : World} {K : PySem.W.Frag} {mg : Str → Option Value} {base : Heap}
theorem c_weight_in (h : Has K mg "weight_in" d_weight_in) (T : Tx K mg base) (c_goes_on : Cal P w K mg base "goes_on" 2 ["works", "row", "size"] (spGoes K)) (c_own_weight : Cal P w K mg base "own_weight" 1 ["works", "row", "size", "number"] (spOwn K)) :
    Cal P w K mg base "weight_in" 3 ["works", "row", "size", "number"] (spWin K) := by
  refine h.cal sc_weight_in (fun _ _ _ _ _ _ us hl => match us, hl with | [_, _, _, _], _ => rfl) (fun vs H Q E h => ?_) (fun f cdv A outer s0 H vs Q E hr h => ?_)
  · obtain ⟨_, _, _, _, _, _, _, _, _, rfl, _⟩ := h
    rfl
  · have hu := hu_of hr
    obtain ⟨G, v1, v2, v3, v4, wd, row, S, b, rfl, gh, r1, r2, r3, r4, ⟨g, h0, h1, h2⟩, q⟩ := h
    refine ⟨_, (pss_cons (ps_set (i := 4) sc_weight_in.nd rfl (.inr rfl) (pe_disp1T hu (pe_tup (pa_cons (pv 1) (pa_cons pe_int pa_nil))) pe_int))
      (pss_cons (ps_set (i := 5) sc_weight_in.nd rfl (.inl rfl) (pe_lst (pa_cons (pe_tup (pa_cons (pv 1) (pa_cons (pv 2) pa_nil))) pa_nil)))
      (pss_cons (ps_while PassesOwn.never (pt_cmpR op_gt (pe_callB (lenK K) (by rfl) T.b_len PySem.boot_len (pa_cons (pv 5) pa_nil)) pe_int (nomark _)) (pss_cons (ps_set (i := 6) sc_weight_in.nd rfl (.inl rfl) (pe_ix (ixL K) (pv 5) (pe_un un_neg pe_int) (fun _ _ => rfl)))
      (pss_cons (ps_set (i := 7) sc_weight_in.nd rfl (.inl rfl) (pe_ifExp (pt_cmpR op_gt (pe_ix (ixT K) (pv 6) pe_int (fun _ _ => rfl)) pe_int (nomark _)) (pe_c c_goes_on (hr.mono (by decide)) (pa_cons (pv 0) (pa_cons (pe_ix (ixT K) (pv 6) pe_int (fun _ _ => rfl)) (pa_cons (pe_ix (ixT K) (pv 6) pe_int (fun _ _ => rfl)) pa_nil)))) (pe_lst pa_nil)))
      (pss_cons (ps_setLc (i := 11) (own := [("to", 8), ("piece", 9), ("many", 10)]) (g := (gTup K 3 (gCons (gName 8) (gCons (gName 9) (gCons (gName 10) gNil))))) rfl sc_weight_in.nd  rfl rfl (sw_true rfl rfl rfl (by decide +kernel)) (pi_list (pv 7)) (blkOk_by (N := N_weight_in) (sc := defScope s_weight_in) (by decide +kernel)) (fun _ _ _ _ _ => (pg_tup rfl (pgs_cons (pg_name (i := 8) sc_weight_in.nd rfl (Or.inl rfl)) (pgs_cons (pg_name (i := 9) sc_weight_in.nd rfl (Or.inl rfl)) (pgs_cons (pg_name (i := 10) sc_weight_in.nd rfl (Or.inl rfl)) pgs_nil))))) (fun _ _ _ _ _ => pts_one (pt_cmp (pc_dnotin hu (pe_tup (pa_cons (pv 8) (pa_cons (pv 9) pa_nil))) (pv 4)))) (fun _ _ _ _ _ => (pe_tup (pa_cons (pv 8) (pa_cons (pv 9) pa_nil)))))
      (pss_one (ps_if (pt_cmp (pc_din hu (pv 6) (pv 4))) (pss_one (ps_expr (pe_bm0 PySem.F.plainAttrs_list PySem.F.slot_list_pop PySem.F.type_list_pop mt_pop (pv 5)))) (pss_one (ps_if (pt_cmpR op_gt (pe_callB (lenK K) (by rfl) T.b_len PySem.boot_len (pa_cons (pv 11) pa_nil)) pe_int (nomark _)) (pss_one (ps_expr (pe_bm PySem.F.plainAttrs_list PySem.F.slot_list_extend PySem.F.type_list_extend mt_extend (pv 5) (pa_cons (pv 11) pa_nil)))) (pss_cons (ps_set (i := 12) sc_weight_in.nd rfl (.inl rfl) (pe_c c_own_weight (hr.mono (by decide)) (pa_cons (pv 0) (pa_cons (pe_ix (ixT K) (pv 6) pe_int (fun _ _ => rfl)) (pa_cons (pe_ix (ixT K) (pv 6) pe_int (fun _ _ => rfl)) (pa_cons (pv 3) pa_nil))))))
      (pss_cons (ps_for PassesOwn.never rfl (pi_list (pv 7)) (pg_tup rfl (pgs_cons (pg_name (i := 8) sc_weight_in.nd rfl (.inl rfl)) (pgs_cons (pg_name (i := 9) sc_weight_in.nd rfl (.inl rfl)) (pgs_cons (pg_name (i := 10) sc_weight_in.nd rfl (.inl rfl)) pgs_nil)))) (pss_one (ps_aug (i := 12) sc_weight_in.nd rfl (.inl rfl) (pe_op op_mul (pv 10) (pe_dget hu (pv 4) (pe_tup (pa_cons (pv 8) (pa_cons (pv 9) pa_nil))) (fun _ _ => rfl))) ip_add)))
      (pss_one (ps_dput hu (pv 4) (pv 6) (pv 12) rfl))))))))))))
      (pss_one (ps_ret (pe_dget hu (pv 4) (pe_tup (pa_cons (pv 1) (pa_cons (pv 2) pa_nil))) (fun _ _ => rfl))))))), ?_⟩
    have e2 : v2 = .int (row : Int) := r2
    have e3 : v3 = .int (S : Int) := r3
    subst e2 e3
    obtain ⟨rho, h15, hd⟩ := g.rk
    have n12 := g.n12
    have h2 : S + 1 < 2 ^ 60 := h2
    have h2' := h2
    replace h2 : S < 2 ^ 60 := by omega
    refine q_disp (K := K) gh (ev_t2 (ev_var (x := row) rfl) (ev_n (n := 0))) fun kn G2 H2 s2 nk' gk hk => ?_
    refine q_setW (K := K) (l := [(row, S)]) s2.gh (ew_lst (el_cons (ev_t2 (ev_var (x := row) rfl) (ev_var (x := S) rfl)) el_nil) (by simp)) fun st vs G3 H3 s3 ns0 gs hs rs => ?_
    obtain ⟨gk3, hk3⟩ := s3.own gk hk (fun _ z => by cases z)
    have lv0 : Lv wd.p S 0 := Lv.zero g.p2 h2
    have cS := clog60 (q := S) (by omega)
    have rS := h15 S row
    refine q_whileA (K := K) (fun m σ' H' => ∃ gs stk x6 x7 x8 x9 x10 x11 x12 G', winM wd S rho gs stk = m ∧ σ' = [some v1, some (.int (row : Int)), some (.int (S : Int)), some v4, some (.ref kn), some (.ref st), x6, x7, x8, x9, x10, x11, x12] ∧ WinI K G H wd b row S rho kn st gs stk G' H') _
      ⟨[(row, 0)], [(row, S)], none, none, none, none, none, none, none, G3, rfl, rfl, ⟨s2.trans s3, gk3, ?_, gs, ⟨vs, hs, rs⟩, ⟨by simp, ?_, ?_, ?_, .inr rfl⟩⟩⟩ ?_
    · rw [hk3]
      show some (HO.dT [([.inl (row : Int), .inl ((0 : Nat) : Int)], V.int 0)]) = some (.dT [([.inl (row : Int), .inl ((0 : Nat) : Int)], V.int ((W wd b row 0 : Nat) : Int))])
      rw [W_zero g] <;> rfl
    · intro x hx
      rw [List.mem_singleton.mp hx]
      exact mem_Un0 h0 lv0
    · intro x hx
      rw [List.mem_singleton.mp hx]
      exact ⟨h0, h1, Lv.self _ _⟩
    · intro i x hx
      obtain ⟨hi, rfl⟩ := List.getElem?_eq_some_iff.mp hx
      have hi : i < 1 := hi
      obtain rfl : i = 0 := by omega
      show 0 + 2 * (clog S * 16 + rho S row) ≤ 2100
      omega
    · rintro m σ' H' ⟨gs, stk, x6, x7, x8, x9, x10, x11, x12, G', rfl, rfl, I⟩
      obtain ⟨vs', hl', rv'⟩ := I.hl
      refine ⟨G', decide (0 < stk.length), eta_t (ea_gtN (ea_lenO rfl hl' I.st_.gh rv'.len) fun G2 H2 s => (ev_n (n := 0)).at_ s.gh), fun e G4 H4 s4 => ?_, fun e G4 H4 s4 => ?_⟩
      · obtain ⟨stk', k, rfl⟩ := last_snoc stk (of_decide_eq_true e)
        have I4 := I.on s4
        clear I hl' rv' e s4 H' G' vs'
        obtain ⟨vs', hl', rv'⟩ := I4.hl
        obtain ⟨ok1, ok2, ok3⟩ := I4.p.ok k (by simp)
        have kle := ok3.le
        refine qA_set (K := K) (ea_own rfl I4.gl hl' I4.st_.gh (ev_neg ev_i) rv' (atI_last stk' k)) fun v6 G5 H5 s5 r6 => ?_
        refine q_set (K := K) s5.gh (ev_ite (et_t (ev_gtN (ev_p1 (ev_var r6)) (ev_n (n := 0)))) (fun _ => ev_3 (ev_var (Rep.mono (I4.st_.gg.trans s5.gg) r1)) (ev_p0 (ev_var r6)) (ev_p1 (ev_var r6)) ⟨ok1, by have := g.p2; omega, by have := g.p9; omega, ?_⟩) (fun e => absurd (of_decide_eq_false e) (fun z => z ok2))) fun v7 G6 H6 s6 r7 => ?_
        · show k.2 < 2 ^ 60
          omega
        have I6 := I4.on (s5.trans s6)
        have l2 := goes_len g (r := k.1) ok2
        refine qA_set (K := K) (ewa_lcT (fun x : T3 Nat Nat Nat => !decide ((x.a, x.b) ∈ gs)) (fun x => (x.a, x.b)) ((ev_var r7).at_ s6.gh) (by omega) (fun _ _ _ => rfl) (fun i x v w' u G1 H1 s hx ra rb rc => ?_) (fun i x v w' u G1 H1 s hx ra rb rc _ => (ev_t2 (ev_var ra) (ev_var rb)).at_ s.gh)).frz fun v8 G7 H7 s7 r8 => ?_
        · have I := I6.on s
          exact eta_b (ea_dnotin rfl I.gk I.hk s.gh (ev_t2 (ev_var ra) (ev_var rb)))
        have I7 := I6.on s7
        have r67 : rp K G7 v6 k := Rep.mono (s6.gg.trans s7.gg) r6
        refine sA_if (K := K) (eta_b (ea_din rfl I7.gk I7.hk s7.gh (ev_var r67))) (fun e G8 H8 s8 => ?_) (fun e G8 H8 s8 => ?_)
        · have I8 := I7.on s8
          have e := of_decide_eq_true e
          obtain ⟨vs8, hl8, rv8⟩ := I8.hl
          obtain ⟨y, hy, _⟩ := rv8.get (i := stk'.length) (x := k) (by simp)
          have hlen : vs8.length - 1 = stk'.length := by
            rw [rv8.len]
            simp
          have rd := rv8.dropLast
          rw [List.dropLast_concat] at rd
          refine s_pop (K := K) rfl hl8 (by rw [hlen]; exact hy) ⟨_, winM_pop I8.p h2 h15 e, gs, stk', _, _, _, _, _, _, _, G8, rfl, rfl, ⟨I8.st_.putL (s2.free ns0) I8.gl hl8, I8.gk, by rw [upd_ne I8.ne]; exact I8.hk, I8.gl, ⟨_, upd_same, rd⟩, I8.p.pop e⟩⟩
        · have I8 := I7.on s8
          have e := of_decide_eq_false e
          have hfm : ∀ y ∈ fm (goes wd k.1 k.2) (fun x : T3 Nat Nat Nat => !decide ((x.a, x.b) ∈ gs)) (fun x => (x.a, x.b)), y ∉ gs ∧ ∃ x ∈ goes wd k.1 k.2, (x.a, x.b) = y := fun y hy => by
            obtain ⟨x, h1, h2, h3⟩ := mem_fm.mp hy
            refine ⟨fun z => ?_, x, h1, h3⟩
            rw [← h3] at z
            rw [decide_eq_true z] at h2
            cases h2
          have hnil : fm (goes wd k.1 k.2) (fun x : T3 Nat Nat Nat => !decide ((x.a, x.b) ∈ gs)) (fun x => (x.a, x.b)) = [] → ∀ x ∈ goes wd k.1 k.2, (x.a, x.b) ∈ gs := fun z x hx => by
            by_cases hg : (x.a, x.b) ∈ gs
            · exact hg
            · have : (x.a, x.b) ∈ fm (goes wd k.1 k.2) (fun x : T3 Nat Nat Nat => !decide ((x.a, x.b) ∈ gs)) (fun x => (x.a, x.b)) := mem_fm.mpr ⟨x, hx, by rw [decide_eq_false hg] <;> rfl, rfl⟩
              rw [z] at this
              cases this
          have hfl := fm_len (goes wd k.1 k.2) (fun x : T3 Nat Nat Nat => !decide ((x.a, x.b) ∈ gs)) (fun x => (x.a, x.b))
          generalize fm (goes wd k.1 k.2) (fun x : T3 Nat Nat Nat => !decide ((x.a, x.b) ∈ gs)) (fun x => (x.a, x.b)) = lk at r8 hfm hnil hfl
          refine s_if (K := K) s8.gh (et_t (ev_gtN (ev_len (ev_var (Rep.mono s8.gg r8))) (ev_n (n := 0)))) (fun e9 G9 H9 s9 => ?_) (fun e9 G9 H9 s9 => ?_)
          · have I9 := I8.on s9
            have e9 := of_decide_eq_true e9
            obtain ⟨vs9, hl9, rv9⟩ := I9.hl
            have hlen := I9.p.len
            refine s_ext (K := K) rfl I9.gl hl9 (by rw [rv9.len]; omega) s9.gh (ev_var (Rep.mono (s8.gg.trans s9.gg) r8)) fun ws G10 H10 s10 rw10 e10 g10 => ?_
            have I10 := I9.on s10
            refine ⟨_, winM_push e e9 (fun x hx => ?_), gs, stk' ++ [k] ++ lk, _, _, _, _, _, _, _, G10, rfl, rfl, ⟨I10.st_.putL (s2.free ns0) g10 e10, I10.gk, by rw [upd_ne I10.ne]; exact I10.hk, g10, ⟨_, upd_same, (rv9.mp fun _ _ r => Rep.mono s10.gg r).app rw10⟩, I10.p.push (by omega) fun x hx => ?_⟩⟩
            · obtain ⟨n1, y, hy, rfl⟩ := hfm x hx
              exact ⟨n1, goes_rank g h15 hd ok2 y hy⟩
            · obtain ⟨n1, y, hy, rfl⟩ := hfm x hx
              obtain ⟨c1, c2, c3, c4⟩ := goes_c g ok2 y hy
              exact ⟨⟨c2, c3, goes_Lv g ok2 h2 ok3 y hy⟩, goes_rank g h15 hd ok2 y hy⟩
          · have I9 := I8.on s9
            have e9 : lk = [] := List.length_eq_zero_iff.mp (Nat.eq_zero_of_not_pos (of_decide_eq_false e9))
            have hall := hnil e9
            have t9 := I9.st_
            have r79 := Rep.mono ((s7.gg.trans s8.gg).trans s9.gg) r7
            have r69 := Rep.mono (s8.gg.trans s9.gg) r67
            refine q_set (K := K) s9.gh (ev_4 (ev_var (Rep.mono t9.gg r1)) (ev_p0 (ev_var r69)) (ev_p1 (ev_var r69)) (ev_var (Rep.mono t9.gg r4)) ok1) fun v10 G10 H10 s10 r10 => ?_
            obtain rfl : v10 = .int (own wd b k.1 k.2 : Nat) := r10
            refine q_for (K := K) s10.gh (ev_var (Rep.mono s10.gg r79)) fun G11 H11 s11 _ => ⟨fun i σ' H' => ∃ a b' c G', σ' = [some v1, some (.int (row : Int)), some (.int (S : Int)), some v4, some (.ref kn), some (.ref st), some v6, some v7, a, b', c, some v8, some (.int ((own wd b k.1 k.2 + wsum wd b ((goes wd k.1 k.2).take i) : Nat) : Int))] ∧ Stp K G11 H11 G' H', ⟨x8, x9, x10, G11, rfl, Stp.refl s11.gh⟩, ?_, ?_, ?_⟩
            · rintro i σ' H' ⟨a, b', c, G', _, s12⟩
              exact s12.gg.trans s12.gh
            · rintro i x v σ' H' hi rv ⟨a, b', c, G', rfl, s12⟩
              refine g_three (Rep.mono s12.gg rv) s12.gh fun a1 a2 a3 ra rb rc => ?_
              have hx := List.mem_of_getElem? hi
              obtain ⟨c1, c2, c3, c4⟩ := goes_c g ok2 x hx
              have I12 := I9.on ((s10.trans s11).trans s12)
              refine sA_aug (K := K) rfl (b := ((x.c * W wd b x.a x.b : Nat) : Int)) (ea_mulN s12.gh (ev_var rc) (fun G2 H2 s => (by
                have I13 := I12.on s
                exact ea_dget (f := fun g => W wd b g.1 g.2) (k := (x.a, x.b)) rfl I13.gk I13.hk s.gh (ev_t2 (ev_var (Rep.mono s.gg ra)) (ev_var (Rep.mono s.gg rb))) (hall x hx))) (cmul_of (by omega))) fun G7 H7 s7 => ⟨some a1, some a2, some a3, G7, ?_, s12.trans s7⟩
              rw [take_snoc hi, wsum_snoc]
              have e0 : (((own wd b k.1 k.2 + wsum wd b ((goes wd k.1 k.2).take i) : Nat) : Int) + ((x.c * W wd b x.a x.b : Nat) : Int)) = ((own wd b k.1 k.2 + (wsum wd b ((goes wd k.1 k.2).take i) + x.c * W wd b x.a x.b) : Nat) : Int) := by omega
              show [some v1, some (V.int (row : Int)), some (V.int (S : Int)), some v4, some (V.ref kn), some (V.ref st), some v6, some v7, some a1, some a2, some a3, some v8, some (V.int (((own wd b k.1 k.2 + wsum wd b ((goes wd k.1 k.2).take i) : Nat) : Int) + ((x.c * W wd b x.a x.b : Nat) : Int)))] = _
              rw [e0]
            · rintro σ' H' ⟨a, b', c, G', rfl, s12⟩
              have s9' := (s10.trans s11).trans s12
              have I12 := I9.on s9'
              rw [List.take_length]
              have eW : own wd b k.1 k.2 + wsum wd b (goes wd k.1 k.2) = W wd b k.1 k.2 := (W_goes g ok2).symm
              have hz := nodup_le I12.p.nd I12.p.un
              rw [len_Un0] at hz
              obtain ⟨vs12, hl12, rv12⟩ := I12.hl
              refine s_dputM (K := K) (G := G') rfl rfl (by rw [eW]; rfl) I12.hk s12.gh (Rep.mono s9'.gg r69) e (by omega) ⟨_, winM_learn I12.p e, gs ++ [k], stk' ++ [k], _, _, _, _, _, _, _, G', rfl, rfl, ⟨I12.st_.put (nk') I12.gk I12.hk (fun _ z => by cases z) (fun _ z => by cases z), I12.gk, upd_same, I12.gl, ⟨vs12, by rw [upd_ne I12.ne.symm]; exact hl12, rv12⟩, I12.p.learn e⟩⟩
      · have I4 := I.on s4
        have e : stk = [] := List.length_eq_zero_iff.mp (Nat.eq_zero_of_not_pos (of_decide_eq_false e))
        have hin : (row, S) ∈ gs := I4.p.rt.elim id fun z => by
          rw [e] at z
          cases z
        exact sA_ret (K := K) (ea_dget (f := fun g => W wd b g.1 g.2) (k := (row, S)) rfl I4.gk I4.hk s4.gh (ev_t2 (ev_var (x := row) rfl) (ev_var (x := S) rfl)) hin) fun w G7 H7 s7 r7 => q w G7 H7 (I4.st_.trans s7) r7
end
end Mw
/-! Rules of my own: xs[i] += e. -/
namespace Mw
open PySem PySem.Spec PyProof.Rows L2
def rGetL : V → V → Hp → VK → Prop := fun o i H Q => ∃ p xs k z, o = .ref p ∧ i = .int (k : Nat) ∧ H p = some (.lst xs) ∧ xs[k]? = some z ∧ Q z H
theorem get_list {X : Cx} : PGet X rGetL := by
  intro pins s σ H o i ov iv Q I ro ri h
  obtain ⟨p, xs, k, z, rfl, rfl, hp, hz, q⟩ := h
  cases ro
  obtain ⟨t, rfl⟩ := ri
  obtain ⟨its, n, r, ho, hsz⟩ := I.lst hp
  obtain ⟨w, hw, rw'⟩ := r.get hz
  have hl := r.length
  have hn := line63
  have hk := (List.getElem?_eq_some_iff.mp hz).1
  refine wpAny_getItem_list (items := its.toArray) ⟨_, ho, rfl, n, rfl⟩ (by omega) (by omega) (x := w) ?_ ⟨z, H, I, rw', q⟩
  rw [Int.toNat_natCast]
  simpa using hw
section
variable {K : PySem.W.Frag} {σ : L2.St} {G G' H H' : Hp} {ta tb tc te : TE} {t u : TT} {α β : Type} [Rep α] [Rep β] {x : α} {v : V} {D : Ends} {tu tw tz : TS} {g : TG}
/-- xs[k] += e, xs of one's own -/
theorem s_augL {i j k : Nat} {l : Addr} {vs : List V} {a b : Int} (hi : σ[i]? = some (some (.ref l))) (hj : σ[j]? = some (some (.int (k : Int)))) (gl : G l = none) (hl : H l = some (.lst vs)) (ha : vs[k]? = some (.int a)) (h : EA K te σ G H b)
    (kk : ∀ G2 H2, Stp K G H G2 H2 → G2 l = none → H2 l = some (.lst vs) → D.nx σ (upd H2 l (.lst (vs.set k (.int (a + b)))))) : tAugS (tVar i) (tVar j) te rGetL (ipI fun i j => i + j) rSetL D σ H :=
  ⟨.ref l, hi, .int (k : Int), hj, l, vs, k, .int a, rfl, rfl, hl, ha, h _ fun v G2 H2 s r => by
    obtain ⟨e1, e2⟩ := s.ownL gl hl
    have hk := (List.getElem?_eq_some_iff.mp ha).1
    refine ⟨a, b, rfl, r, l, vs, (k : Int), k, rfl, rfl, e2, ?_, kk G2 H2 s e1 e2⟩
    unfold ixN
    rw [if_pos (by omega), if_pos (by omega)] <;> rfl⟩
/-- for i, x in enumerate(list) -/
theorem s_forN {tl : TE} {l : List α} {j1 j2 : Nat} (gh : Same G H) (h : Ev K tl σ G l)
    (k : ∀ G1 H1, Stp K G H G1 H1 → (∃ vl, rp K G1 vl l) → ∃ Pv : Nat → L2.St → Hp → Prop, Pv 0 σ H1 ∧ (∀ i σ' H', Pv i σ' H' → Same G1 H') ∧
      (∀ i x v σ' H' T, l[i]? = some x → rp K G1 v x → Pv i σ' H' → H' T = none → tu { D with nx := Pv (i + 1), ct := Pv (i + 1), bk := D.nx } ((σ'.set j1 (some (.int (i : Int)))).set j2 (some v)) (upd H' T (.tup [.int (i : Int), v]))) ∧ (∀ σ' H', Pv l.length σ' H' → D.nx σ' H')) :
    tFor (iEnum K (tCons tl tNil)) (gTup K 2 (gCons (gName j1) (gCons (gName j2) gNil))) tu D σ H := by
  refine h G H (Same.refl G) gh _ fun vl G1 H1 s r => ?_
  obtain ⟨Pv, h0, hs, ht, hd⟩ := k G1 H1 s ⟨vl, r⟩
  obtain ⟨a, vs, e1, e2, e3⟩ := r
  refine ⟨a, vs, by rw [e1], SqL.of (s.gh _ _ e2), for_it walk_enum Pv h0 (fun i σ' H' _ p => SqL.of (hs i σ' H' p _ _ e2)) (fun i v σ' H' H2' hi p y => ?_) (fun σ' H' p => hd σ' H' (by rw [← e3.len]; exact p))⟩
  obtain ⟨T, x1, x2, rfl, nT, rfl, y1, y2⟩ := y
  have y1 : V.int (i : Int) = x1 := Option.some.inj y1
  subst y1
  obtain ⟨x, hx, rx⟩ := e3.getV y2
  exact ⟨T, [.int (i : Int), x2], rfl, SqT.of upd_same, rfl, _, _, rfl, _, _, rfl, rfl, ht i x x2 σ' H' T hx rx p nT⟩
theorem q_forN {tl : TE} {l : List α} {j1 j2 : Nat} (gh : Same G H) (h : Ev K tl σ G l)
    (k : ∀ G1 H1, Stp K G H G1 H1 → (∃ vl, rp K G1 vl l) → ∃ Pv : Nat → L2.St → Hp → Prop, Pv 0 σ H1 ∧ (∀ i σ' H', Pv i σ' H' → Same G1 H') ∧
      (∀ i x v σ' H' T, l[i]? = some x → rp K G1 v x → Pv i σ' H' → H' T = none → tu { D with nx := Pv (i + 1), ct := Pv (i + 1), bk := tz D } ((σ'.set j1 (some (.int (i : Int)))).set j2 (some v)) (upd H' T (.tup [.int (i : Int), v]))) ∧ (∀ σ' H', Pv l.length σ' H' → tz D σ' H')) :
    tSeq (tFor (iEnum K (tCons tl tNil)) (gTup K 2 (gCons (gName j1) (gCons (gName j2) gNil))) tu) tz D σ H := s_forN (D := { D with nx := tz D }) gh h k
end
end Mw
namespace Mw
open PySem PySem.Spec PyProof.Rows L2
def wfrom (wd : Wd) (row s : Nat) : List Nat := (List.range 6).map fun b => W wd b row s
def wtot (wd : Wd) (b : Nat) (l : List (Nat × Nat)) : Nat := (l.map fun x => x.2 * W wd b 0 x.1).sum
def lotW (wd : Wd) (l : List (Nat × Nat)) : List Nat := (List.range 6).map fun b => wtot wd b l
theorem wtot_snoc (wd : Wd) (b : Nat) (l : List (Nat × Nat)) (x : Nat × Nat) : wtot wd b (l ++ [x]) = wtot wd b l + x.2 * W wd b 0 x.1 := by
  unfold wtot
  rw [List.map_append, List.sum_append]
  simp
abbrev spFrom (K : PySem.W.Frag) : Sp := sp3 K (fun (wd : Wd) (row s : Nat) => Good wd ∧ row < wd.rows.length ∧ 1 ≤ s ∧ s + 1 < 2 ^ 60) wfrom
abbrev spLotW (K : PySem.W.Frag) : Sp := sp2 K (fun (wd : Wd) (lot : List (Nat × Nat)) => Good wd ∧ ∀ x ∈ lot, 1 ≤ x.1 ∧ x.1 + 1 < 2 ^ 60) lotW
/-- the totals so far -/
def mid (wd : Wd) (l : List (Nat × Nat)) (s m j : Nat) : List Nat := (List.range 6).map fun b => wtot wd b l + if b < j then m * W wd b 0 s else 0
theorem mid_zero (wd : Wd) (l : List (Nat × Nat)) (s m : Nat) : mid wd l s m 0 = lotW wd l := rfl
theorem mid_six (wd : Wd) (l : List (Nat × Nat)) (s m : Nat) : mid wd l s m 6 = lotW wd (l ++ [(s, m)]) := by
  refine List.map_congr_left fun b hb => ?_
  rw [wtot_snoc, if_pos (List.mem_range.mp hb)]
theorem mid_at {wd : Wd} {l : List (Nat × Nat)} {s m j k : Nat} (h : k < 6) : (mid wd l s m j)[k]? = some (wtot wd k l + if k < j then m * W wd k 0 s else 0) := by
  unfold mid
  rw [List.getElem?_map, List.getElem?_range h] <;> rfl
theorem mid_set {wd : Wd} {l : List (Nat × Nat)} {s m j : Nat} (h : j < 6) : (mid wd l s m j).set j (wtot wd j l + m * W wd j 0 s) = mid wd l s m (j + 1) := by
  refine List.ext_getElem? fun k => ?_
  by_cases hk : k < 6
  · rw [mid_at hk, List.getElem?_set]
    by_cases e : j = k
    · subst e
      have : j < (mid wd l s m j).length := by
        unfold mid
        rw [List.length_map, List.length_range]
        exact h
      rw [if_pos rfl, if_pos this, if_pos (by omega)]
    · rw [if_neg e, mid_at hk]
      by_cases h2 : k < j
      · rw [if_pos h2, if_pos (by omega)]
      · rw [if_neg h2, if_neg (by omega)]
  · have e1 : (mid wd l s m (j + 1))[k]? = none := List.getElem?_eq_none (by
      unfold mid
      rw [List.length_map, List.length_range]
      omega)
    rw [e1]
    exact List.getElem?_eq_none (by
      unfold mid
      rw [List.length_set, List.length_map, List.length_range]
      omega)
section
variable {P : Program} {w : World} {K : PySem.W.Frag} {mg : Str → Option Value} {base : Heap}
theorem c_weights_from (h : Has K mg "weights_from" d_weights_from) (T : Tx K mg base) (c_weight_in : Cal P w K mg base "weight_in" 3 ["works", "row", "size", "number"] (spWin K)) :
    Cal P w K mg base "weights_from" 4 ["works", "row", "size"] (spFrom K) := by
  refine h.cal sc_weights_from (fun _ _ _ _ _ _ us hl => match us, hl with | [_, _, _], _ => rfl) (fun vs H Q E h => ?_) (fun f cdv A outer s0 H vs Q E hr h => ?_)
  · obtain ⟨_, _, _, _, _, _, _, rfl, _⟩ := h
    rfl
  · obtain ⟨G, v1, v2, v3, wd, row, s, rfl, gh, r1, r2, r3, ⟨g, h0, h1, h2⟩, q⟩ := h
    refine ⟨_, (pss_one (ps_ret (pe_lc (own := [("number", 3)]) (g := (gName 3)) (tt := tYes) rfl sc_weights_from.nd (pi_range1 (by rfl) T.b_range (pa_cons pe_int pa_nil)) (blkOk_by (N := N_weights_from) (sc := defScope s_weights_from) (by decide +kernel)) (fun _ _ _ _ _ => (pg_name (i := 3) sc_weights_from.nd rfl (Or.inl rfl))) (fun _ _ _ _ _ => pts_nil) (fun _ _ _ _ _ => (pe_c c_weight_in (hr.mono (by decide)) (pa_cons (pv 0) (pa_cons (pv 1) (pa_cons (pv 2) (pa_cons (pv 3) pa_nil))))))))), ?_⟩
    refine s_ret (K := K) gh (ev_lcR (n := 6) (fun _ => true) (fun b => W wd b row s) (ev_i (i := 6)) rfl (by omega) (fun _ => rfl) (fun j G1 sg hj => et_yes)
      (fun j G1 sg hj _ => ev_4 (ev_var (Rep.mono sg r1)) (ev_var r2) (ev_var r3) (ev_var (x := j) rfl) ⟨g, h0, h1, h2⟩)) fun w G7 H7 s7 r7 => q w G7 H7 s7 ?_
    rw [fm_yes] at r7
    exact r7
theorem c_lot_weights (h : Has K mg "lot_weights" d_lot_weights) (T : Tx K mg base) (c_weights_from : Cal P w K mg base "weights_from" 4 ["works", "row", "size"] (spFrom K)) :
    Cal P w K mg base "lot_weights" 5 ["works", "lot"] (spLotW K) := by
  refine h.cal sc_lot_weights (fun _ _ _ _ _ _ us hl => match us, hl with | [_, _], _ => rfl) (fun vs H Q E h => ?_) (fun f cdv A outer s0 H vs Q E hr h => ?_)
  · obtain ⟨_, _, _, _, _, rfl, _⟩ := h
    rfl
  · obtain ⟨G, v1, v2, wd, lot, rfl, gh, r1, r2, ⟨g, hlot⟩, q⟩ := h
    refine ⟨_, (pss_cons (ps_setLc (i := 3) (own := [("number", 2)]) (g := (gName 2)) (tt := tYes) rfl sc_lot_weights.nd  rfl rfl (sw_true rfl rfl rfl (by decide +kernel)) (pi_range1 (by rfl) T.b_range (pa_cons pe_int pa_nil)) (blkOk_by (N := N_lot_weights) (sc := defScope s_lot_weights) (by decide +kernel)) (fun _ _ _ _ _ => (pg_name (i := 2) sc_lot_weights.nd rfl (Or.inl rfl))) (fun _ _ _ _ _ => pts_nil) (fun _ _ _ _ _ => pe_int))
      (pss_cons (ps_for PassesOwn.never rfl (pi_list (pv 1)) (pg_tup rfl (pgs_cons (pg_name (i := 4) sc_lot_weights.nd rfl (.inl rfl)) (pgs_cons (pg_name (i := 5) sc_lot_weights.nd rfl (.inl rfl)) pgs_nil))) (pss_one (ps_for PassesOwn.never rfl (pi_enum (by rfl) T.b_enumerate (pa_cons (pe_c c_weights_from (hr.mono (by decide)) (pa_cons (pv 0) (pa_cons pe_int (pa_cons (pv 4) pa_nil)))) pa_nil)) (pg_tup rfl (pgs_cons (pg_name (i := 2) sc_lot_weights.nd rfl (.inl rfl)) (pgs_cons (pg_name (i := 6) sc_lot_weights.nd rfl (.inl rfl)) pgs_nil))) (pss_one (ps_augS (pv 3) (pv 2) get_list (pe_op op_mul (pv 5) (pv 6)) ip_add set_list)))))
      (pss_one (ps_ret (pv 3))))), ?_⟩
    refine q_setW (K := K) (l := lotW wd []) gh (ew_as (ew_lcR (n := 6) (fun _ => true) (fun b => (0 : Nat)) (ev_i (i := 6)) rfl (by omega) (fun _ => rfl) (fun j G1 sg hj => et_yes) (fun j G1 sg hj _ => ev_n)) (by rw [fm_yes]; rfl)) fun L vs G2 H2 s2 nL gL hL r => ?_
    have cvt : ∀ {G' : Hp} {vs : List V} {ns : List Nat}, All2 (rp K G') vs ns → vs = ns.map fun n : Nat => V.int (n : Int) := fun h => by
      induction h with
      | nil => rfl
      | cons r t ih => rw [show _ = _ from r, ih]; rfl
    have cvf : ∀ (G' : Hp) (ns : List Nat), All2 (rp K G') (ns.map fun n : Nat => V.int (n : Int)) ns := fun G' ns => by
      induction ns with
      | nil => exact .nil
      | cons a l ih => exact .cons rfl ih
    have hL : H2 L = some (.lst ((lotW wd []).map fun n : Nat => V.int (n : Int))) := by rw [hL, cvt r]
    refine q_for (K := K) s2.gh (ev_var (Rep.mono s2.gg r2)) fun G3 H3 s3 _ => ⟨fun i σ' H' => ∃ x2 x4 x5 x6 G', σ' = [some v1, some v2, x2, some (.ref L), x4, x5, x6] ∧ Stp K G H G' H' ∧ Same G3 G' ∧ G' L = none ∧ H' L = some (.lst ((lotW wd (lot.take i)).map fun n : Nat => V.int (n : Int))),
      ⟨none, none, none, none, G3, rfl, s2.trans s3, Same.refl G3, (s3.ownL gL hL).1, (s3.ownL gL hL).2⟩, ?_, ?_, ?_⟩
    · rintro i σ' H' ⟨x2, x4, x5, x6, G', _, st, sg, _⟩
      exact sg.trans st.gh
    · rintro i x v σ' H' hi rv ⟨x2, x4, x5, x6, G', rfl, st, sg, gp, hp⟩
      refine g_pair (Rep.mono sg rv) st.gh fun a1 a2 ra rb => ?_
      obtain ⟨b1, b2⟩ := hlot x (List.mem_of_getElem? hi)
      have h0 : 0 < wd.rows.length := g.n1
      refine s_forN (K := K) st.gh (ev_3 (ev_var (Rep.mono st.gg r1)) (ev_n (n := 0)) (ev_var ra) ⟨g, h0, b1, b2⟩) fun G5 H5 s5 _ => ⟨fun j σ' H' => ∃ x2 x6 G', σ' = [some v1, some v2, x2, some (.ref L), some a1, some a2, x6] ∧ Stp K G H G' H' ∧ Same G5 G' ∧ G' L = none ∧ H' L = some (.lst ((mid wd (lot.take i) x.1 x.2 j).map fun n : Nat => V.int (n : Int))),
        ⟨x2, x6, G5, rfl, st.trans s5, Same.refl G5, (s5.ownL gp hp).1, (s5.ownL gp hp).2⟩, ?_, ?_, ?_⟩
      · rintro j σ' H' ⟨x2, x6, G', _, st, sg, _⟩
        exact sg.trans st.gh
      · rintro j y vy σ' H' T hj ry ⟨x2', x6', G', rfl, st', sg', gp', hp'⟩ nT
        have hj6 : j < 6 := by
          have := (List.getElem?_eq_some_iff.mp hj).1
          unfold wfrom at this
          rw [List.length_map, List.length_range] at this
          exact this
        have ey : y = W wd j 0 x.1 := by
          unfold wfrom at hj
          rw [List.getElem?_map, List.getElem?_range hj6] at hj
          exact (Option.some.inj hj).symm
        subst ey
        have st6 := st'.trans (Stp.raw (o := .tup [.int (j : Int), vy]) st'.gh nT)
        obtain ⟨gp6, hp6⟩ := (Stp.raw (K := K) (o := .tup [.int (j : Int), vy]) st'.gh nT).ownL gp' hp'
        have le := W_le g (b := j) (row := 0) (s := x.1)
        refine s_augL (K := K) (a := ((wtot wd j (lot.take i) : Nat) : Int)) (b := ((x.2 * W wd j 0 x.1 : Nat) : Int)) rfl rfl gp6 hp6 ?_ ((ev_nI (ev_mulN (ev_var (Rep.mono (s5.gg.trans sg') rb)) (ev_var (Rep.mono sg' ry)) (.inr ⟨by omega, by omega⟩))).at_ st6.gh) fun G7 H7 s7 g7 h7 => ⟨_, _, G7, rfl, (st6.trans s7).putL nL g7 h7, sg'.trans s7.gg, g7, ?_⟩
        · rw [List.getElem?_map, mid_at hj6, if_neg (Nat.lt_irrefl _)] <;> rfl
        · rw [upd_same, ← mid_set hj6, List.map_set]
          have e0 : (((wtot wd j (lot.take i) : Nat) : Int) + ((x.2 * W wd j 0 x.1 : Nat) : Int)) = ((wtot wd j (lot.take i) + x.2 * W wd j 0 x.1 : Nat) : Int) := by omega
          rw [e0]
      · rintro σ' H' ⟨x2', x6', G', rfl, st', sg', gp', hp'⟩
        refine ⟨_, _, _, _, G', rfl, st', (sg.trans s5.gg).trans sg', gp', ?_⟩
        have e6 : (wfrom wd 0 x.1).length = 6 := by
          unfold wfrom
          rw [List.length_map, List.length_range]
        rw [e6, mid_six] at hp'
        rw [take_snoc hi]
        exact hp'
    · rintro σ' H' ⟨x2, x4, x5, x6, G', rfl, st, sg, gp, hp⟩
      rw [List.take_length] at hp
      have st' := st.frz nL gp hp
      exact s_ret (K := K) st'.gh (ev_var (x := lotW wd lot) (G := upd G' L _) ⟨L, _, rfl, upd_same, cvf _ _⟩) fun w G7 H7 s7 r7 => q w G7 H7 (st'.trans s7) r7
end
end Mw
/-! Rows of whole numbers: dividing out, what is left of a row. -/
namespace Mw
open PySem PySem.Spec PyProof.Rows L2
def gcdL (row : List Int) : Nat := row.foldl (fun g x => Nat.gcd g x.natAbs) 0
theorem gcd_fold_dvd (l : List Int) : ∀ g : Nat, (l.foldl (fun g x => Nat.gcd g x.natAbs) g) ∣ g ∧ ∀ x ∈ l, (l.foldl (fun g x => Nat.gcd g x.natAbs) g) ∣ x.natAbs := by
  induction l with
  | nil => exact fun g => ⟨Nat.dvd_refl _, fun x h => by cases h⟩
  | cons y l ih =>
    intro g
    obtain ⟨h1, h2⟩ := ih (Nat.gcd g y.natAbs)
    refine ⟨Nat.dvd_trans h1 (Nat.gcd_dvd_left _ _), fun x hx => ?_⟩
    rcases List.mem_cons.mp hx with h | h
    · rw [h]
      exact Nat.dvd_trans h1 (Nat.gcd_dvd_right _ _)
    · exact h2 x h
theorem gcd_fold_great (l : List Int) (d : Nat) : ∀ g : Nat, d ∣ g → (∀ x ∈ l, d ∣ x.natAbs) → d ∣ (l.foldl (fun g x => Nat.gcd g x.natAbs) g) := by
  induction l with
  | nil => exact fun g h _ => h
  | cons y l ih => exact fun g h hx => ih _ (Nat.dvd_gcd h (hx y List.mem_cons_self)) fun x h' => hx x (List.mem_cons_of_mem _ h')
theorem gcdL_dvd {row : List Int} {x : Int} (h : x ∈ row) : (gcdL row : Int) ∣ x := Int.natAbs_dvd_natAbs.mp ((Int.natAbs_natCast (gcdL row)).symm ▸ (gcd_fold_dvd row 0).2 x h)
theorem gcdL_great {row : List Int} {d : Nat} (h : ∀ x ∈ row, d ∣ x.natAbs) : d ∣ gcdL row := gcd_fold_great row d 0 (Nat.dvd_zero d) h
theorem gcdL_zero {row : List Int} (h : gcdL row = 0) : ∀ x ∈ row, x = 0 := fun x hx => by
  have := gcdL_dvd hx
  rw [h] at this
  exact Int.zero_dvd.mp this
def low (row : List Int) : List Int := if gcdL row = 0 then row else row.map fun x => x / (gcdL row : Int)
theorem low_len (row : List Int) : (low row).length = row.length := by
  unfold low
  split
  · rfl
  · rw [List.length_map]
/-- the factor -/
def fac (row : List Int) : Int := if gcdL row = 0 then 1 else (gcdL row : Int)
theorem fac_pos (row : List Int) : 0 < fac row := by
  unfold fac
  split
  · decide
  · omega
theorem low_mul (row : List Int) : row = (low row).map fun x => fac row * x := by
  unfold low fac
  by_cases h : gcdL row = 0
  · rw [if_pos h, if_pos h]
    simp
  · rw [if_neg h, if_neg h, List.map_map]
    conv => lhs; rw [← List.map_id row]
    refine List.map_congr_left fun x hx => ?_
    exact (Int.mul_ediv_cancel' (gcdL_dvd hx)).symm
def gt (row : List Int) (k : Nat) : Int := row.getD k 0
theorem gt_low (row : List Int) (k : Nat) : gt row k = fac row * gt (low row) k := by
  conv => lhs; rw [low_mul row]
  unfold gt
  rw [List.getD_eq_getElem?_getD, List.getD_eq_getElem?_getD, List.getElem?_map]
  cases (low row)[k]? with
  | none => simp
  | some x => rfl
theorem gt_mem {row : List Int} {x : Int} (h : x ∈ row) : ∃ k, k < row.length ∧ gt row k = x := by
  obtain ⟨k, hk, e⟩ := List.mem_iff_getElem.mp h
  refine ⟨k, hk, ?_⟩
  unfold gt
  rw [List.getD_eq_getElem?_getD, List.getElem?_eq_getElem hk, e] <;> rfl
theorem gt_out {row : List Int} {k : Nat} (h : row.length ≤ k) : gt row k = 0 := by
  unfold gt
  rw [List.getD_eq_getElem?_getD, List.getElem?_eq_none h] <;> rfl
theorem gt_in {row : List Int} {k : Nat} (h : k < row.length) : row[k]? = some (gt row k) := by
  unfold gt
  rw [List.getD_eq_getElem?_getD, List.getElem?_eq_getElem h] <;> rfl
theorem mem_gt {row : List Int} {k : Nat} (h : gt row k ≠ 0) : gt row k ∈ row := by
  have hk : k < row.length := by
    apply Classical.byContradiction
    intro z
    exact h (gt_out (by omega))
  exact List.mem_of_getElem? (gt_in hk)
def comb (a b : Int) (x y : List Int) : List Int := List.zipWith (fun u v => a * u - b * v) x y
theorem comb_len {a b : Int} {x y : List Int} (h : x.length = y.length) : (comb a b x y).length = x.length := by
  unfold comb
  rw [List.length_zipWith, h, Nat.min_self]
theorem gt_comb {a b : Int} {x y : List Int} (h : x.length = y.length) (k : Nat) : gt (comb a b x y) k = a * gt x k - b * gt y k := by
  unfold gt comb
  rw [List.getD_eq_getElem?_getD, List.getD_eq_getElem?_getD, List.getD_eq_getElem?_getD, List.getElem?_zipWith]
  by_cases hk : k < x.length
  · rw [List.getElem?_eq_getElem hk, List.getElem?_eq_getElem (h ▸ hk)] <;> rfl
  · rw [List.getElem?_eq_none (by omega), List.getElem?_eq_none (by omega)]
    simp
def stepR (rest : List Int) (pb : Nat × List Int) : List Int := if gt rest pb.1 = 0 then rest else low (comb (gt pb.2 pb.1) (gt rest pb.1) rest pb.2)
def restOf (span : List (Nat × List Int)) (row : List Int) : List Int := span.foldl stepR row
/-- the first place that is not 0 -/
def fpAt : Nat → List Int → Int
  | _, [] => -1
  | i, x :: l => if x = 0 then fpAt (i + 1) l else (i : Int)
def fplace (row : List Int) : Int := fpAt 0 row
theorem fpAt_none : ∀ (i : Nat) (l : List Int), (∀ x ∈ l, x = 0) → fpAt i l = -1
  | _, [], _ => rfl
  | i, x :: l, h => by
    rw [fpAt, if_pos (h x List.mem_cons_self)]
    exact fpAt_none (i + 1) l fun y hy => h y (List.mem_cons_of_mem _ hy)
theorem fpAt_some : ∀ (i k : Nat) (l : List Int) (x : Int), l[k]? = some x → x ≠ 0 → (∀ j, j < k → gt l j = 0) → fpAt i l = ((i + k : Nat) : Int)
  | _, _, [], _, h, _, _ => by simp at h
  | i, 0, y :: l, x, h, hx, _ => by
    have e : y = x := by simpa using h
    rw [fpAt, if_neg (e ▸ hx)] <;> rfl
  | i, k + 1, y :: l, x, h, hx, hz => by
    have e : y = 0 := hz 0 (by omega)
    rw [fpAt, if_pos e, fpAt_some (i + 1) k l x (by simpa using h) hx fun j hj => hz (j + 1) (by omega)]
    congr 1
    omega
theorem fpAt_spec : ∀ (i : Nat) (l : List Int), (fpAt i l = -1 ∧ ∀ x ∈ l, x = 0) ∨ ∃ k : Nat, fpAt i l = ((i + k : Nat) : Int) ∧ k < l.length ∧ gt l k ≠ 0
  | _, [] => .inl ⟨rfl, fun x h => by cases h⟩
  | i, x :: l => by
    by_cases e : x = 0
    · rw [fpAt, if_pos e]
      rcases fpAt_spec (i + 1) l with ⟨h1, h2⟩ | ⟨k, h1, h2, h3⟩
      · refine .inl ⟨h1, fun y hy => ?_⟩
        rcases List.mem_cons.mp hy with h | h
        · rw [h, e]
        · exact h2 y h
      · refine .inr ⟨k + 1, ?_, by rw [List.length_cons]; omega, h3⟩
        rw [h1]
        congr 1
        omega
    · rw [fpAt, if_neg e]
      exact .inr ⟨0, rfl, by rw [List.length_cons]; omega, e⟩
theorem fplace_none {row : List Int} : fplace row = -1 ↔ ∀ x ∈ row, x = 0 := by
  constructor
  · intro h
    rcases fpAt_spec 0 row with ⟨_, h2⟩ | ⟨k, h1, _, _⟩
    · exact h2
    · have : fplace row = ((0 + k : Nat) : Int) := h1
      omega
  · exact fpAt_none 0 row
theorem fplace_some {row : List Int} (h : fplace row ≠ -1) : ∃ k : Nat, fplace row = (k : Int) ∧ k < row.length ∧ gt row k ≠ 0 := by
  rcases fpAt_spec 0 row with ⟨h1, _⟩ | ⟨k, h1, h2, h3⟩
  · exact absurd h1 h
  · refine ⟨k, ?_, h2, h3⟩
    rw [Nat.zero_add] at h1
    exact h1
def isSum (span : List (Nat × List Int)) (row : List Int) : Bool := decide (fplace (restOf span row) = -1)
def widen (span : List (Nat × List Int)) (row : List Int) : List (Nat × List Int) := if fplace (restOf span row) = -1 then span else span ++ [((fplace (restOf span row)).toNat, low (restOf span row))]
/-! ### when the numbers are not too great -/
def LowOk (row : List Int) : Prop := gcdL row ≠ 0 → ∀ x ∈ row, CDivP x (gcdL row)
def Fit : List (Nat × List Int) → List Int → Prop
  | [], _ => True
  | pb :: sp, rest => pb.1 < rest.length ∧ rest.length = pb.2.length ∧ rest.length < 50000 ∧ (gt rest pb.1 ≠ 0 → (∀ k, CMulW (gt pb.2 pb.1) (gt rest k) ∧ CMulW (gt rest pb.1) (gt pb.2 k)) ∧ LowOk (comb (gt pb.2 pb.1) (gt rest pb.1) rest pb.2)) ∧ Fit sp (stepR rest pb)
theorem lowOk_bits {row : List Int} {b : Nat} (hb : ∀ k, (gt row k).natAbs < 2 ^ b) (h9 : b ≤ 9000) (h0 : 0 < b) : LowOk row := by
  intro hg x hx
  refine ⟨by omega, PyProof.noPylong_of_log2 ?_⟩
  have : ∃ y ∈ row, y ≠ 0 := by
    apply Classical.byContradiction
    intro z
    have : ∀ y ∈ row, y = 0 := fun y hy => Classical.byContradiction fun n => z ⟨y, hy, n⟩
    have h2 : gcdL row = 0 := by
      have : (0 : Nat) ∣ gcdL row := gcdL_great fun y hy => by rw [this y hy]; exact Nat.dvd_refl 0
      exact Nat.zero_dvd.mp this
    exact hg h2
  obtain ⟨y, hy, ny⟩ := this
  obtain ⟨k, _, hk⟩ := gt_mem hy
  have h1 := Nat.le_of_dvd (by omega) ((gcd_fold_dvd row 0).2 y hy)
  have h2 := hb k
  rw [hk] at h2
  have h3 : gcdL row < 2 ^ b := Nat.lt_of_le_of_lt h1 h2
  have e : ((gcdL row : Nat) : Int).natAbs = gcdL row := Int.natAbs_natCast _
  exact Nat.lt_of_lt_of_le (PySem.Flt.log2_lt_of h0 (by rw [e]; exact h3)) h9
theorem lowOk_one {row : List Int} {k : Nat} (h : ∀ j, j ≠ k → gt row j = 0) : LowOk row := by
  intro hg x hx
  obtain ⟨j, hj, ej⟩ := gt_mem hx
  have hd : ∀ y ∈ row, (gt row k).natAbs ∣ y.natAbs := fun y hy => by
    obtain ⟨i, hi, ei⟩ := gt_mem hy
    by_cases e : i = k
    · rw [← ei, e]
      exact Nat.dvd_refl _
    · rw [← ei, h i e]
      exact Nat.dvd_zero _
  have h1 := gcdL_great hd
  refine divp_ok (by omega) ?_
  by_cases e : j = k
  · have h2 : gcdL row ∣ (gt row k).natAbs := (gcd_fold_dvd row 0).2 _ (by rw [← e, ej]; exact hx)
    have h3 : gcdL row = (gt row k).natAbs := Nat.dvd_antisymm h2 h1
    have h4 : Builtin.Int.intBits x = Builtin.Int.intBits ((gcdL row : Nat) : Int) := by
      rw [← ej, e, h3]
      unfold Builtin.Int.intBits
      have a1 : (((gt row k).natAbs : Nat) : Int).natAbs = (gt row k).natAbs := Int.natAbs_natCast _
      rw [a1]
      by_cases z : gt row k = 0
      · rw [z]
        rfl
      · have n1 : (gt row k == 0) = false := by simpa using z
        have n2 : ((((gt row k).natAbs : Nat) : Int) == 0) = false := by simpa using z
        rw [n1, n2]
    omega
  · have : x = 0 := by rw [← ej, h j e]
    subst this
    have : Builtin.Int.intBits 0 = 0 := rfl
    omega
end Mw
/-! Rules of my own: // of any size that C divides by itself. -/
namespace Mw
open PySem PySem.Spec PyProof.Rows L2
theorem op_divB {X : Cx} : OpR X (binaryOp .FloorDiv) (rI CDivP fun i j => .int (i / j)) := opI fun i j _ _ _ _ _ hc q => by
  have h1 : (0 : Int) < j := hc.1
  exact floordiv_int (by omega) (by rw [Int.fdiv_eq_ediv_of_nonneg i (by omega)]; exact q) (.inl hc.2)
section
variable {K : PySem.W.Frag} {σ : L2.St} {G G' H H' : Hp} {ta tb tc te : TE}
theorem ev_divP {i j : Int} (ha : Ev K ta σ G i) (hb : Ev K tb σ G j) (hc : CDivP i j) : Ev K (tOp (rI CDivP fun i j => .int (i / j)) ta tb) σ G (i / j) := ev_opI ha hb hc
end
end Mw
namespace Mw
open PySem PySem.Spec PyProof.Rows L2
abbrev spGcd (K : PySem.W.Frag) : Sp := sp1 K (fun _ : List Int => True) gcdL
abbrev spLow (K : PySem.W.Frag) : Sp := sp1 K (fun row : List Int => LowOk row ∧ row.length < 50000) low
abbrev spFst (K : PySem.W.Frag) : Sp := sp1 K (fun _ : List Int => True) fplace
abbrev spRest (K : PySem.W.Frag) : Sp := sp2 K (fun (span : List (Nat × List Int)) (row : List Int) => Fit span row) restOf
abbrev spIsSum (K : PySem.W.Frag) : Sp := sp2 K (fun (span : List (Nat × List Int)) (row : List Int) => Fit span row) isSum
abbrev spWiden (K : PySem.W.Frag) : Sp := sp2 K (fun (span : List (Nat × List Int)) (row : List Int) => Fit span row ∧ LowOk (restOf span row) ∧ (restOf span row).length < 50000 ∧ span.length < 50000) widen
section
variable {P : Program} {w : World} {K : PySem.W.Frag} {mg : Str → Option Value} {base : Heap}
theorem c_greatest_part (h : Has K mg "greatest_part" d_greatest_part) (T : Tx K mg base) : Cal P w K mg base "greatest_part" 1 ["row"] (spGcd K) := by
  refine h.cal sc_greatest_part (fun _ _ _ _ _ _ us hl => match us, hl with | [_], _ => rfl) (fun vs H Q E h => ?_) (fun f cdv A outer s0 H vs Q E hr h => ?_)
  · obtain ⟨_, _, _, rfl, _⟩ := h
    rfl
  · obtain ⟨G, v1, row, rfl, gh, r1, _, q⟩ := h
    refine ⟨_, (pss_cons (ps_set (i := 1) sc_greatest_part.nd rfl (.inl rfl) pe_int)
      (pss_cons (ps_for PassesOwn.never rfl (pi_list (pv 0)) (pg_name (i := 2) sc_greatest_part.nd rfl (.inl rfl)) (pss_cons (ps_set (i := 3) sc_greatest_part.nd rfl (.inl rfl) (pe_callB call_abs (by rfl) T.b_abs (by decide +kernel) (pa_cons (pv 2) pa_nil)))
      (pss_one (ps_while PassesOwn.never (pt_cmpR op_gt (pv 3) pe_int (nomark _)) (pss_cons (ps_set (i := 4) sc_greatest_part.nd rfl (.inl rfl) (pe_op op_mod (pv 1) (pv 3)))
      (pss_cons (ps_set (i := 1) sc_greatest_part.nd rfl (.inl rfl) (pv 3))
      (pss_one (ps_set (i := 3) sc_greatest_part.nd rfl (.inl rfl) (pv 4)))))))))
      (pss_one (ps_ret (pv 1))))), ?_⟩
    refine q_set (K := K) gh (ev_n (n := 0)) fun v G2 H2 s2 r2 => ?_
    obtain rfl : v = .int ((0 : Nat) : Int) := r2
    refine q_for (K := K) s2.gh (ev_var (Rep.mono s2.gg r1)) fun G3 H3 s3 _ => ⟨fun i σ' H' => ∃ a b c G', σ' = [some v1, some (.int (((row.take i).foldl (fun g x => Nat.gcd g x.natAbs) 0 : Nat) : Int)), a, b, c] ∧ Stp K G3 H3 G' H', ⟨none, none, none, G3, rfl, Stp.refl s3.gh⟩, ?_, ?_, ?_⟩
    · rintro i σ' H' ⟨a, b, c, G', _, s⟩
      exact s.gg.trans s.gh
    · rintro i x v σ' H' hi rv ⟨a, b, c, G', rfl, s⟩
      show gName 2 v _ H' _
      refine q_set (K := K) s.gh (ev_abs (ev_var (Rep.mono s.gg rv))) fun v' G4 H4 s4 r4 => ?_
      obtain rfl : v' = .int (x.natAbs : Int) := r4
      refine s_while (K := K) (fun m σ' H' => ∃ (f : Nat), ∃ (r : Nat), ∃ c G', m = r ∧ σ' = [some v1, some (.int (f : Int)), some v, some (.int (r : Int)), c] ∧ Nat.gcd f r = (row.take (i + 1)).foldl (fun g x => Nat.gcd g x.natAbs) 0 ∧ Stp K G3 H3 G' H') _ ⟨_, x.natAbs, c, G4, rfl, rfl, ?_, s.trans s4⟩ ?_
      · rw [take_snoc hi, List.foldl_append] <;> rfl
      · rintro m σ' H' ⟨f, r, c, G', rfl, rfl, e, s⟩
        refine ⟨G', _, s.gh, et_t (ev_gtN (ev_var (x := m) rfl) (ev_n (n := 0))), fun e5 G5 H5 s5 => ?_, fun e5 G5 H5 s5 => ?_⟩
        · have e5 := of_decide_eq_true e5
          refine q_set (K := K) s5.gh (ev_modN (ev_var (x := f) rfl) (ev_var (x := m) rfl) e5) fun v6 G6 H6 s6 r6 => ?_
          obtain rfl : v6 = .int ((f % m : Nat) : Int) := r6
          refine q_set (K := K) s6.gh (ev_var (x := m) rfl) fun v7 G7 H7 s7 r7 => ?_
          obtain rfl : v7 = .int (m : Int) := r7
          refine s_set (K := K) s7.gh (ev_var (x := f % m) rfl) fun v8 G8 H8 s8 r8 => ?_
          obtain rfl : v8 = .int ((f % m : Nat) : Int) := r8
          refine ⟨f % m, Nat.mod_lt _ e5, m, f % m, _, G8, rfl, rfl, ?_, (((s.trans s5).trans s6).trans s7).trans s8⟩
          rw [← e, Nat.gcd_comm f m, Nat.gcd_rec m f, Nat.gcd_comm]
        · have e5 : m = 0 := Nat.eq_zero_of_not_pos (of_decide_eq_false e5)
          subst e5
          rw [Nat.gcd_zero_right] at e
          exact ⟨_, _, _, G5, by rw [e], s.trans s5⟩
    · rintro σ' H' ⟨a, b, c, G', rfl, s⟩
      rw [List.take_length]
      exact s_ret (K := K) s.gh (ev_var (x := gcdL row) rfl) fun w G7 H7 s7 r7 => q w G7 H7 (((s2.trans s3).trans s).trans s7) r7
theorem c_lowered (h : Has K mg "lowered" d_lowered) (T : Tx K mg base) (c_greatest_part : Cal P w K mg base "greatest_part" 1 ["row"] (spGcd K)) : Cal P w K mg base "lowered" 2 ["row"] (spLow K) := by
  refine h.cal sc_lowered (fun _ _ _ _ _ _ us hl => match us, hl with | [_], _ => rfl) (fun vs H Q E h => ?_) (fun f cdv A outer s0 H vs Q E hr h => ?_)
  · obtain ⟨_, _, _, rfl, _⟩ := h
    rfl
  · obtain ⟨G, v1, row, rfl, gh, r1, ⟨hlow, hlen⟩, q⟩ := h
    refine ⟨_, (pss_cons (ps_set (i := 1) sc_lowered.nd rfl (.inr rfl) (pe_c c_greatest_part (hr.mono (by decide)) (pa_cons (pv 0) pa_nil)))
      (pss_cons (ps_if (pt_cmpR op_eq (pv 1) pe_int (nomark _)) (pss_one (ps_ret (pe_callTy (listK K) (by rfl) T.b_list (by decide +kernel) (pa_cons (pv 0) pa_nil)))) pss_nil)
      (pss_one (ps_ret (pe_lc (own := [("number", 2)]) (g := (gName 2)) (tt := tYes) rfl sc_lowered.nd (pi_list (pv 0)) (blkOk_by (N := N_lowered) (sc := defScope s_lowered) (by decide +kernel)) (fun _ _ _ _ _ => (pg_name (i := 2) sc_lowered.nd rfl (Or.inl rfl))) (fun _ _ _ _ _ => pts_nil) (fun _ _ _ _ _ => (pe_op op_divB (pv 2) (pv 1)))))))), ?_⟩
    refine q_set (K := K) gh (ev_1 (ev_var r1) True.intro) fun v G2 H2 s2 r2 => ?_
    obtain rfl : v = .int ((gcdL row : Nat) : Int) := r2
    have r1' := Rep.mono s2.gg r1
    refine q_when (K := K) s2.gh (et_t (ev_eqN (ev_var (x := gcdL row) rfl) (ev_n (n := 0)))) (fun e G3 H3 s3 => ?_) (fun e G3 H3 s3 => ?_)
    · have e := of_decide_eq_true e
      refine s_ret (K := K) s3.gh (ev_list (ev_var (Rep.mono s3.gg r1'))) fun w G7 H7 s7 r7 => q w G7 H7 ((s2.trans s3).trans s7) ?_
      unfold low
      rw [if_pos e]
      exact r7
    · have e := of_decide_eq_false e
      refine s_ret (K := K) s3.gh (ev_lcL (fun _ => true) (fun x : Int => x / (gcdL row : Int)) (ev_var (Rep.mono s3.gg r1')) hlen (fun _ => rfl) (fun i x v G1 sg hx rx => et_yes) (fun i x v G1 sg hx rx _ => ev_divP (ev_var rx) (ev_var (x := ((gcdL row : Nat) : Int)) rfl) (hlow e x (List.mem_of_getElem? hx)))) fun w G7 H7 s7 r7 => q w G7 H7 ((s2.trans s3).trans s7) ?_
      unfold low
      rw [if_neg e]
      rw [fm_yes] at r7
      exact r7
theorem c_first_place (h : Has K mg "first_place" d_first_place) (T : Tx K mg base) : Cal P w K mg base "first_place" 1 ["row"] (spFst K) := by
  refine h.cal sc_first_place (fun _ _ _ _ _ _ us hl => match us, hl with | [_], _ => rfl) (fun vs H Q E h => ?_) (fun f cdv A outer s0 H vs Q E hr h => ?_)
  · obtain ⟨_, _, _, rfl, _⟩ := h
    rfl
  · obtain ⟨G, v1, row, rfl, gh, r1, _, q⟩ := h
    refine ⟨_, (pss_cons (ps_for PassesOwn.never rfl (pi_enum (by rfl) T.b_enumerate (pa_cons (pv 0) pa_nil)) (pg_tup rfl (pgs_cons (pg_name (i := 1) sc_first_place.nd rfl (.inl rfl)) (pgs_cons (pg_name (i := 2) sc_first_place.nd rfl (.inl rfl)) pgs_nil))) (pss_one (ps_if (pt_cmpR op_ne (pv 2) pe_int (nomark _)) (pss_one (ps_ret (pv 1))) pss_nil)))
      (pss_one (ps_ret (pe_un un_neg pe_int)))), ?_⟩
    refine q_forN (K := K) gh (ev_var r1) fun G3 H3 s3 _ => ⟨fun i σ' H' => ∃ a b G', σ' = [some v1, a, b] ∧ Stp K G3 H3 G' H' ∧ ∀ j, j < i → gt row j = 0, ⟨none, none, G3, rfl, Stp.refl s3.gh, fun j hj => absurd hj (Nat.not_lt_zero j)⟩, ?_, ?_, ?_⟩
    · rintro i σ' H' ⟨a, b, G', _, s, _⟩
      exact s.gg.trans s.gh
    · rintro i x v σ' H' T hi rv ⟨a, b, G', rfl, s, hz⟩ nT
      obtain rfl : v = .int x := rv
      have s4 := s.trans (Stp.raw (o := .tup [.int (i : Int), .int x]) s.gh nT)
      have ex : gt row i = x := by
        have := gt_in (List.getElem?_eq_some_iff.mp hi).1
        rw [hi] at this
        exact (Option.some.inj this).symm
      refine s_when (K := K) s4.gh (et_t (ev_ne (ev_var (x := x) rfl) (ev_i (i := 0)))) (fun e G5 H5 s5 => ?_) (fun e G5 H5 s5 => ?_)
      · have e : x ≠ 0 := by simpa using e
        refine s_ret (K := K) s5.gh (ev_var (x := ((i : Nat) : Int)) rfl) fun w G7 H7 s7 r7 => q w G7 H7 (((s3.trans s4).trans s5).trans s7) ?_
        have := fpAt_some 0 i row x hi e hz
        rw [Nat.zero_add] at this
        show rp K G7 w (fpAt 0 row)
        rw [this]
        exact r7
      · have e : x = 0 := by simpa using e
        refine ⟨_, _, G5, rfl, s4.trans s5, fun j hj => ?_⟩
        by_cases hji : j = i
        · rw [hji, ex, e]
        · exact hz j (by omega)
    · rintro σ' H' ⟨a, b, G', rfl, s, hz⟩
      refine s_ret (K := K) s.gh (ev_neg (ev_i (i := 1))) fun w G7 H7 s7 r7 => q w G7 H7 ((s3.trans s).trans s7) ?_
      have : fplace row = -1 := fplace_none.mpr fun x hx => by
        obtain ⟨k, hk, e⟩ := gt_mem hx
        rw [← e, hz k hk]
      rw [this]
      exact r7
theorem c_rest_of (h : Has K mg "rest_of" d_rest_of) (T : Tx K mg base) (c_lowered : Cal P w K mg base "lowered" 2 ["row"] (spLow K)) : Cal P w K mg base "rest_of" 3 ["span", "row"] (spRest K) := by
  refine h.cal sc_rest_of (fun _ _ _ _ _ _ us hl => match us, hl with | [_, _], _ => rfl) (fun vs H Q E h => ?_) (fun f cdv A outer s0 H vs Q E hr h => ?_)
  · obtain ⟨_, _, _, _, _, rfl, _⟩ := h
    rfl
  · obtain ⟨G, v1, v2, span, row, rfl, gh, r1, r2, hfit, q⟩ := h
    refine ⟨_, (pss_cons (ps_set (i := 2) sc_rest_of.nd rfl (.inr rfl) (pe_callTy (listK K) (by rfl) T.b_list (by decide +kernel) (pa_cons (pv 1) pa_nil)))
      (pss_cons (ps_for PassesOwn.never rfl (pi_list (pv 0)) (pg_tup rfl (pgs_cons (pg_name (i := 3) sc_rest_of.nd rfl (.inr rfl)) (pgs_cons (pg_name (i := 4) sc_rest_of.nd rfl (.inr rfl)) pgs_nil))) (pss_one (ps_if (pt_cmpR op_ne (pe_ix (ixL K) (pv 2) (pv 3) (fun _ _ => rfl)) pe_int (nomark _)) (pss_one (ps_set (i := 2) sc_rest_of.nd rfl (.inr rfl) (pe_c c_lowered (hr.mono (by decide)) (pa_cons (pe_lc (own := [("k", 5)]) (g := (gName 5)) (tt := tYes) rfl sc_rest_of.nd (pi_range1 (by rfl) T.b_range (pa_cons (pe_callB (lenK K) (by rfl) T.b_len PySem.boot_len (pa_cons (pv 2) pa_nil)) pa_nil)) (blkOk_by (N := N_rest_of) (sc := defScope s_rest_of) (by decide +kernel)) (fun _ _ _ _ _ => (pg_name (i := 5) sc_rest_of.nd rfl (Or.inl rfl))) (fun _ _ _ _ _ => pts_nil) (fun _ _ _ _ _ => (pe_op op_sub (pe_op op_mulW (pe_ix (ixL K) (pv 4) (pv 3) (fun _ _ => rfl)) (pe_ix (ixL K) (pv 2) (pv 5) (fun _ _ => rfl))) (pe_op op_mulW (pe_ix (ixL K) (pv 2) (pv 3) (fun _ _ => rfl)) (pe_ix (ixL K) (pv 4) (pv 5) (fun _ _ => rfl)))))) pa_nil)))) pss_nil)))
      (pss_one (ps_ret (pv 2))))), ?_⟩
    refine q_set (K := K) gh (ev_list (ev_var r2)) fun v3 G2 H2 s2 r3 => ?_
    refine q_for (K := K) s2.gh (ev_var (Rep.mono s2.gg r1)) fun G3 H3 s3 _ => ⟨fun i σ' H' => ∃ v3 a b c rest G', σ' = [some v1, some v2, some v3, a, b, c] ∧ Stp K G3 H3 G' H' ∧ rp K G' v3 rest ∧ Fit (span.drop i) rest ∧ restOf (span.drop i) rest = restOf span row, ⟨v3, none, none, none, row, G3, rfl, Stp.refl s3.gh, Rep.mono s3.gg r3, hfit, rfl⟩, ?_, ?_, ?_⟩
    · rintro i σ' H' ⟨_, a, b, c, rest, G', _, s, _⟩
      exact s.gg.trans s.gh
    · rintro i x v σ' H' hi rv ⟨v3, a, b, c, rest, G', rfl, s, r3, hf, he⟩
      have hd : span.drop i = x :: span.drop (i + 1) := by
        obtain ⟨hlt, rfl⟩ := List.getElem?_eq_some_iff.mp hi
        exact List.drop_eq_getElem_cons hlt
      rw [hd] at hf he
      obtain ⟨h1, h2, h3, h4, h5⟩ := hf
      refine g_pair (Rep.mono s.gg rv) s.gh fun a1 a2 ra rb => ?_
      have hp := gt_in h1
      refine s_when (K := K) s.gh (et_t (ev_ne (ev_ixN (ev_var r3) (ev_nI (ev_var ra)) rfl hp) (ev_i (i := 0)))) (fun e G5 H5 s5 => ?_) (fun e G5 H5 s5 => ?_)
      · have e : gt rest x.1 ≠ 0 := by simpa using e
        obtain ⟨h6, h7⟩ := h4 e
        have hst : stepR rest x = low (comb (gt x.2 x.1) (gt rest x.1) rest x.2) := by
          unfold stepR
          rw [if_neg e]
        have hcomb : fm (List.range rest.length) (fun _ => true) (fun k => gt x.2 x.1 * gt rest k - gt rest x.1 * gt x.2 k) = comb (gt x.2 x.1) (gt rest x.1) rest x.2 := by
          rw [fm_yes]
          refine List.ext_getElem? fun k => ?_
          rw [List.getElem?_map]
          by_cases hk : k < rest.length
          · rw [List.getElem?_range hk]
            have : k < (comb (gt x.2 x.1) (gt rest x.1) rest x.2).length := by rw [comb_len h2]; exact hk
            rw [gt_in this, gt_comb h2] <;> rfl
          · rw [List.getElem?_eq_none (by rw [List.length_range]; omega), List.getElem?_eq_none (by rw [comb_len h2]; omega)] <;> rfl
        have r3' := Rep.mono s5.gg r3
        have ra' := Rep.mono s5.gg ra
        have rb' := Rep.mono s5.gg rb
        refine s_set (K := K) s5.gh (ev_1 (ev_as (ev_lcR (n := rest.length) (fun _ => true) (fun k => gt x.2 x.1 * gt rest k - gt rest x.1 * gt x.2 k) (ev_nI (ev_len (ev_var r3'))) rfl (by omega) (fun _ => rfl) (fun j G1 sg hj => et_yes)
          (fun j G1 sg hj _ => ev_sub (ev_mulW (ev_ixN (ev_var (Rep.mono sg rb')) (ev_nI (ev_var (Rep.mono sg ra'))) rfl (gt_in (by omega))) (ev_ixN (ev_var (Rep.mono sg r3')) (ev_nI (ev_var (x := j) rfl)) rfl (gt_in hj)) (h6 j).1) (ev_mulW (ev_ixN (ev_var (Rep.mono sg r3')) (ev_nI (ev_var (Rep.mono sg ra'))) rfl hp) (ev_ixN (ev_var (Rep.mono sg rb')) (ev_nI (ev_var (x := j) rfl)) rfl (gt_in (by omega))) (h6 j).2))) hcomb) ⟨h7, by rw [comb_len h2]; omega⟩) fun v G6 H6 s6 r6 => ?_
        rw [← hst] at r6
        exact ⟨v, _, _, _, stepR rest x, G6, rfl, (s.trans s5).trans s6, r6, h5, he⟩
      · have e : gt rest x.1 = 0 := by simpa using e
        have hst : stepR rest x = rest := by
          unfold stepR
          rw [if_pos e]
        rw [hst] at h5
        have he' : restOf (span.drop (i + 1)) (stepR rest x) = restOf span row := he
        rw [hst] at he'
        exact ⟨v3, _, _, _, rest, G5, rfl, s.trans s5, Rep.mono s5.gg r3, h5, he'⟩
    · rintro σ' H' ⟨v3, a, b, c, rest, G', rfl, s, r3, hf, he⟩
      rw [List.drop_length] at he
      have he : rest = restOf span row := he
      rw [he] at r3
      exact s_ret (K := K) s.gh (ev_var r3) fun w G7 H7 s7 r7 => q w G7 H7 (((s2.trans s3).trans s).trans s7) r7
theorem c_is_sum (h : Has K mg "is_sum" d_is_sum) (T : Tx K mg base) (c_first_place : Cal P w K mg base "first_place" 1 ["row"] (spFst K)) (c_rest_of : Cal P w K mg base "rest_of" 3 ["span", "row"] (spRest K)) : Cal P w K mg base "is_sum" 4 ["span", "row"] (spIsSum K) := by
  refine h.cal sc_is_sum (fun _ _ _ _ _ _ us hl => match us, hl with | [_, _], _ => rfl) (fun vs H Q E h => ?_) (fun f cdv A outer s0 H vs Q E hr h => ?_)
  · obtain ⟨_, _, _, _, _, rfl, _⟩ := h
    rfl
  · obtain ⟨G, v1, v2, span, row, rfl, gh, r1, r2, hfit, q⟩ := h
    refine ⟨_, (pss_one (ps_ret (pe_cmpR op_eq (pe_c c_first_place (hr.mono (by decide)) (pa_cons (pe_c c_rest_of (hr.mono (by decide)) (pa_cons (pv 0) (pa_cons (pv 1) pa_nil))) pa_nil)) (pe_un un_neg pe_int) (nomark _)))), ?_⟩
    exact s_ret (K := K) gh (ev_eq (ev_1 (ev_2 (ev_var r1) (ev_var r2) hfit) True.intro) (ev_neg (ev_i (i := 1)))) fun w G7 H7 s7 r7 => q w G7 H7 s7 r7
theorem c_widened (h : Has K mg "widened" d_widened) (T : Tx K mg base) (c_rest_of : Cal P w K mg base "rest_of" 3 ["span", "row"] (spRest K)) (c_first_place : Cal P w K mg base "first_place" 1 ["row"] (spFst K)) (c_lowered : Cal P w K mg base "lowered" 2 ["row"] (spLow K)) :
    Cal P w K mg base "widened" 4 ["span", "row"] (spWiden K) := by
  refine h.cal sc_widened (fun _ _ _ _ _ _ us hl => match us, hl with | [_, _], _ => rfl) (fun vs H Q E h => ?_) (fun f cdv A outer s0 H vs Q E hr h => ?_)
  · obtain ⟨_, _, _, _, _, rfl, _⟩ := h
    rfl
  · obtain ⟨G, v1, v2, span, row, rfl, gh, r1, r2, ⟨hfit, hlow, hl1, hl2⟩, q⟩ := h
    refine ⟨_, (pss_cons (ps_set (i := 2) sc_widened.nd rfl (.inl rfl) (pe_c c_rest_of (hr.mono (by decide)) (pa_cons (pv 0) (pa_cons (pv 1) pa_nil))))
      (pss_cons (ps_set (i := 3) sc_widened.nd rfl (.inl rfl) (pe_c c_first_place (hr.mono (by decide)) (pa_cons (pv 2) pa_nil)))
      (pss_cons (ps_if (pt_cmpR op_eq (pv 3) (pe_un un_neg pe_int) (nomark _)) (pss_one (ps_ret (pv 0))) pss_nil)
      (pss_one (ps_ret (pe_op op_cat (pv 0) (pe_lst (pa_cons (pe_tup (pa_cons (pv 3) (pa_cons (pe_c c_lowered (hr.mono (by decide)) (pa_cons (pv 2) pa_nil)) pa_nil))) pa_nil)))))))), ?_⟩
    refine q_set (K := K) gh (ev_2 (ev_var r1) (ev_var r2) hfit) fun v3 G2 H2 s2 r3 => ?_
    refine q_set (K := K) s2.gh (ev_1 (ev_var r3) True.intro) fun v4 G3 H3 s3 r4 => ?_
    obtain rfl : v4 = .int (fplace (restOf span row)) := r4
    have t3 := s2.trans s3
    refine q_when (K := K) s3.gh (et_t (ev_eq (ev_var (x := fplace (restOf span row)) rfl) (ev_neg (ev_i (i := 1))))) (fun e G4 H4 s4 => ?_) (fun e G4 H4 s4 => ?_)
    · have e := of_decide_eq_true e
      refine s_ret (K := K) s4.gh (ev_var (Rep.mono (t3.gg.trans s4.gg) r1)) fun w G7 H7 s7 r7 => q w G7 H7 ((t3.trans s4).trans s7) ?_
      unfold widen
      rw [if_pos e]
      exact r7
    · have e := of_decide_eq_false e
      obtain ⟨k, h1, h2, h3⟩ := fplace_some e
      have hw : widen span row = span ++ [(k, low (restOf span row))] := by
        unfold widen
        rw [if_neg e, h1, Int.toNat_natCast]
      rw [hw] at q
      rw [h1] at *
      exact s_ret (K := K) s4.gh (ev_cat (ev_var (Rep.mono (t3.gg.trans s4.gg) r1)) (ev_lst (el_cons (ev_t2 (ev_var (x := k) rfl) (ev_1 (ev_var (Rep.mono (s3.gg.trans s4.gg) r3)) ⟨hlow, hl1⟩)) el_nil) (by simp)) (by simp; omega)) fun w G7 H7 s7 r7 => q w G7 H7 ((t3.trans s4).trans s7) r7
end
end Mw
/-! How great the numbers of a span become; what a weighing of rows says of sums. -/
namespace Mw
open PySem PySem.Spec PyProof.Rows L2
def aB (j : Nat) : Nat := 5 + (7 * j + 2) / 3
def EB : Nat → Nat
  | 0 => 0
  | j + 1 => 2 * EB j + aB j + 1
theorem EB_ten : ∀ i, i ≤ 10 → EB i ≤ 8745 := by decide +kernel
theorem EB_all : ∀ i, i ≤ 12 → EB i ≤ 40000 := by decide +kernel
theorem EB_mono (i : Nat) : EB i ≤ EB (i + 1) := by
  show EB i ≤ 2 * EB i + aB i + 1
  omega
theorem aB_le {j : Nat} (h : j ≤ 12) : aB j ≤ 33 := by
  unfold aB
  omega
structure SpanOk (n : Nat) (span : List (Nat × List Int)) : Prop where
  at_ : ∀ i pb, span[i]? = some pb → pb.1 < n ∧ pb.2.length = n ∧ gt pb.2 pb.1 ≠ 0 ∧ (∀ k, (gt pb.2 k).natAbs < 2 ^ (aB i + EB i)) ∧ ∀ i', i' < i → ∀ pb', span[i']? = some pb' → gt pb.2 pb'.1 = 0
section
variable {n : Nat} {span : List (Nat × List Int)} (S : SpanOk n span)
include S
theorem SpanOk.nodup : (span.map (·.1)).Nodup := by
  refine List.pairwise_map.mpr (List.pairwise_iff_getElem.mpr fun i j hi hj hij e => ?_)
  obtain ⟨_, _, h3, _, h5⟩ := S.at_ j _ (List.getElem?_eq_getElem hj)
  have := h5 i hij _ (List.getElem?_eq_getElem hi)
  rw [e] at this
  exact h3 this
theorem SpanOk.lt : ∀ p ∈ span.map (·.1), p < n := by
  intro p hp
  obtain ⟨pb, h, rfl⟩ := List.mem_map.mp hp
  obtain ⟨i, hi, e⟩ := List.mem_iff_getElem.mp h
  exact (S.at_ i pb (by rw [List.getElem?_eq_getElem hi, e])).1
theorem SpanOk.len : span.length ≤ n := by
  have := nodup_le S.nodup (m := List.range n) fun p hp => List.mem_range.mpr (S.lt p hp)
  rw [List.length_map, List.length_range] at this
  exact this
end
theorem one_left {n : Nat} (hn : n ≤ 12) {ps : List Nat} (nd : ps.Nodup) (lt : ∀ p ∈ ps, p < n) (h11 : 11 ≤ ps.length) {row : List Int} (hl : row.length = n) (hz : ∀ p ∈ ps, gt row p = 0) : ∃ k, ∀ j, j ≠ k → gt row j = 0 := by
  by_cases h : ∃ k, gt row k ≠ 0
  · obtain ⟨k, hk⟩ := h
    refine ⟨k, fun j hj => Classical.byContradiction fun hne => ?_⟩
    have inn : ∀ i, gt row i ≠ 0 → i < n ∧ i ∉ ps := fun i hi => ⟨Nat.lt_of_not_le fun z => hi (gt_out (by omega)), fun z => hi (hz i z)⟩
    obtain ⟨k1, k2⟩ := inn k hk
    obtain ⟨j1, j2⟩ := inn j hne
    have nd2 : (j :: k :: ps).Nodup := List.nodup_cons.mpr ⟨fun z => (List.mem_cons.mp z).elim hj j2, List.nodup_cons.mpr ⟨k2, nd⟩⟩
    have := nodup_le nd2 (m := List.range n) fun p hp => List.mem_range.mpr (by
      rcases List.mem_cons.mp hp with h | h
      · rw [h]
        exact j1
      · rcases List.mem_cons.mp h with h | h
        · rw [h]
          exact k1
        · exact lt p h)
    rw [List.length_range, List.length_cons, List.length_cons] at this
    omega
  · exact ⟨0, fun j _ => Classical.byContradiction fun z => h ⟨j, z⟩⟩
theorem natAbs_low (row : List Int) (k : Nat) : (gt (low row) k).natAbs ≤ (gt row k).natAbs := by
  rw [gt_low row k, Int.natAbs_mul]
  have := fac_pos row
  exact Nat.le_mul_of_pos_left _ (by omega)
theorem natAbs_comb {a b u v : Int} {e f : Nat} (h1 : a.natAbs < 2 ^ e) (h2 : b.natAbs < 2 ^ f) (h3 : u.natAbs < 2 ^ f) (h4 : v.natAbs < 2 ^ e) : (a * u - b * v).natAbs < 2 ^ (f + e + 1) := by
  have x1 : (a * u).natAbs < 2 ^ (f + e) := by
    rw [Int.natAbs_mul, Nat.pow_add, Nat.mul_comm]
    exact Nat.mul_lt_mul'' h3 h1
  have x2 : (b * v).natAbs < 2 ^ (f + e) := by
    rw [Int.natAbs_mul, Nat.pow_add]
    exact Nat.mul_lt_mul'' h2 h4
  rw [Nat.pow_succ]
  omega
theorem low_zero {row : List Int} {k : Nat} (h : gt row k = 0) : gt (low row) k = 0 := by
  have := natAbs_low row k
  rw [h] at this
  have h0 : (0 : Int).natAbs = 0 := rfl
  omega
theorem lowOk_at {n a i : Nat} (hn : n ≤ 12) (ha : a ≤ 33) {ps : List Nat} (nd : ps.Nodup) (lt : ∀ p ∈ ps, p < n) (hi : ps.length = i) {row : List Int} (hl : row.length = n) (hz : ∀ p ∈ ps, gt row p = 0) (hb : ∀ k, (gt row k).natAbs < 2 ^ (a + EB i)) : LowOk row := by
  by_cases h : i ≤ 10
  · have := EB_ten i h
    by_cases h0 : a + EB i = 0
    · rw [h0] at hb
      exact lowOk_bits (b := 1) (fun k => Nat.lt_of_lt_of_le (hb k) (by decide)) (by decide) (by decide)
    · exact lowOk_bits hb (by omega) (by omega)
  · obtain ⟨k, hk⟩ := one_left hn nd lt (by omega) hl hz
    exact lowOk_one hk
theorem fit_go {n a : Nat} (hn : n ≤ 12) (ha0 : 0 < a) (ha : a ≤ 33) {span : List (Nat × List Int)} (S : SpanOk n span) : ∀ (todo done : List (Nat × List Int)) (rest : List Int), done ++ todo = span → rest.length = n → (∀ k, (gt rest k).natAbs < 2 ^ (a + EB done.length)) → (∀ pb ∈ done, gt rest pb.1 = 0) →
    Fit todo rest ∧ (restOf todo rest).length = n ∧ (∀ k, (gt (restOf todo rest) k).natAbs < 2 ^ (a + EB span.length)) ∧ ∀ pb ∈ span, gt (restOf todo rest) pb.1 = 0
  | [], done, rest, e, hl, hb, hz => by
    rw [List.append_nil] at e
    subst e
    exact ⟨True.intro, hl, hb, hz⟩
  | pb :: sp, done, rest, e, hl, hb, hz => by
    have hat : span[done.length]? = some pb := by
      rw [← e, List.getElem?_append_right (Nat.le_refl _), Nat.sub_self] <;> rfl
    obtain ⟨h1, h2, h3, h4, h5⟩ := S.at_ _ _ hat
    have hlen := S.len
    have hdl : done.length < span.length := (List.getElem?_eq_some_iff.mp hat).1
    have hz5 : ∀ p' ∈ done, gt pb.2 p'.1 = 0 := fun p' hp' => by
      obtain ⟨i, hi, e'⟩ := List.mem_iff_getElem.mp hp'
      exact h5 i hi p' (by rw [← e, List.getElem?_append_left hi, List.getElem?_eq_getElem hi, e'])
    have hlc : rest.length = pb.2.length := by rw [hl, h2]
    have e2 : (done ++ [pb]) ++ sp = span := by rw [← e, List.append_assoc] <;> rfl
    have ebig := EB_all done.length (by omega)
    have hpos : 0 < aB done.length + EB done.length := by
      unfold aB
      omega
    have hal := aB_le (j := done.length) (by omega)
    have cb : ∀ k, (gt (comb (gt pb.2 pb.1) (gt rest pb.1) rest pb.2) k).natAbs < 2 ^ (a + EB (done.length + 1)) := fun k => by
      rw [gt_comb hlc]
      have := natAbs_comb (h4 pb.1) (hb pb.1) (hb k) (h4 k)
      have ee : a + EB done.length + (aB done.length + EB done.length) + 1 = a + EB (done.length + 1) := by
        show _ = a + (2 * EB done.length + aB done.length + 1)
        omega
      rw [ee] at this
      exact this
    have cz : ∀ p' ∈ done ++ [pb], gt (comb (gt pb.2 pb.1) (gt rest pb.1) rest pb.2) p'.1 = 0 := fun p' hp' => by
      rw [gt_comb hlc]
      rcases List.mem_append.mp hp' with h | h
      · rw [hz p' h, hz5 p' h, Int.mul_zero, Int.mul_zero]
        rfl
      · rw [List.mem_singleton.mp h, Int.mul_comm, Int.sub_self]
    have hnd : ((done ++ [pb]).map (·.1)).Nodup := by
      have := S.nodup
      rw [← e2, List.map_append] at this
      exact (List.nodup_append.mp this).1
    have hlt : ∀ p ∈ (done ++ [pb]).map (·.1), p < n := fun p hp => S.lt p (by
      rw [← e2, List.map_append]
      exact List.mem_append_left _ hp)
    have hlow : LowOk (comb (gt pb.2 pb.1) (gt rest pb.1) rest pb.2) := lowOk_at (i := done.length + 1) hn ha hnd hlt (by rw [List.length_map, List.length_append] <;> rfl) (by rw [comb_len hlc, hl]) (fun p hp => by
      obtain ⟨p', hp', rfl⟩ := List.mem_map.mp hp
      exact cz p' hp') cb
    have step : (stepR rest pb).length = n ∧ (∀ k, (gt (stepR rest pb) k).natAbs < 2 ^ (a + EB (done ++ [pb]).length)) ∧ ∀ p' ∈ done ++ [pb], gt (stepR rest pb) p'.1 = 0 := by
      have el : (done ++ [pb]).length = done.length + 1 := by rw [List.length_append] <;> rfl
      rw [el]
      unfold stepR
      by_cases h0 : gt rest pb.1 = 0
      · rw [if_pos h0]
        refine ⟨hl, fun k => Nat.lt_of_lt_of_le (hb k) (Nat.pow_le_pow_right (by decide) ?_), fun p' hp' => ?_⟩
        · have := EB_mono done.length
          omega
        · rcases List.mem_append.mp hp' with h | h
          · exact hz p' h
          · rw [List.mem_singleton.mp h]
            exact h0
      · rw [if_neg h0]
        refine ⟨by rw [low_len, comb_len hlc, hl], fun k => Nat.lt_of_le_of_lt (natAbs_low _ k) (cb k), fun p' hp' => low_zero (cz p' hp')⟩
    obtain ⟨s1, s2, s3⟩ := step
    obtain ⟨f1, f2, f3, f4⟩ := fit_go hn ha0 ha S sp (done ++ [pb]) (stepR rest pb) e2 s1 s2 s3
    exact ⟨⟨by omega, hlc, by omega, fun _ => ⟨fun k => ⟨wide_mul (h4 pb.1) (hb k) hpos (by omega) (by omega), wide_mul (hb pb.1) (h4 k) (by omega) hpos (by omega)⟩, hlow⟩, f1⟩, f2, f3, f4⟩
section
variable {n : Nat} (hn : n ≤ 12) {span : List (Nat × List Int)} (S : SpanOk n span) {row : List Int} (hl : row.length = n) (hb : ∀ k, (gt row k).natAbs < 2 ^ aB span.length)
include hn S hl hb
theorem fit_all : Fit span row ∧ (restOf span row).length = n ∧ (∀ k, (gt (restOf span row) k).natAbs < 2 ^ (aB span.length + EB span.length)) ∧ ∀ pb ∈ span, gt (restOf span row) pb.1 = 0 := by
  have := S.len
  exact fit_go (a := aB span.length) hn (by unfold aB; omega) (aB_le (by omega)) S span [] row rfl hl hb (fun _ h => by cases h)
theorem low_all : LowOk (restOf span row) := by
  obtain ⟨_, h2, h3, h4⟩ := fit_all hn S hl hb
  have := S.len
  exact lowOk_at hn (aB_le (by omega)) S.nodup S.lt (List.length_map _) h2 (fun p hp => by
    obtain ⟨p', hp', rfl⟩ := List.mem_map.mp hp
    exact h4 p' hp') h3
theorem widen_ok (h : isSum span row = false) : SpanOk n (widen span row) ∧ (widen span row).length = span.length + 1 := by
  have h : fplace (restOf span row) ≠ -1 := of_decide_eq_false h
  obtain ⟨_, h2, h3, h4⟩ := fit_all hn S hl hb
  obtain ⟨k, k1, k2, k3⟩ := fplace_some h
  have hw : widen span row = span ++ [(k, low (restOf span row))] := by
    unfold widen
    rw [if_neg h, k1, Int.toNat_natCast]
  rw [hw]
  refine ⟨⟨fun i pb hi => ?_⟩, by rw [List.length_append] <;> rfl⟩
  by_cases hlt : i < span.length
  · rw [List.getElem?_append_left hlt] at hi
    obtain ⟨a1, a2, a3, a4, a5⟩ := S.at_ i pb hi
    refine ⟨a1, a2, a3, a4, fun i' hi' pb' hp' => a5 i' hi' pb' ?_⟩
    rw [List.getElem?_append_left (by omega)] at hp'
    exact hp'
  · have hlt2 := (List.getElem?_eq_some_iff.mp hi).1
    rw [List.length_append, List.length_singleton] at hlt2
    have hi0 : i = span.length := by omega
    subst hi0
    rw [List.getElem?_append_right (Nat.le_refl _), Nat.sub_self] at hi
    have hi : (k, low (restOf span row)) = pb := Option.some.inj hi
    subst hi
    refine ⟨by show k < n; omega, by rw [low_len]; exact h2, fun z => k3 (by rw [gt_low, z, Int.mul_zero]), fun j => Nat.lt_of_le_of_lt (natAbs_low _ j) (h3 j), fun i' hi' pb' hp' => low_zero ?_⟩
    rw [List.getElem?_append_left hi'] at hp'
    exact h4 pb' (List.mem_of_getElem? hp')
end
/-! ### weighings -/
def dot : Nat → (Nat → Int) → List Int → Int
  | 0, _, _ => 0
  | n + 1, c, row => dot n c row + c n * gt row n
theorem dot_comb {a b : Int} {x y : List Int} (h : x.length = y.length) (c : Nat → Int) : ∀ n, dot n c (comb a b x y) = a * dot n c x - b * dot n c y
  | 0 => by simp [dot]
  | n + 1 => by
    show dot n c _ + c n * gt _ n = a * (dot n c x + c n * gt x n) - b * (dot n c y + c n * gt y n)
    rw [dot_comb h c n, gt_comb h n, Int.mul_add, Int.mul_add, Int.mul_sub, ← Int.mul_assoc, ← Int.mul_assoc, ← Int.mul_assoc, ← Int.mul_assoc, Int.mul_comm (c n) a, Int.mul_comm (c n) b]
    omega
theorem dot_low (c : Nat → Int) (row : List Int) : ∀ n, dot n c row = fac row * dot n c (low row)
  | 0 => by simp [dot]
  | n + 1 => by
    show dot n c row + c n * gt row n = fac row * (dot n c (low row) + c n * gt (low row) n)
    rw [dot_low c row n, gt_low row n, Int.mul_add, ← Int.mul_assoc, ← Int.mul_assoc, Int.mul_comm (c n) (fac row)]
theorem dot_zero (c : Nat → Int) {row : List Int} (h : ∀ x ∈ row, x = 0) : ∀ n, dot n c row = 0
  | 0 => rfl
  | n + 1 => by
    have e : gt row n = 0 := Classical.byContradiction fun z => z (h _ (mem_gt z))
    show dot n c row + c n * gt row n = 0
    rw [dot_zero c h n, e, Int.mul_zero] <;> rfl
theorem dot_step {n : Nat} {c : Nat → Int} {rest : List Int} {pb : Nat × List Int} (hl : rest.length = pb.2.length) (hp : gt pb.2 pb.1 ≠ 0) (h0 : dot n c pb.2 = 0) : dot n c (stepR rest pb) = 0 ↔ dot n c rest = 0 := by
  unfold stepR
  by_cases h : gt rest pb.1 = 0
  · rw [if_pos h]
  · rw [if_neg h]
    have e := dot_low c (comb (gt pb.2 pb.1) (gt rest pb.1) rest pb.2) n
    rw [dot_comb hl, h0, Int.mul_zero, Int.sub_zero] at e
    have hf := fac_pos (comb (gt pb.2 pb.1) (gt rest pb.1) rest pb.2)
    constructor
    · intro z
      rw [z, Int.mul_zero] at e
      exact (Int.mul_eq_zero.mp e).resolve_left hp
    · intro z
      rw [z, Int.mul_zero] at e
      exact (Int.mul_eq_zero.mp e.symm).resolve_left (by omega)
theorem dot_rest {n m : Nat} {c : Nat → Int} : ∀ (span : List (Nat × List Int)) (row : List Int), row.length = m → (∀ pb ∈ span, pb.2.length = m ∧ gt pb.2 pb.1 ≠ 0 ∧ dot n c pb.2 = 0) → (dot n c (restOf span row) = 0 ↔ dot n c row = 0)
  | [], _, _, _ => Iff.rfl
  | pb :: sp, row, hl, h => by
    obtain ⟨h1, h2, h3⟩ := h pb List.mem_cons_self
    have hlc : row.length = pb.2.length := by rw [hl, h1]
    have hl2 : (stepR row pb).length = m := by
      unfold stepR
      split
      · exact hl
      · rw [low_len, comb_len hlc, hl]
    exact (dot_rest sp (stepR row pb) hl2 fun p hp => h p (List.mem_cons_of_mem _ hp)).trans (dot_step hlc h2 h3)
section
variable {n : Nat} {span : List (Nat × List Int)} (S : SpanOk n span) {row : List Int} (hl : row.length = n) {c : Nat → Int} (h0 : ∀ pb ∈ span, dot n c pb.2 = 0)
include S hl h0
theorem span_all : ∀ pb ∈ span, pb.2.length = n ∧ gt pb.2 pb.1 ≠ 0 ∧ dot n c pb.2 = 0 := fun pb hp => by
  obtain ⟨i, hi, e⟩ := List.mem_iff_getElem.mp hp
  obtain ⟨_, h2, h3, _⟩ := S.at_ i pb (by rw [List.getElem?_eq_getElem hi, e])
  exact ⟨h2, h3, h0 pb hp⟩
theorem sum_dot (h : isSum span row = true) : dot n c row = 0 := by
  have h : fplace (restOf span row) = -1 := of_decide_eq_true h
  exact (dot_rest span row hl (span_all S hl h0)).mp (dot_zero c (fplace_none.mp h) n)
theorem widen_dot (h : dot n c row = 0) : ∀ pb ∈ widen span row, dot n c pb.2 = 0 := by
  intro pb hp
  unfold widen at hp
  split at hp
  · exact h0 pb hp
  · rcases List.mem_append.mp hp with hp | hp
    · exact h0 pb hp
    · rw [List.mem_singleton.mp hp]
      have e := (dot_rest span row hl (span_all S hl h0)).mpr h
      rw [dot_low] at e
      have := fac_pos (restOf span row)
      exact (Int.mul_eq_zero.mp e).resolve_left (by omega)
end
end Mw
/-! Tail rows. -/
namespace Mw
/-! ### where great grains come to -/
def goalF (wd : Wd) : Nat → Nat → Nat
  | 0, row => row
  | f + 1, row => match wd.rows[row]? with
    | some (.mesh _ _ v) => goalF wd f v
    | _ => row
def goal (wd : Wd) (row : Nat) : Nat := goalF wd 16 row
section
variable {wd : Wd} (g : Good wd)
include g
theorem whole_far {row o u v s : Nat} (h : wd.rows[row]? = some (.mesh o u v)) (hs : o < s) : whole wd row s = some v := by
  unfold whole
  rw [h]
  show some (if s ≤ o then u else v) = _
  rw [if_neg (by omega)]
theorem mesh_far {row o u v : Nat} (h : wd.rows[row]? = some (.mesh o u v)) : o < 21 ∧ v < wd.rows.length := by
  obtain ⟨h1, h2, h3, h4⟩ := g.ok _ (List.mem_of_getElem? h)
  exact ⟨by omega, h4⟩
theorem goalF_same {rho : Nat → Nat → Nat} (hd : ∀ s row t, 1 ≤ s → whole wd row s = some t → rho s t < rho s row) : ∀ f f' row, rho 21 row < f → rho 21 row < f' → goalF wd f row = goalF wd f' row
  | 0, _, _, h, _ => absurd h (Nat.not_lt_zero _)
  | _ + 1, 0, _, _, h => absurd h (Nat.not_lt_zero _)
  | f + 1, f' + 1, row, h1, h2 => by
    unfold goalF
    cases e : wd.rows[row]? with
    | none => rfl
    | some r =>
      cases r with
      | mesh o u v =>
        have := hd 21 row v (by decide) (whole_far g e (mesh_far g e).1)
        exact goalF_same hd f f' v (by omega) (by omega)
      | crush t => rfl
      | bin k => rfl
theorem goal_mesh {row o u v : Nat} (h : wd.rows[row]? = some (.mesh o u v)) : goal wd row = goal wd v := by
  obtain ⟨rho, h15, hd⟩ := g.rk
  have h1 := hd 21 row v (by decide) (whole_far g h (mesh_far g h).1)
  have h2 := h15 21 row
  have e : goal wd row = goalF wd 15 v := by
    show goalF wd (15 + 1) row = _
    rw [goalF, h]
  rw [e]
  exact goalF_same g hd _ _ _ (by omega) (by omega)
omit g in
theorem goal_else {row : Nat} (h : ∀ o u v, wd.rows[row]? ≠ some (.mesh o u v)) : goal wd row = row := by
  show goalF wd (15 + 1) row = _
  unfold goalF
  split
  · rename_i o u v e
    exact absurd e (h o u v)
  · rfl
theorem goal_end {rho : Nat → Nat → Nat} (hd : ∀ s row t, 1 ≤ s → whole wd row s = some t → rho s t < rho s row) : ∀ f row, rho 21 row < f → row < wd.rows.length → goal wd row < wd.rows.length ∧ (∀ o u v, wd.rows[goal wd row]? ≠ some (.mesh o u v)) ∧ ∀ b s, (∀ o ∈ opens wd, o < s) → W wd b row s = W wd b (goal wd row) s
  | 0, _, h, _ => absurd h (Nat.not_lt_zero _)
  | f + 1, row, h, hr => by
    cases e : wd.rows[row]? with
    | none => exact absurd (List.getElem?_eq_none_iff.mp e) (by omega)
    | some r =>
      cases r with
      | mesh o u v =>
        have hv := mesh_far g e
        have := hd 21 row v (by decide) (whole_far g e hv.1)
        obtain ⟨h1, h2, h3⟩ := goal_end hd f v (by omega) hv.2
        rw [goal_mesh g e]
        refine ⟨h1, h2, fun b s hs => ?_⟩
        have ho := hs o (opens_mem e)
        rw [W_mesh g e, if_neg (by omega)]
        exact h3 b s hs
      | crush t =>
        have hn : ∀ o u v, wd.rows[row]? ≠ some (.mesh o u v) := fun o u v z => by
          rw [e] at z
          cases z
        rw [goal_else hn]
        exact ⟨hr, hn, fun _ _ _ => rfl⟩
      | bin k =>
        have hn : ∀ o u v, wd.rows[row]? ≠ some (.mesh o u v) := fun o u v z => by
          rw [e] at z
          cases z
        rw [goal_else hn]
        exact ⟨hr, hn, fun _ _ _ => rfl⟩
theorem goal_spec {row : Nat} (hr : row < wd.rows.length) : goal wd row < wd.rows.length ∧ (∀ o u v, wd.rows[goal wd row]? ≠ some (.mesh o u v)) ∧ ∀ b s, (∀ o ∈ opens wd, o < s) → W wd b row s = W wd b (goal wd row) s := by
  obtain ⟨rho, h15, hd⟩ := g.rk
  exact goal_end g hd _ row (Nat.lt_succ_self _) hr
end
/-! ### two works -/
structure Two (one other : Wd) : Prop where
  g1 : Good one
  g2 : Good other
  pp : one.p = other.p
  p5 : one.p ≤ 5
  h5 : height one other ≤ 5
  cc : (crushes one).length + (crushes other).length ≤ 5
  c1 : (crushes one).length ≤ 4
  c2 : (crushes other).length ≤ 4
/-- what a tail row tells -/
def Fs (one other : Wd) (b : Nat) : List (Nat → Nat) := (crushes one).flatMap (fun r => [fun s => W one b r s, fun s => W one b r (s + 1)]) ++ (crushes other).flatMap (fun r => [fun s => W other b r s, fun s => W other b r (s + 1)]) ++ [fun s => s, fun _ => 1]
def tailT (one other : Wd) (b s : Nat) : List Nat := (Fs one other b).map fun f => f s
def tl (one other : Wd) (b s : Nat) : List Int := (tailT one other b s).map fun n : Nat => (n : Int)
def nn (one other : Wd) : Nat := 2 * (crushes one).length + 2 * (crushes other).length + 2
theorem len_two {α β : Type} (f g : α → β) : ∀ l : List α, (l.flatMap fun r => [f r, g r]).length = 2 * l.length
  | [] => rfl
  | x :: l => by
    rw [List.flatMap_cons, List.length_append, len_two f g l]
    show 2 + 2 * l.length = 2 * (l.length + 1)
    omega
theorem Fs_len (one other : Wd) (b : Nat) : (Fs one other b).length = nn one other := by
  unfold Fs nn
  rw [List.length_append, List.length_append, len_two, len_two] <;> rfl
theorem tl_len (one other : Wd) (b s : Nat) : (tl one other b s).length = nn one other := by
  unfold tl tailT
  rw [List.length_map, List.length_map, Fs_len]
theorem tl_at {one other : Wd} {b s i : Nat} {f : Nat → Nat} (h : (Fs one other b)[i]? = some f) : gt (tl one other b s) i = (f s : Int) := by
  unfold gt tl tailT
  rw [List.getD_eq_getElem?_getD, List.getElem?_map, List.getElem?_map, h] <;> rfl
/-! ### sums of what tail rows tell -/
section
variable {one other : Wd} {b : Nat}
def Lin (one other : Wd) (b h : Nat) (f : Nat → Int) : Prop := ∃ c : Nat → Int, ∀ s, h < s → f s = dot (nn one other) c (tl one other b s)
theorem dot_add (c d : Nat → Int) (row : List Int) : ∀ n, dot n (fun i => c i + d i) row = dot n c row + dot n d row
  | 0 => rfl
  | n + 1 => by
    show dot n _ row + (c n + d n) * gt row n = dot n c row + c n * gt row n + (dot n d row + d n * gt row n)
    rw [dot_add c d row n, Int.add_mul]
    omega
theorem dot_mul (a : Int) (c : Nat → Int) (row : List Int) : ∀ n, dot n (fun i => a * c i) row = a * dot n c row
  | 0 => by simp [dot]
  | n + 1 => by
    show dot n _ row + (a * c n) * gt row n = a * (dot n c row + c n * gt row n)
    rw [dot_mul a c row n, Int.mul_add, Int.mul_assoc]
theorem dot_unit (row : List Int) (i : Nat) : ∀ n, dot n (fun j => if j = i then 1 else 0) row = if i < n then gt row i else 0
  | 0 => rfl
  | n + 1 => by
    show dot n _ row + (if n = i then 1 else 0) * gt row n = _
    rw [dot_unit row i n]
    by_cases h : n = i
    · subst h
      rw [if_neg (Nat.lt_irrefl _), if_pos rfl, if_pos (Nat.lt_succ_self _), Int.one_mul, Int.zero_add]
    · rw [if_neg h, Int.zero_mul, Int.add_zero]
      by_cases h2 : i < n
      · rw [if_pos h2, if_pos (by omega)]
      · rw [if_neg h2, if_neg (by omega)]
variable {h : Nat}
theorem Lin.add {f g : Nat → Int} (hf : Lin one other b h f) (hg : Lin one other b h g) : Lin one other b h fun s => f s + g s := by
  obtain ⟨c, h1⟩ := hf
  obtain ⟨d, h2⟩ := hg
  exact ⟨fun i => c i + d i, fun s hs => by
    show f s + g s = _
    rw [dot_add, h1 s hs, h2 s hs]⟩
theorem Lin.mul (a : Int) {f : Nat → Int} (hf : Lin one other b h f) : Lin one other b h fun s => a * f s := by
  obtain ⟨c, h1⟩ := hf
  exact ⟨fun i => a * c i, fun s hs => by
    show a * f s = _
    rw [dot_mul, h1 s hs]⟩
theorem Lin.zero : Lin one other b h fun _ => 0 := ⟨fun _ => 0, fun s _ => by
  have := dot_mul 0 (fun _ => 0) (tl one other b s) (nn one other)
  simp only [Int.mul_zero, Int.zero_mul] at this
  exact this.symm⟩
theorem Lin.as {f g : Nat → Int} (hf : Lin one other b h f) (e : ∀ s, h < s → f s = g s) : Lin one other b h g := by
  obtain ⟨c, h1⟩ := hf
  exact ⟨c, fun s hs => (e s hs).symm.trans (h1 s hs)⟩
theorem Lin.of {f : Nat → Nat} (hf : f ∈ Fs one other b) : Lin one other b h fun s => (f s : Int) := by
  obtain ⟨i, hi, e⟩ := List.mem_iff_getElem.mp hf
  refine ⟨fun j => if j = i then 1 else 0, fun s _ => ?_⟩
  have hi' := hi
  rw [Fs_len] at hi'
  rw [dot_unit, if_pos hi', tl_at (by rw [List.getElem?_eq_getElem hi, e])]
theorem mem_two {α β : Type} {f g : α → β} {l : List α} {y : β} : y ∈ (l.flatMap fun r => [f r, g r]) ↔ ∃ r ∈ l, y = f r ∨ y = g r := by
  rw [List.mem_flatMap]
  constructor
  · rintro ⟨r, h1, h2⟩
    rcases List.mem_cons.mp h2 with h | h
    · exact ⟨r, h1, .inl h⟩
    · exact ⟨r, h1, .inr (List.mem_singleton.mp h)⟩
  · rintro ⟨r, h1, h | h⟩
    · exact ⟨r, h1, h ▸ List.mem_cons_self⟩
    · exact ⟨r, h1, h ▸ List.mem_cons_of_mem _ List.mem_cons_self⟩
theorem Fs_size : (fun s : Nat => s) ∈ Fs one other b := by
  unfold Fs
  exact List.mem_append_right _ List.mem_cons_self
theorem Fs_one : (fun _ : Nat => 1) ∈ Fs one other b := by
  unfold Fs
  exact List.mem_append_right _ (List.mem_cons_of_mem _ List.mem_cons_self)
theorem Fs_w {wd : Wd} (hw : wd = one ∨ wd = other) {r : Nat} (hr : r ∈ crushes wd) : (fun s => W wd b r s) ∈ Fs one other b ∧ (fun s => W wd b r (s + 1)) ∈ Fs one other b := by
  unfold Fs
  rcases hw with rfl | rfl
  · exact ⟨List.mem_append_left _ (List.mem_append_left _ (mem_two.mpr ⟨r, hr, .inl rfl⟩)), List.mem_append_left _ (List.mem_append_left _ (mem_two.mpr ⟨r, hr, .inr rfl⟩))⟩
  · exact ⟨List.mem_append_left _ (List.mem_append_right _ (mem_two.mpr ⟨r, hr, .inl rfl⟩)), List.mem_append_left _ (List.mem_append_right _ (mem_two.mpr ⟨r, hr, .inr rfl⟩))⟩
theorem Fs_cases {f : Nat → Nat} (hf : f ∈ Fs one other b) : (∃ wd r, (wd = one ∨ wd = other) ∧ r ∈ crushes wd ∧ (f = (fun s => W wd b r s) ∨ f = (fun s => W wd b r (s + 1)))) ∨ f = (fun s => s) ∨ f = (fun _ => 1) := by
  unfold Fs at hf
  rcases List.mem_append.mp hf with hf | hf
  · rcases List.mem_append.mp hf with hf | hf
    · obtain ⟨r, h1, h2⟩ := mem_two.mp hf
      exact .inl ⟨one, r, .inl rfl, h1, h2⟩
    · obtain ⟨r, h1, h2⟩ := mem_two.mp hf
      exact .inl ⟨other, r, .inr rfl, h1, h2⟩
  · rcases List.mem_cons.mp hf with h | h
    · exact .inr (.inl h)
    · exact .inr (.inr (List.mem_singleton.mp h))
theorem Two.good (t : Two one other) {wd : Wd} (hw : wd = one ∨ wd = other) : Good wd ∧ wd.p = one.p ∧ ∀ s, height one other < s → ∀ o ∈ opens wd, o < s := by
  rcases hw with rfl | rfl
  · exact ⟨t.g1, rfl, fun s hs o ho => Nat.lt_of_le_of_lt (maxl_le (List.mem_append_left _ ho)) hs⟩
  · exact ⟨t.g2, t.pp.symm, fun s hs o ho => Nat.lt_of_le_of_lt (maxl_le (List.mem_append_right _ ho)) hs⟩
/-- any row's weights are sums -/
theorem lin_W (t : Two one other) {wd : Wd} (hw : wd = one ∨ wd = other) {row : Nat} (hr : row < wd.rows.length) : Lin one other b (height one other) (fun s => (W wd b row s : Int)) ∧ Lin one other b (height one other) (fun s => (W wd b row (s + 1) : Int)) := by
  obtain ⟨g, _, hh⟩ := t.good hw
  obtain ⟨h1, h2, h3⟩ := goal_spec g hr
  cases e : wd.rows[goal wd row]? with
  | none => exact absurd (List.getElem?_eq_none_iff.mp e) (by omega)
  | some r =>
    cases r with
    | mesh o u v => exact absurd e (h2 o u v)
    | crush c =>
      obtain ⟨m1, m2⟩ := Fs_w (b := b) hw (mem_crushes.mpr ⟨c, e⟩)
      exact ⟨(Lin.of m1).as fun s hs => by rw [h3 b s (hh s hs)], (Lin.of m2).as fun s hs => by rw [h3 b (s + 1) (hh (s + 1) (by omega))]⟩
    | bin k =>
      by_cases hk : k = b
      · refine ⟨(Lin.of Fs_size).as fun s hs => ?_, ((Lin.of Fs_size).add (Lin.of Fs_one)).as fun s hs => ?_⟩
        · rw [h3 b s (hh s hs), W_bin g e, if_pos hk]
        · rw [h3 b (s + 1) (hh (s + 1) (by omega)), W_bin g e, if_pos hk] <;> rfl
      · refine ⟨Lin.zero.as fun s hs => ?_, Lin.zero.as fun s hs => ?_⟩
        · rw [h3 b s (hh s hs), W_bin g e, if_neg hk] <;> rfl
        · rw [h3 b (s + 1) (hh (s + 1) (by omega)), W_bin g e, if_neg hk] <;> rfl
theorem div_pr {p s r : Nat} (hp : 0 < p) (hr : r < p) : (p * s + r) / p = s ∧ (p * s + r) % p = r := by
  rw [Nat.mul_add_div hp, Nat.div_eq_of_lt hr, Nat.mul_add_mod, Nat.mod_eq_of_lt hr]
  exact ⟨Nat.add_zero _, rfl⟩
/-- the crusher's weight at p s + r, and at one more -/
theorem W_pr {wd : Wd} (g : Good wd) {row c s r : Nat} (h : wd.rows[row]? = some (.crush c)) (hr : r < wd.p) : W wd b row (wd.p * s + r) = (wd.p - r) * W wd b c s + r * W wd b c (s + 1) ∧ W wd b row (wd.p * s + r + 1) = (wd.p - r - 1) * W wd b c s + (r + 1) * W wd b c (s + 1) := by
  have hp := g.p2
  constructor
  · obtain ⟨e1, e2⟩ := div_pr (s := s) (by omega) hr
    rw [W_crush g h, e1, e2]
  · by_cases hl : r + 1 < wd.p
    · obtain ⟨e1, e2⟩ := div_pr (s := s) (by omega) hl
      rw [W_crush g h, show wd.p * s + r + 1 = wd.p * s + (r + 1) by omega, e1, e2, show wd.p - (r + 1) = wd.p - r - 1 by omega]
    · have er : r + 1 = wd.p := by omega
      have e0 : wd.p * s + r + 1 = wd.p * (s + 1) + 0 := by
        rw [Nat.mul_add]
        omega
      obtain ⟨e1, e2⟩ := div_pr (p := wd.p) (s := s + 1) (r := 0) (by omega) (by omega)
      rw [W_crush g h, e0, e1, e2, er, show wd.p - r - 1 = 0 by omega, Nat.zero_mul, Nat.zero_mul, Nat.add_zero, Nat.zero_add, Nat.sub_zero]
theorem lin_pr (t : Two one other) {r : Nat} (hr : r < one.p) {f : Nat → Nat} (hf : f ∈ Fs one other b) : Lin one other b (height one other) fun s => (f (one.p * s + r) : Int) := by
  rcases Fs_cases hf with ⟨wd, row, hw, hrow, h⟩ | h | h
  · obtain ⟨g, ep, hh⟩ := t.good hw
    obtain ⟨c, hc⟩ := mem_crushes.mp hrow
    have hcl : c < wd.rows.length := g.ok _ (List.mem_of_getElem? hc)
    obtain ⟨l1, l2⟩ := lin_W (b := b) t hw hcl
    rw [← ep] at hr ⊢
    rcases h with h | h
    · subst h
      refine ((l1.mul ((wd.p - r : Nat) : Int)).add (l2.mul (r : Int))).as fun s _ => ?_
      show _ = ((W wd b row (wd.p * s + r) : Nat) : Int)
      rw [(W_pr g hc hr).1, Int.natCast_add, Int.natCast_mul, Int.natCast_mul]
    · subst h
      refine ((l1.mul ((wd.p - r - 1 : Nat) : Int)).add (l2.mul ((r + 1 : Nat) : Int))).as fun s _ => ?_
      show _ = ((W wd b row (wd.p * s + r + 1) : Nat) : Int)
      rw [(W_pr g hc hr).2, Int.natCast_add ((wd.p - r - 1) * _), Int.natCast_mul, Int.natCast_mul]
  · subst h
    refine (((Lin.of (h := height one other) (Fs_size (one := one) (other := other) (b := b))).mul (one.p : Int)).add ((Lin.of Fs_one).mul (r : Int))).as fun s _ => ?_
    show (one.p : Int) * (s : Int) + (r : Int) * ((1 : Nat) : Int) = ((one.p * s + r : Nat) : Int)
    rw [Int.natCast_add, Int.natCast_mul]
    omega
  · subst h
    exact Lin.of Fs_one
/-- a weighing of the tail row at p s + r is one of that at s -/
theorem lin_dot (t : Two one other) {r : Nat} (hr : r < one.p) (c : Nat → Int) : ∀ m, m ≤ nn one other → Lin one other b (height one other) fun s => dot m c (tl one other b (one.p * s + r))
  | 0, _ => Lin.zero
  | m + 1, hm => by
    have hi : m < (Fs one other b).length := by
      rw [Fs_len]
      exact hm
    have h1 := lin_pr t hr (List.getElem_mem hi)
    refine ((lin_dot t hr c m (by omega)).add (h1.mul (c m))).as fun s _ => ?_
    show _ = dot m c _ + c m * gt (tl one other b (one.p * s + r)) m
    rw [tl_at (List.getElem?_eq_getElem hi)]
end
/-! ### what told tails tell of all -/
theorem tails_all {one other : Wd} {b : Nat} (t : Two one other) {told : List Nat}
    (h1 : ∀ s, height one other < s → s < one.p * (height one other + 1) → ∀ c, (∀ q ∈ told, q ≤ s → dot (nn one other) c (tl one other b q) = 0) → dot (nn one other) c (tl one other b s) = 0)
    (hgt : ∀ q ∈ told, height one other < q)
    (h2 : ∀ q ∈ told, ∀ r, r < one.p → ∀ c, (∀ q' ∈ told, q' ≤ one.p * q + r → dot (nn one other) c (tl one other b q') = 0) → dot (nn one other) c (tl one other b (one.p * q + r)) = 0) :
    ∀ s, height one other < s → ∀ c, (∀ q ∈ told, q ≤ s → dot (nn one other) c (tl one other b q) = 0) → dot (nn one other) c (tl one other b s) = 0 := by
  intro s
  induction s using Nat.strongRecOn with
  | _ s ih =>
    intro hs c hc
    have hp := t.g1.p2
    by_cases hlt : s < one.p * (height one other + 1)
    · exact h1 s hs hlt c hc
    · have hm : s % one.p < one.p := Nat.mod_lt _ (by omega)
      have hdm := Nat.div_add_mod s one.p
      have hq : height one other < s / one.p := by
        apply Classical.byContradiction
        intro z
        have : one.p * (s / one.p) ≤ one.p * height one other := Nat.mul_le_mul_left _ (by omega)
        rw [Nat.mul_add, Nat.mul_one] at hlt
        omega
      have hqs : s / one.p < s := Nat.div_lt_self (by omega) hp
      obtain ⟨d, hd⟩ := lin_dot (b := b) t hm c (nn one other) (Nat.le_refl _)
      have key : ∀ q, height one other < q → dot (nn one other) c (tl one other b (one.p * q + s % one.p)) = dot (nn one other) d (tl one other b q) := fun q hq => hd q hq
      have e := key (s / one.p) hq
      rw [hdm] at e
      rw [e]
      refine ih (s / one.p) hqs hq d fun q hq' hle => ?_
      rw [← key q (hgt q hq')]
      refine h2 q hq' _ hm c fun q' hq'' hle' => hc q' hq'' (Nat.le_trans hle' ?_)
      have : one.p * q ≤ one.p * (s / one.p) := Nat.mul_le_mul_left _ hle
      omega
end Mw
namespace Mw
open PySem PySem.Spec PyProof.Rows L2
section
variable {K : PySem.W.Frag} {σ : L2.St} {G G' H H' : Hp} {ta tb tc te : TE} {t u : TT} {α β : Type} [Rep α] [Rep β] {x : α} {v : V} {D : Ends} {tu tw tz : TS} {g : TG}
theorem eqV_nat (a b : Nat) : eqV (.int (a : Int)) (.int (b : Int)) = decide (a = b) := by
  show ((a : Int) == (b : Int)) = _
  rw [Bool.beq_eq_decide_eq, dec_eq]
theorem ev_index {n : Nat} {ns : List Nat} {j : Nat} (ha : Ev K ta σ G ns) (hb : Ev K tb σ G n) (hj : ns[j]? = some n) (hno : ∀ m, m < j → ns[m]? ≠ some n) : Ev K (tBM K "list" (rIndex K) ta (tCons tb tNil)) σ G j := fun G1 H1 a b Q q =>
  ha G1 H1 a b _ fun v G2 H2 s r => by
    have r0 := r
    obtain ⟨p, vs, e1, e2, e3⟩ := r0
    subst e1
    refine ⟨.inl ⟨rfl, vs, SqL.of (s.gh _ _ e2)⟩, hb G2 H2 (a.trans s.gg) s.gh _ fun w G3 H3 s' r' => ?_⟩
    obtain rfl : w = .int (n : Int) := r'
    have es := nats_of e3
    refine ⟨p, vs, .int (n : Int), j, .int (n : Int), rfl, rfl, SqL.of (s'.gh _ _ (s'.gg _ _ e2)), rfl, by rw [es]; exact flat_nats ns, ?_, by rw [eqV_nat]; exact decide_eq_true rfl, fun m z' hm hz => ?_, q _ G3 H3 (s.trans s') rfl⟩
    · rw [es, List.getElem?_map, List.getElem?_map, hj] <;> rfl
    · rw [es, List.getElem?_map, List.getElem?_map] at hz
      cases e : ns[m]? with
      | none =>
        rw [e] at hz
        cases hz
      | some k =>
        rw [e] at hz
        have : V.int (k : Int) = z' := Option.some.inj hz
        subst this
        rw [eqV_nat]
        exact decide_eq_false fun z => hno m hm (by rw [e, z])
theorem s_set2 {i j : Nat} {p : α × β} (gh : Same G H) (h : Ev K te σ G p) (k : ∀ v1 v2 G2 H2, Stp K G H G2 H2 → rp K G2 v1 p.1 → rp K G2 v2 p.2 → D.nx ((σ.set i (some v1)).set j (some v2)) H2) : tAsg te (gTup K 2 (gCons (gName i) (gCons (gName j) gNil))) D σ H :=
  h G H (Same.refl G) gh _ fun v G2 H2 s r => g_pair r s.gh fun v1 v2 r1 r2 => k v1 v2 G2 H2 s r1 r2
theorem q_set2 {i j : Nat} {p : α × β} (gh : Same G H) (h : Ev K te σ G p) (k : ∀ v1 v2 G2 H2, Stp K G H G2 H2 → rp K G2 v1 p.1 → rp K G2 v2 p.2 → tz D ((σ.set i (some v1)).set j (some v2)) H2) : tSeq (tAsg te (gTup K 2 (gCons (gName i) (gCons (gName j) gNil)))) tz D σ H := s_set2 (D := { D with nx := tz D }) gh h k
/-- for z in (x, y) -/
theorem s_forT2 {tl : TE} {x y : α} (gh : Same G H) (h : Ev K tl σ G (x, y))
    (k : ∀ G1 H1, Stp K G H G1 H1 → ∃ Pv : Nat → L2.St → Hp → Prop, Pv 0 σ H1 ∧ (∀ i σ' H', Pv i σ' H' → Same G1 H') ∧
      (∀ i z v σ' H', i < 2 → z = (if i = 0 then x else y) → rp K G1 v z → Pv i σ' H' → g v σ' H' fun σ2 H2 => tu { D with nx := Pv (i + 1), ct := Pv (i + 1), bk := D.nx } σ2 H2) ∧ (∀ σ' H', Pv 2 σ' H' → D.nx σ' H')) : tFor (iTup K tl) g tu D σ H := by
  refine h G H (Same.refl G) gh _ fun vl G1 H1 s r => ?_
  obtain ⟨Pv, h0, hs, ht, hd⟩ := k G1 H1 s
  obtain ⟨a, v1, v2, e1, e2, e3, e4⟩ := r
  refine ⟨a, e1, ⟨[v1, v2], SqT.of (s.gh _ _ e2)⟩, for_tup (xs := [v1, v2]) Pv h0 (fun i σ' H' _ p => SqT.of (hs i σ' H' p _ _ e2)) (fun i v σ' H' hi p => ?_) hd⟩
  match i, hi with
  | 0, hi =>
    have hi : v1 = v := by simpa using hi
    exact ht 0 x v σ' H' (by decide) rfl (hi ▸ e3) p
  | 1, hi =>
    have hi : v2 = v := by simpa using hi
    exact ht 1 y v σ' H' (by decide) rfl (hi ▸ e4) p
  | i + 2, hi => simp at hi
theorem q_forT2 {tl : TE} {x y : α} (gh : Same G H) (h : Ev K tl σ G (x, y))
    (k : ∀ G1 H1, Stp K G H G1 H1 → ∃ Pv : Nat → L2.St → Hp → Prop, Pv 0 σ H1 ∧ (∀ i σ' H', Pv i σ' H' → Same G1 H') ∧
      (∀ i z v σ' H', i < 2 → z = (if i = 0 then x else y) → rp K G1 v z → Pv i σ' H' → g v σ' H' fun σ2 H2 => tu { D with nx := Pv (i + 1), ct := Pv (i + 1), bk := tz D } σ2 H2) ∧ (∀ σ' H', Pv 2 σ' H' → tz D σ' H')) : tSeq (tFor (iTup K tl) g tu) tz D σ H := s_forT2 (D := { D with nx := tz D }) gh h k
theorem ea_catO {i : Nat} {l : Addr} {vs : List V} {xs m : List α} (hi : σ[i]? = some (some (.ref l))) (gl : G l = none) (hl : H l = some (.lst vs)) (gh : Same G H) (r : All2 (rp K G) vs xs) (hb : Ev K tb σ G m) (hz : xs.length + m.length ≤ 100000) : EA K (tOp rCat (tVar i) tb) σ G H (xs ++ m) := fun Q q =>
  ⟨.ref l, hi, hb.at_ gh _ fun w G2 H2 s ⟨p', ws, f1, f2, f3⟩ => by
    obtain ⟨e1, e2⟩ := s.ownL gl hl
    exact ⟨l, p', vs, ws, rfl, f1, e2, s.gh _ _ f2, sz_of (by rw [r.len, f3.len]; exact hz), fun d hd =>
      q (.ref d) _ _ (s.trans (Stp.new s.gh hd)) ⟨d, _, rfl, upd_same, ((r.mp fun _ _ r => Rep.mono s.gg r).app f3).mp fun _ _ r => Rep.mono (same_new (s.gh.free hd)) r⟩⟩⟩
theorem atI_m1 {l : List α} {a b : α} : atI (l ++ [a, b]) (-1) = some b := by
  unfold atI ixN
  rw [List.length_append]
  have e : (-1 + (((l.length + [a, b].length : Nat)) : Int)).toNat = l.length + 1 := by
    show (-1 + (((l.length + 2 : Nat)) : Int)).toNat = _
    omega
  rw [if_neg (by decide), if_pos (by show -(((l.length + 2 : Nat)) : Int) ≤ -1; omega), e]
  simp
theorem atI_m2 {l : List α} {a b : α} : atI (l ++ [a, b]) (-2) = some a := by
  unfold atI ixN
  rw [List.length_append]
  have e : (-2 + (((l.length + [a, b].length : Nat)) : Int)).toNat = l.length := by
    show (-2 + (((l.length + 2 : Nat)) : Int)).toNat = _
    omega
  rw [if_neg (by decide), if_pos (by show -(((l.length + 2 : Nat)) : Int) ≤ -2; omega), e]
  simp
end
/-! ### tail rows, written out -/
def cw (wd : Wd) (b s : Nat) (l : List Nat) : List Nat := l.flatMap fun r => [W wd b r s, W wd b r (s + 1)]
theorem tailT_eq (one other : Wd) (b s : Nat) : tailT one other b s = cw one b s (crushes one) ++ cw other b s (crushes other) ++ [s, 1] := by
  unfold tailT Fs cw
  rw [List.map_append, List.map_append, List.map_flatMap, List.map_flatMap] <;> rfl
def sz (l : List Nat) : Nat := l.getD (l.length - 2) 0
theorem sz_tail (one other : Wd) (b s : Nat) : sz (tailT one other b s) = s := by
  rw [tailT_eq]
  unfold sz
  rw [List.length_append, List.getD_eq_getElem?_getD, List.getElem?_append_right (by simp)]
  simp
theorem cw_snoc (wd : Wd) (b s : Nat) (l : List Nat) (r : Nat) : cw wd b s (l ++ [r]) = cw wd b s l ++ [W wd b r s, W wd b r (s + 1)] := by
  unfold cw
  rw [List.flatMap_append] <;> simp
theorem cw_len (wd : Wd) (b s : Nat) (l : List Nat) : (cw wd b s l).length = 2 * l.length := len_two _ _ l
theorem cw_at (wd : Wd) (b s : Nat) : ∀ (l : List Nat) (i r : Nat), l[i]? = some r → (cw wd b s l)[2 * i]? = some (W wd b r s) ∧ (cw wd b s l)[2 * i + 1]? = some (W wd b r (s + 1))
  | [], i, r, h => by simp at h
  | x :: l, 0, r, h => by
    have h : x = r := by simpa using h
    subst h
    exact ⟨rfl, rfl⟩
  | x :: l, i + 1, r, h => by
    have := cw_at wd b s l i r (by simpa using h)
    exact this
theorem app_mid {α : Type} (a b c : List α) (k : Nat) (h : k < b.length) : (a ++ b ++ c)[a.length + k]? = b[k]? := by
  rw [List.append_assoc, List.getElem?_append_right (by omega), Nat.add_sub_cancel_left, List.getElem?_append_left h]
theorem first_at {n : Nat} : ∀ {l : List Nat}, n ∈ l → ∃ j : Nat, l[j]? = some n ∧ ∀ m : Nat, m < j → l[m]? ≠ some n
  | [], h => by cases h
  | x :: l, h => by
    by_cases e : x = n
    · exact ⟨0, by rw [e]; rfl, fun m hm => absurd hm (Nat.not_lt_zero m)⟩
    · obtain ⟨j, h1, h2⟩ := first_at ((List.mem_cons.mp h).resolve_left fun z => e z.symm)
      refine ⟨j + 1, by simpa using h1, fun m hm => ?_⟩
      match m with
      | 0 =>
        intro z
        exact e (by simpa using z)
      | m + 1 =>
        have := h2 m (by omega)
        simpa using this
end Mw
namespace Mw
open PySem PySem.Spec PyProof.Rows L2
abbrev spGoal (K : PySem.W.Frag) : Sp := sp2 K (fun (wd : Wd) (row : Nat) => Good wd ∧ row < wd.rows.length) goal
abbrev okPair (wd : Wd) (places : List Nat) (first row b : Nat) : Prop := ∃ one other s, Two one other ∧ height one other < s ∧ s + 1 < 2 ^ 60 ∧ places = tailT one other b s ∧ row < wd.rows.length ∧ ((wd = one ∧ first = 0) ∨ (wd = other ∧ first = 2 * (crushes one).length))
abbrev spPair (K : PySem.W.Frag) : Sp := sp5 K okPair (fun wd places _ row b => ((W wd b row (sz places), W wd b row (sz places + 1)) : Nat × Nat))
abbrev okNext (one other : Wd) (places : List Nat) (r b : Nat) : Prop := ∃ s, Two one other ∧ height one other < s ∧ s + 1 < 2 ^ 56 ∧ places = tailT one other b s ∧ r < one.p
abbrev spNext (K : PySem.W.Frag) : Sp := sp5 K okNext (fun one other places r b => tailT one other b (one.p * sz places + r))
abbrev spBehind (K : PySem.W.Frag) : Sp := sp4 K (fun one other places b => okNext one other places 0 b) (fun one other places b => (List.range one.p).map fun r => tailT one other b (one.p * sz places + r))
abbrev spSame (K : PySem.W.Frag) : Sp := sp4 K (fun one other places b => okNext one other places 0 b) (fun one other places b => decide (W one b 0 (sz places) = W other b 0 (sz places)))
section
variable {P : Program} {w : World} {K : PySem.W.Frag} {mg : Str → Option Value} {base : Heap}
theorem c_far_goal (h : Has K mg "far_goal" d_far_goal) (T : Tx K mg base) : Cal P w K mg base "far_goal" 1 ["works", "row"] (spGoal K) := by
  refine h.cal sc_far_goal (fun _ _ _ _ _ _ us hl => match us, hl with | [_, _], _ => rfl) (fun vs H Q E h => ?_) (fun f cdv A outer s0 H vs Q E hr h => ?_)
  · obtain ⟨_, _, _, _, _, rfl, _⟩ := h
    rfl
  · obtain ⟨G, v1, v2, wd, row, rfl, gh, r1, r2, ⟨g, h0⟩, q⟩ := h
    refine ⟨_, (pss_cons (ps_while PassesOwn.never (pt_cmpR op_eq (pe_ix (ixT K) (pe_ix (ixL K) (fldK K (pv 0)) (pv 1) (fun _ _ => rfl)) pe_int (fun _ _ => rfl)) pe_str (nomark _)) (pss_one (ps_set (i := 1) sc_far_goal.nd rfl (.inl rfl) (pe_ix (ixT K) (pe_ix (ixL K) (fldK K (pv 0)) (pv 1) (fun _ _ => rfl)) pe_int (fun _ _ => rfl)))))
      (pss_one (ps_ret (pv 1)))), ?_⟩
    obtain rfl : v2 = .int (row : Int) := r2
    obtain ⟨rho, h15, hd⟩ := g.rk
    refine q_while (K := K) (fun m σ' H' => ∃ (r : Nat), ∃ G', m = rho 21 r ∧ σ' = [some v1, some (.int (r : Int))] ∧ r < wd.rows.length ∧ goal wd r = goal wd row ∧ Stp K G H G' H') _ ⟨row, G, rfl, rfl, h0, rfl, Stp.refl gh⟩ ?_
    rintro m σ' H' ⟨r, G', rfl, rfl, hr', e, st⟩
    have r1' := Rep.mono st.gg r1
    have hrow := List.getElem?_eq_getElem hr'
    generalize wd.rows[r] = rw at hrow
    refine ⟨G', _, st.gh, et_t (ev_isM (ev_row T (ev_var r1') (ev_var (x := r) rfl) hrow)), fun e5 G5 H5 s5 => ?_, fun e5 G5 H5 s5 => ?_⟩
    · cases rw with
      | crush t => cases e5
      | bin b => cases e5
      | mesh o u v =>
        refine s_set (K := K) s5.gh (ev_m3 (ev_row T (ev_var (Rep.mono s5.gg r1')) (ev_var (x := r) rfl) hrow)) fun v' G6 H6 s6 r6 => ?_
        obtain rfl : v' = .int (v : Int) := r6
        exact ⟨_, hd 21 r v (by decide) (whole_far g hrow (mesh_far g hrow).1), v, G6, rfl, rfl, (mesh_far g hrow).2, by rw [← goal_mesh g hrow, e], (st.trans s5).trans s6⟩
    · have hn : goal wd r = r := goal_else fun o u v z => by
        rw [hrow] at z
        cases z
        cases e5
      rw [hn] at e
      refine s_ret (K := K) s5.gh (ev_var (x := r) rfl) fun w G7 H7 s7 r7 => q w G7 H7 ((st.trans s5).trans s7) ?_
      rw [← e]
      exact r7
theorem c_far_pair (h : Has K mg "far_pair" d_far_pair) (T : Tx K mg base) (c_far_goal : Cal P w K mg base "far_goal" 1 ["works", "row"] (spGoal K)) (c_crushers_of : Cal P w K mg base "crushers_of" 1 ["works"] (spCrushers K)) :
    Cal P w K mg base "far_pair" 2 ["works", "places", "first", "row", "number"] (spPair K) := by
  refine h.cal sc_far_pair (fun _ _ _ _ _ _ us hl => match us, hl with | [_, _, _, _, _], _ => rfl) (fun vs H Q E h => ?_) (fun f cdv A outer s0 H vs Q E hr h => ?_)
  · obtain ⟨_, _, _, _, _, _, _, _, _, _, _, rfl, _⟩ := h
    rfl
  · obtain ⟨G, v1, v2, v3, v4, v5, wd, places, first, row, b, rfl, gh, r1, r2, r3, r4, r5, ⟨one, other, s, tw, hs, hs60, rfl, h0, hw⟩, q⟩ := h
    refine ⟨_, (pss_cons (ps_set (i := 5) sc_far_pair.nd rfl (.inl rfl) (pe_c c_far_goal (hr.mono (by decide)) (pa_cons (pv 0) (pa_cons (pv 3) pa_nil))))
      (pss_cons (ps_if (pt_cmpR op_eq (pe_ix (ixT K) (pe_ix (ixL K) (fldK K (pv 0)) (pv 5) (fun _ _ => rfl)) pe_int (fun _ _ => rfl)) pe_str (nomark _)) (pss_cons (ps_set (i := 6) sc_far_pair.nd rfl (.inl rfl) (pe_op op_add (pv 2) (pe_op op_mul pe_int (pe_bm PySem.F.plainAttrs_list PySem.F.slot_list_index PySem.F.type_list_index mt_index (pe_c c_crushers_of (hr.mono (by decide)) (pa_cons (pv 0) pa_nil)) (pa_cons (pv 5) pa_nil)))))
      (pss_one (ps_ret (pe_tup (pa_cons (pe_ix (ixL K) (pv 1) (pv 6) (fun _ _ => rfl)) (pa_cons (pe_ix (ixL K) (pv 1) (pe_op op_add (pv 6) pe_int) (fun _ _ => rfl)) pa_nil)))))) pss_nil)
      (pss_cons (ps_if (pt_cmpR (eqDK K hr.units) (pe_ix (ixL K) (fldK K (pv 0)) (pv 5) (fun _ _ => rfl)) (pe_tup (pa_cons pe_str (pa_cons (pv 4) pa_nil))) (nomark _)) (pss_one (ps_ret (pe_tup (pa_cons (pe_ix (ixL K) (pv 1) (pe_un un_neg pe_int) (fun _ _ => rfl)) (pa_cons (pe_op op_add (pe_ix (ixL K) (pv 1) (pe_un un_neg pe_int) (fun _ _ => rfl)) pe_int) pa_nil))))) pss_nil)
      (pss_one (ps_ret (pe_tup (pa_cons pe_int (pa_cons pe_int pa_nil)))))))), ?_⟩
    dsimp only at q
    rw [sz_tail] at q
    have hw' : wd = one ∨ wd = other := hw.elim (fun z => .inl z.1) fun z => .inr z.1
    obtain ⟨g, ep, hh⟩ := tw.good hw'
    obtain ⟨g1, g2, g3⟩ := goal_spec g h0
    rw [g3 b s (hh s hs), g3 b (s + 1) (hh (s + 1) (by omega))] at q
    refine q_set (K := K) gh (ev_2 (ev_var r1) (ev_var r4) ⟨g, h0⟩) fun v6 G2 H2 s2 r6 => ?_
    obtain rfl : v6 = .int (goal wd row : Int) := r6
    have hrow := List.getElem?_eq_getElem g1
    have r1' := Rep.mono s2.gg r1
    generalize wd.rows[goal wd row] = rw at hrow
    cases rw with
    | mesh o u v => exact absurd hrow (g2 o u v)
    | crush t =>
      refine q_when (K := K) s2.gh (et_t (ev_isC (ev_row T (ev_var r1') (ev_var (x := goal wd row) rfl) hrow))) (fun e G3 H3 s3 => ?_) (fun e => by cases e)
      obtain ⟨j, hj, hno⟩ := first_at (mem_crushes.mpr ⟨t, hrow⟩)
      have hj12 : j < 12 := by
        have := (List.getElem?_eq_some_iff.mp hj).1
        have := crushes_len wd
        have := g.n12
        omega
      refine q_set (K := K) s3.gh (ev_addN (ev_var r3) (ev_mulN (ev_n (n := 2)) (ev_index (ev_1 (ev_var (Rep.mono s3.gg r1')) g) (ev_var (x := goal wd row) rfl) hj hno) (cmul_of (by omega)))) fun v7 G4 H4 s4 r7 => ?_
      obtain rfl : v7 = .int ((first + 2 * j : Nat) : Int) := r7
      have t4 := (s2.trans s3).trans s4
      have hat : (tailT one other b s)[first + 2 * j]? = some (W wd b (goal wd row) s) ∧ (tailT one other b s)[first + 2 * j + 1]? = some (W wd b (goal wd row) (s + 1)) := by
        obtain ⟨c1, c2⟩ := cw_at wd b s _ _ _ hj
        have hj2 := (List.getElem?_eq_some_iff.mp hj).1
        rw [tailT_eq]
        rcases hw with ⟨rfl, rfl⟩ | ⟨rfl, rfl⟩
        · rw [Nat.zero_add, List.append_assoc, List.getElem?_append_left (by rw [cw_len]; omega), List.getElem?_append_left (by rw [cw_len]; omega)]
          exact ⟨c1, c2⟩
        · have hl := cw_len one b s (crushes one)
          have m1 := app_mid (cw one b s (crushes one)) (cw wd b s (crushes wd)) [s, 1] (2 * j) (by rw [cw_len]; omega)
          have m2 := app_mid (cw one b s (crushes one)) (cw wd b s (crushes wd)) [s, 1] (2 * j + 1) (by rw [cw_len]; omega)
          rw [hl] at m1 m2
          rw [m1, Nat.add_assoc, m2]
          exact ⟨c1, c2⟩
      refine s_ret (K := K) s4.gh (ev_t2 (ev_ixN (ev_var (Rep.mono t4.gg r2)) (ev_nI (ev_var (x := first + 2 * j) rfl)) rfl hat.1) (ev_ixN (ev_var (Rep.mono t4.gg r2)) (ev_nI (ev_addN (ev_var (x := first + 2 * j) rfl) (ev_n (n := 1)))) rfl hat.2)) fun w G7 H7 s7 r7 => q w G7 H7 (t4.trans s7) r7
    | bin k =>
      refine q_when (K := K) s2.gh (et_t (ev_isC (ev_row T (ev_var r1') (ev_var (x := goal wd row) rfl) hrow))) (fun e => by cases e) (fun e G3 H3 s3 => ?_)
      have t3 := s2.trans s3
      rw [W_bin g hrow, W_bin g hrow] at q
      have hm2 : atI (tailT one other b s) (-2) = some s := by
        rw [tailT_eq]
        exact atI_m2
      refine q_when (K := K) s3.gh (et_t (ev_eqBin (ev_row T (ev_var (Rep.mono s3.gg r1')) (ev_var (x := goal wd row) rfl) hrow) (ev_mkB (ev_var (Rep.mono t3.gg r5))))) (fun e G4 H4 s4 => ?_) (fun e G4 H4 s4 => ?_)
      · have e := of_decide_eq_true e
        have e : k = b := by
          cases e
          rfl
        rw [if_pos e, if_pos e] at q
        refine s_ret (K := K) s4.gh (ev_t2 (ev_ix (ev_var (Rep.mono (t3.trans s4).gg r2)) (ev_neg (ev_i (i := 2))) hm2) (ev_addN (ev_ix (ev_var (Rep.mono (t3.trans s4).gg r2)) (ev_neg (ev_i (i := 2))) hm2) (ev_n (n := 1)))) fun w G7 H7 s7 r7 => q w G7 H7 ((t3.trans s4).trans s7) r7
      · have e := of_decide_eq_false e
        have e : ¬ k = b := fun z => e (by rw [z])
        rw [if_neg e, if_neg e] at q
        exact s_ret (K := K) s4.gh (ev_t2 (ev_n (n := 0)) (ev_n (n := 0))) fun w G7 H7 s7 r7 => q w G7 H7 ((t3.trans s4).trans s7) r7
end
end Mw
namespace Mw
open PySem PySem.Spec PyProof.Rows L2
/-- the works at a place -/
def wdAt (one other : Wd) (i : Nat) : Wd := if i = 0 then one else other
def pre2 (one other : Wd) (b s i : Nat) : List Nat := if i = 0 then [] else if i = 1 then cw one b s (crushes one) else cw one b s (crushes one) ++ cw other b s (crushes other)
theorem pre2_len (one other : Wd) (b s i : Nat) : (pre2 one other b s i).length ≤ 2 * (crushes one).length + 2 * (crushes other).length := by
  unfold pre2
  split
  · exact Nat.zero_le _
  · split
    · rw [cw_len]
      omega
    · rw [List.length_append, cw_len, cw_len]
      exact Nat.le_refl _
theorem pre2_succ (one other : Wd) (b s : Nat) : ∀ i, i < 2 → pre2 one other b s i ++ cw (wdAt one other i) b s (crushes (wdAt one other i)) = pre2 one other b s (i + 1)
  | 0, _ => rfl
  | 1, _ => rfl
  | i + 2, h => by omega
abbrev spFew (K : PySem.W.Frag) : Sp := sp3 K (fun (one other : Wd) (b : Nat) => Good one ∧ Good other) fun one other b => (List.range' 1 (height one other)).find? fun s => decide (W one b 0 s ≠ W other b 0 s)
section
variable {P : Program} {w : World} {K : PySem.W.Frag} {mg : Str → Option Value} {base : Heap}
theorem c_next_tail (h : Has K mg "next_tail" d_next_tail) (T : Tx K mg base) (c_crushers_of : Cal P w K mg base "crushers_of" 1 ["works"] (spCrushers K)) (c_far_pair : Cal P w K mg base "far_pair" 2 ["works", "places", "first", "row", "number"] (spPair K)) :
    Cal P w K mg base "next_tail" 3 ["one", "other", "places", "rest", "number"] (spNext K) := by
  refine h.cal sc_next_tail (fun _ _ _ _ _ _ us hl => match us, hl with | [_, _, _, _, _], _ => rfl) (fun vs H Q E h => ?_) (fun f cdv A outer s0 H vs Q E hr h => ?_)
  · obtain ⟨_, _, _, _, _, _, _, _, _, _, _, rfl, _⟩ := h
    rfl
  · obtain ⟨G, v1, v2, v3, v4, v5, one, other, places, r, b, rfl, gh, r1, r2, r3, r4, r5, ⟨s, tw, hs, hs60, rfl, hrp⟩, q⟩ := h
    refine ⟨_, (pss_cons (ps_set (i := 5) sc_next_tail.nd rfl (.inl rfl) (pe_lst pa_nil))
      (pss_cons (ps_set (i := 6) sc_next_tail.nd rfl (.inl rfl) pe_int)
      (pss_cons (ps_for PassesOwn.never rfl (pi_tup (pe_tup (pa_cons (pv 0) (pa_cons (pv 1) pa_nil)))) (pg_name (i := 7) sc_next_tail.nd rfl (.inl rfl)) (pss_cons (ps_for PassesOwn.never rfl (pi_list (pe_c c_crushers_of (hr.mono (by decide)) (pa_cons (pv 7) pa_nil))) (pg_name (i := 8) sc_next_tail.nd rfl (.inl rfl)) (pss_cons (ps_asg (pe_c c_far_pair (hr.mono (by decide)) (pa_cons (pv 7) (pa_cons (pv 2) (pa_cons (pv 6) (pa_cons (pe_ix (ixT K) (pe_ix (ixL K) (fldK K (pv 7)) (pv 8) (fun _ _ => rfl)) pe_int (fun _ _ => rfl)) (pa_cons (pv 4) pa_nil)))))) (pg_tup rfl (pgs_cons (pg_name (i := 9) sc_next_tail.nd rfl (.inl rfl)) (pgs_cons (pg_name (i := 10) sc_next_tail.nd rfl (.inl rfl)) pgs_nil))))
      (pss_cons (ps_expr (pe_bm PySem.F.plainAttrs_list PySem.F.slot_list_append PySem.F.type_list_append mt_append (pv 5) (pa_cons (pe_op op_add (pe_op op_mul (pe_op op_sub (fldK K (pv 7)) (pv 3)) (pv 9)) (pe_op op_mul (pv 3) (pv 10))) pa_nil)))
      (pss_one (ps_expr (pe_bm PySem.F.plainAttrs_list PySem.F.slot_list_append PySem.F.type_list_append mt_append (pv 5) (pa_cons (pe_op op_add (pe_op op_mul (pe_op op_sub (pe_op op_sub (fldK K (pv 7)) (pv 3)) pe_int) (pv 9)) (pe_op op_mul (pe_op op_add (pv 3) pe_int) (pv 10))) pa_nil)))))))
      (pss_one (ps_set (i := 6) sc_next_tail.nd rfl (.inl rfl) (pe_op op_mul pe_int (pe_callB (lenK K) (by rfl) T.b_len PySem.boot_len (pa_cons (pe_c c_crushers_of (hr.mono (by decide)) (pa_cons (pv 0) pa_nil)) pa_nil)))))))
      (pss_one (ps_ret (pe_op op_cat (pv 5) (pe_lst (pa_cons (pe_op op_add (pe_op op_mul (fldK K (pv 0)) (pe_ix (ixL K) (pv 2) (pe_un un_neg pe_int) (fun _ _ => rfl))) (pv 3)) (pa_cons pe_int pa_nil))))))))), ?_⟩
    dsimp only at q
    rw [sz_tail, tailT_eq] at q
    have p9 := tw.g1.p9
    have cc := tw.cc
    refine q_new fun L nL => ?_
    have s1 : Stp K G H G (upd H L (.lst [])) := Stp.raw gh nL
    refine q_set (K := K) s1.gh (ev_n (n := 0)) fun v7 G2 H2 s2 r7 => ?_
    obtain rfl : v7 = .int ((0 : Nat) : Int) := r7
    obtain ⟨g2, h2⟩ := s2.ownL (gh.free nL) upd_same
    have t2 := s1.trans s2
    have hm2 : atI (tailT one other b s) (-2) = some s := by
      rw [tailT_eq]
      exact atI_m2
    refine q_forT2 (K := K) s2.gh (ev_t2 (ev_var (Rep.mono t2.gg r1)) (ev_var (Rep.mono t2.gg r2))) fun G3 H3 s3 => ⟨fun i σ' H' => ∃ a8 a9 a10 a11 G' vs, σ' = [some v1, some v2, some v3, some v4, some v5, some (.ref L), some (.int (((if i = 0 then 0 else 2 * (crushes one).length : Nat)) : Int)), a8, a9, a10, a11] ∧ Stp K G H G' H' ∧ Same G3 G' ∧ G' L = none ∧ H' L = some (.lst vs) ∧ All2 (rp K G') vs (pre2 one other b (one.p * s + r) i),
      ⟨none, none, none, none, G3, [], rfl, t2.trans s3, Same.refl G3, (s3.ownL g2 h2).1, (s3.ownL g2 h2).2, .nil⟩, ?_, ?_, ?_⟩
    · rintro i σ' H' ⟨a8, a9, a10, a11, G', vs, _, st, sg, _⟩
      exact sg.trans st.gh
    · rintro i wd vw σ' H' hi hwd rw_ ⟨a8, a9, a10, a11, G', vs, rfl, st, sg, gL, hL, rv⟩
      have hwd : wd = wdAt one other i := hwd
      have hor : wd = one ∨ wd = other := by
        rw [hwd]
        unfold wdAt
        split
        · exact .inl rfl
        · exact .inr rfl
      obtain ⟨g, ep, hh⟩ := tw.good hor
      have hfirst : (wd = one ∧ (if i = 0 then 0 else 2 * (crushes one).length) = 0) ∨ (wd = other ∧ (if i = 0 then 0 else 2 * (crushes one).length) = 2 * (crushes one).length) := by
        rw [hwd]
        unfold wdAt
        by_cases h0 : i = 0
        · rw [if_pos h0, if_pos h0]
          exact .inl ⟨rfl, rfl⟩
        · rw [if_neg h0, if_neg h0]
          exact .inr ⟨rfl, rfl⟩
      have rw1 := Rep.mono sg rw_
      show tSeq _ _ _ _ H'
      refine q_for (K := K) st.gh (ev_1 (ev_var rw1) g) fun G5 H5 s5 _ => ⟨fun j σ' H' => ∃ a9 a10 a11 G' vs, σ' = [some v1, some v2, some v3, some v4, some v5, some (.ref L), some (.int (((if i = 0 then 0 else 2 * (crushes one).length : Nat)) : Int)), some vw, a9, a10, a11] ∧ Stp K G H G' H' ∧ Same G5 G' ∧ G' L = none ∧ H' L = some (.lst vs) ∧ All2 (rp K G') vs (pre2 one other b (one.p * s + r) i ++ cw wd b (one.p * s + r) ((crushes wd).take j)),
        ⟨a9, a10, a11, G5, vs, rfl, st.trans s5, Same.refl G5, (s5.ownL gL hL).1, (s5.ownL gL hL).2, by rw [List.take_zero]; show All2 _ _ (_ ++ []); rw [List.append_nil]; exact rv.mp fun _ _ r => Rep.mono s5.gg r⟩, ?_, ?_, ?_⟩
      · rintro j σ' H' ⟨a9, a10, a11, G', vs, _, st, sg, _⟩
        exact sg.trans st.gh
      · rintro j c vc σ' H' hj rc ⟨a9, a10, a11, G', vs, rfl, st', sg', gL', hL', rv'⟩
        obtain rfl : vc = .int (c : Int) := rc
        obtain ⟨t, ht⟩ := mem_crushes.mp (List.mem_of_getElem? hj)
        have htl : t < wd.rows.length := g.ok _ (List.mem_of_getElem? ht)
        have rw2 := Rep.mono (s5.gg.trans sg') rw1
        have hcl : (crushes wd).length ≤ 5 := by rcases hor with z | z <;> rw [z] <;> omega
        have hjl := (List.getElem?_eq_some_iff.mp hj).1
        have lenv : vs.length ≤ 100 := by
          rw [rv'.len, List.length_append, cw_len]
          have := pre2_len one other b (one.p * s + r) i
          have := List.length_take_le j (crushes wd)
          omega
        have W1 := W_le g (b := b) (row := t) (s := s)
        have W2 := W_le g (b := b) (row := t) (s := s + 1)
        obtain ⟨e1, e2⟩ := W_pr (b := b) (s := s) g ht (r := r) (by rw [ep]; exact hrp)
        rw [ep] at e1 e2
        show gName 8 _ _ H' _
        refine q_set2 (K := K) st'.gh (ev_5 (ev_var rw2) (ev_var (Rep.mono st'.gg r3)) (ev_var (x := if i = 0 then 0 else 2 * (crushes one).length) rfl) (ev_c1 (ev_row T (ev_var rw2) (ev_var (x := c) rfl) ht)) (ev_var (Rep.mono st'.gg r5)) ⟨one, other, s, tw, hs, by omega, rfl, htl, hfirst⟩) fun v9 v10 G6 H6 s6 ra rb => ?_
        rw [sz_tail] at ra rb
        obtain rfl : v9 = .int (W wd b t s : Int) := ra
        obtain rfl : v10 = .int (W wd b t (s + 1) : Int) := rb
        obtain ⟨gL6, hL6⟩ := s6.ownL gL' hL'
        have t6 := st'.trans s6
        refine q_app (K := K) rfl gL6 hL6 (by omega) s6.gh (ev_addN (ev_mulN (ev_subN (ev_parts T (ev_var (Rep.mono s6.gg rw2))) (ev_var (Rep.mono t6.gg r4)) (by omega)) (ev_var (x := W wd b t s) rfl) (cmul_of (by omega))) (ev_mulN (ev_var (Rep.mono t6.gg r4)) (ev_var (x := W wd b t (s + 1)) rfl) (cmul_of (by omega)))) fun v11 G7 H7 s7 r7 e7 g7 => ?_
        have t7 := (t6.trans s7).putL (o := .lst (vs ++ [v11])) nL g7 e7
        refine s_app (K := K) rfl g7 upd_same (by rw [List.length_append]; show vs.length + 1 < 100000; omega) t7.gh (ev_addN (ev_mulN (ev_subN (ev_subN (ev_parts T (ev_var (Rep.mono (s6.gg.trans s7.gg) rw2))) (ev_var (Rep.mono t7.gg r4)) (by omega)) (ev_n (n := 1)) (by omega)) (ev_var (x := W wd b t s) rfl) (cmul_of (by omega))) (ev_mulN (ev_addN (ev_var (Rep.mono t7.gg r4)) (ev_n (n := 1))) (ev_var (x := W wd b t (s + 1)) rfl) (cmul_of (by omega)))) fun v12 G8 H8 s8 r8 e8 g8 => ?_
        refine ⟨_, _, _, G8, _, rfl, (t7.trans s8).putL nL g8 e8, sg'.trans ((s6.gg.trans s7.gg).trans s8.gg), g8, upd_same, ?_⟩
        rw [take_snoc hj, cw_snoc, e1, e2, ← List.append_assoc, List.append_assoc vs]
        rw [ep] at r7 r8
        exact (rv'.mp fun _ _ r => Rep.mono ((s6.gg.trans s7.gg).trans s8.gg) r).app (.cons (Rep.mono s8.gg r7) (.one r8))
      · rintro σ' H' ⟨a9, a10, a11, G', vs, rfl, st', sg', gL', hL', rv'⟩
        rw [List.take_length, hwd, pre2_succ one other b _ i hi] at rv'
        refine s_set (K := K) st'.gh (ev_mulN (ev_n (n := 2)) (ev_len (ev_1 (ev_var (Rep.mono st'.gg r1)) tw.g1)) (cmul_of (by omega))) fun v9 G6 H6 s6 r9 => ?_
        obtain rfl : v9 = .int ((2 * (crushes one).length : Nat) : Int) := r9
        obtain ⟨gL6, hL6⟩ := s6.ownL gL' hL'
        refine ⟨some vw, a9, a10, a11, G6, vs, ?_, st'.trans s6, ((sg.trans s5.gg).trans sg').trans s6.gg, gL6, hL6, rv'.mp fun _ _ r => Rep.mono s6.gg r⟩
        rfl
    · rintro σ' H' ⟨a8, a9, a10, a11, G', vs, rfl, st, sg, gL, hL, rv⟩
      have lenv := pre2_len one other b (one.p * s + r) 2
      refine sA_ret (K := K) (ea_catO (xs := pre2 one other b (one.p * s + r) 2) (m := [one.p * s + r, 1]) rfl gL hL st.gh rv (ev_lst (el_cons (ev_addN (ev_mulN (ev_parts T (ev_var (Rep.mono st.gg r1))) (ev_ix (ev_var (Rep.mono st.gg r3)) (ev_neg (ev_i (i := 2))) hm2) (cmul_of (by omega))) (ev_var (Rep.mono st.gg r4))) (el_cons (ev_n (n := 1)) el_nil)) (by simp)) (by show _ + 2 ≤ _; omega)) fun w G7 H7 s7 r7 => q w G7 H7 (st.trans s7) r7
theorem c_behind_tail (h : Has K mg "behind_tail" d_behind_tail) (T : Tx K mg base) (c_next_tail : Cal P w K mg base "next_tail" 3 ["one", "other", "places", "rest", "number"] (spNext K)) :
    Cal P w K mg base "behind_tail" 4 ["one", "other", "places", "number"] (spBehind K) := by
  refine h.cal sc_behind_tail (fun _ _ _ _ _ _ us hl => match us, hl with | [_, _, _, _], _ => rfl) (fun vs H Q E h => ?_) (fun f cdv A outer s0 H vs Q E hr h => ?_)
  · obtain ⟨_, _, _, _, _, _, _, _, _, rfl, _⟩ := h
    rfl
  · obtain ⟨G, v1, v2, v3, v4, one, other, places, b, rfl, gh, r1, r2, r3, r4, ⟨s, tw, hs, hs60, rfl, hrp⟩, q⟩ := h
    refine ⟨_, (pss_one (ps_ret (pe_lc (own := [("rest", 4)]) (g := (gName 4)) (tt := tYes) rfl sc_behind_tail.nd (pi_range1 (by rfl) T.b_range (pa_cons (fldK K (pv 0)) pa_nil)) (blkOk_by (N := N_behind_tail) (sc := defScope s_behind_tail) (by decide +kernel)) (fun _ _ _ _ _ => (pg_name (i := 4) sc_behind_tail.nd rfl (Or.inl rfl))) (fun _ _ _ _ _ => pts_nil) (fun _ _ _ _ _ => (pe_c c_next_tail (hr.mono (by decide)) (pa_cons (pv 0) (pa_cons (pv 1) (pa_cons (pv 2) (pa_cons (pv 4) (pa_cons (pv 3) pa_nil)))))))))), ?_⟩
    have p9 := tw.g1.p9
    refine s_ret (K := K) gh (ev_lcR (n := one.p) (fun _ => true) (fun r => tailT one other b (one.p * sz (tailT one other b s) + r)) (ev_nI (ev_parts T (ev_var r1))) rfl (by omega) (fun _ => rfl) (fun j G1 sg hj => et_yes)
      (fun j G1 sg hj _ => ev_5 (ev_var (Rep.mono sg r1)) (ev_var (Rep.mono sg r2)) (ev_var (Rep.mono sg r3)) (ev_var (x := j) rfl) (ev_var (Rep.mono sg r4)) ⟨s, tw, hs, hs60, rfl, hj⟩)) fun w G7 H7 s7 r7 => q w G7 H7 s7 ?_
    rw [fm_yes] at r7
    exact r7
theorem c_same_far (h : Has K mg "same_far" d_same_far) (T : Tx K mg base) (c_crushers_of : Cal P w K mg base "crushers_of" 1 ["works"] (spCrushers K)) (c_far_pair : Cal P w K mg base "far_pair" 2 ["works", "places", "first", "row", "number"] (spPair K)) :
    Cal P w K mg base "same_far" 3 ["one", "other", "places", "number"] (spSame K) := by
  refine h.cal sc_same_far (fun _ _ _ _ _ _ us hl => match us, hl with | [_, _, _, _], _ => rfl) (fun vs H Q E h => ?_) (fun f cdv A outer s0 H vs Q E hr h => ?_)
  · obtain ⟨_, _, _, _, _, _, _, _, _, rfl, _⟩ := h
    rfl
  · obtain ⟨G, v1, v2, v3, v4, one, other, places, b, rfl, gh, r1, r2, r3, r4, ⟨s, tw, hs, hs60, rfl, hrp⟩, q⟩ := h
    refine ⟨_, (pss_cons (ps_set (i := 4) sc_same_far.nd rfl (.inl rfl) (pe_op op_mul pe_int (pe_callB (lenK K) (by rfl) T.b_len PySem.boot_len (pa_cons (pe_c c_crushers_of (hr.mono (by decide)) (pa_cons (pv 0) pa_nil)) pa_nil))))
      (pss_one (ps_ret (pe_cmpR op_eq (pe_ix (ixT K) (pe_c c_far_pair (hr.mono (by decide)) (pa_cons (pv 0) (pa_cons (pv 2) (pa_cons pe_int (pa_cons pe_int (pa_cons (pv 3) pa_nil)))))) pe_int (fun _ _ => rfl)) (pe_ix (ixT K) (pe_c c_far_pair (hr.mono (by decide)) (pa_cons (pv 1) (pa_cons (pv 2) (pa_cons (pv 4) (pa_cons pe_int (pa_cons (pv 3) pa_nil)))))) pe_int (fun _ _ => rfl)) (nomark _))))), ?_⟩
    have cc := tw.cc
    refine q_set (K := K) gh (ev_mulN (ev_n (n := 2)) (ev_len (ev_1 (ev_var r1) tw.g1)) (cmul_of (by omega))) fun v5 G2 H2 s2 r5 => ?_
    have g1 : 0 < one.rows.length := tw.g1.n1
    have g2 : 0 < other.rows.length := tw.g2.n1
    exact s_ret (K := K) s2.gh (ev_eqN (ev_p0 (p := ((_, _) : Nat × Nat)) (ev_5 (ev_var (Rep.mono s2.gg r1)) (ev_var (Rep.mono s2.gg r3)) (ev_n (n := 0)) (ev_n (n := 0)) (ev_var (Rep.mono s2.gg r4)) ⟨one, other, s, tw, hs, by omega, rfl, g1, .inl ⟨rfl, rfl⟩⟩))
      (ev_p0 (p := ((_, _) : Nat × Nat)) (ev_5 (ev_var (Rep.mono s2.gg r2)) (ev_var (Rep.mono s2.gg r3)) (ev_var r5) (ev_n (n := 0)) (ev_var (Rep.mono s2.gg r4)) ⟨one, other, s, tw, hs, by omega, rfl, g2, .inr ⟨rfl, rfl⟩⟩))) fun w G7 H7 s7 r7 => q w G7 H7 (s2.trans s7) r7
theorem c_parted_low (h : Has K mg "parted_low" d_parted_low) (T : Tx K mg base) (c_height_of : Cal P w K mg base "height_of" 2 ["one", "other"] (spHeight K)) (c_weights_upto : Cal P w K mg base "weights_upto" 4 ["works", "number", "most"] (spUpto K)) :
    Cal P w K mg base "parted_low" 5 ["one", "other", "number"] (spFew K) := by
  refine h.cal sc_parted_low (fun _ _ _ _ _ _ us hl => match us, hl with | [_, _, _], _ => rfl) (fun vs H Q E h => ?_) (fun f cdv A outer s0 H vs Q E hr h => ?_)
  · obtain ⟨_, _, _, _, _, _, _, rfl, _⟩ := h
    rfl
  · obtain ⟨G, v1, v2, v3, one, other, b, rfl, gh, r1, r2, r3, ⟨g1, g2⟩, q⟩ := h
    refine ⟨_, (pss_cons (ps_set (i := 3) sc_parted_low.nd rfl (.inl rfl) (pe_c c_height_of (hr.mono (by decide)) (pa_cons (pv 0) (pa_cons (pv 1) pa_nil))))
      (pss_cons (ps_set (i := 4) sc_parted_low.nd rfl (.inl rfl) (pe_c c_weights_upto (hr.mono (by decide)) (pa_cons (pv 0) (pa_cons (pv 2) (pa_cons (pv 3) pa_nil)))))
      (pss_cons (ps_set (i := 5) sc_parted_low.nd rfl (.inl rfl) (pe_c c_weights_upto (hr.mono (by decide)) (pa_cons (pv 1) (pa_cons (pv 2) (pa_cons (pv 3) pa_nil)))))
      (pss_cons (ps_for PassesOwn.never rfl (pi_range2 (by rfl) T.b_range (pa_cons pe_int (pa_cons (pe_op op_add (pv 3) pe_int) pa_nil))) (pg_name (i := 6) sc_parted_low.nd rfl (.inl rfl)) (pss_one (ps_if (pt_cmpR op_ne (pe_ix (ixL K) (pe_ix (ixL K) (pv 4) (pv 6) (fun _ _ => rfl)) pe_int (fun _ _ => rfl)) (pe_ix (ixL K) (pe_ix (ixL K) (pv 5) (pv 6) (fun _ _ => rfl)) pe_int (fun _ _ => rfl)) (nomark _)) (pss_one (ps_ret (pv 6))) pss_nil)))
      (pss_one (ps_ret pe_non)))))), ?_⟩
    have hh := height_le g1 g2
    dsimp only at q
    refine q_set (K := K) gh (ev_2 (ev_var r1) (ev_var r2) ⟨g1, g2⟩) fun v4 G2 H2 s2 r4 => ?_
    obtain rfl : v4 = .int (height one other : Int) := r4
    generalize height one other = m at hh q
    refine q_set (K := K) s2.gh (ev_3 (ev_var (Rep.mono s2.gg r1)) (ev_var (Rep.mono s2.gg r3)) (ev_var (x := m) rfl) ⟨g1, by omega⟩) fun v5 G3 H3 s3 r5 => ?_
    have t3 := s2.trans s3
    refine q_set (K := K) s3.gh (ev_3 (ev_var (Rep.mono t3.gg r2)) (ev_var (Rep.mono t3.gg r3)) (ev_var (x := m) rfl) ⟨g2, by omega⟩) fun v6 G4 H4 s4 r6 => ?_
    have t4 := t3.trans s4
    have n1 : 0 < one.rows.length := g1.n1
    have n2 : 0 < other.rows.length := g2.n1
    refine q_forR2 (K := K) (a := 1) (n := m) s4.gh (ev_i (i := 1)) (ev_add (ev_nI (ev_var (x := m) rfl)) (ev_i (i := 1))) rfl (by omega) (by omega) (by omega) fun G5 H5 s5 => ⟨fun i σ' H' => ∃ a c G', σ' = [some v1, some v2, some v3, some (.int (m : Int)), some v5, some v6, a] ∧ Stp K G5 H5 G' H' ∧ (List.range' 1 m).find? (fun s => decide (W one b 0 s ≠ W other b 0 s)) = (List.range' (1 + i) (m - i)).find? fun s => decide (W one b 0 s ≠ W other b 0 s),
      ⟨none, 0, G5, rfl, Stp.refl s5.gh, rfl⟩, ?_, ?_⟩
    · rintro i σ' H' hi ⟨a, c, G', rfl, st, e⟩
      have t5 := (s4.trans s5).trans st
      have hr : List.range' (1 + i) (m - i) = (1 + i) :: List.range' (1 + (i + 1)) (m - (i + 1)) := by
        rw [show m - i = (m - (i + 1)) + 1 by omega, List.range'_succ] <;> rfl
      rw [hr] at e
      refine s_when (K := K) st.gh (et_t (ev_neN (ev_ixN (ev_ixN (ev_var (Rep.mono t5.gg r5)) (ev_nI (ev_var (x := 1 + i) rfl)) rfl (wtab_at (by omega))) (ev_i (i := 0)) rfl (wrow_at n1)) (ev_ixN (ev_ixN (ev_var (Rep.mono (s5.gg.trans st.gg) r6)) (ev_nI (ev_var (x := 1 + i) rfl)) rfl (wtab_at (by omega))) (ev_i (i := 0)) rfl (wrow_at n2)))) (fun e6 G6 H6 s6 => ?_) (fun e6 G6 H6 s6 => ?_)
      · have e6 : W one b 0 (1 + i) ≠ W other b 0 (1 + i) := by simpa using e6
        rw [List.find?_cons_of_pos (by simpa using e6)] at e
        refine s_ret (K := K) s6.gh (ev_some (ev_var (x := 1 + i) rfl)) fun w G7 H7 s7 r7 => q w G7 H7 ((((t4.trans s5).trans st).trans s6).trans s7) ?_
        rw [e]
        exact r7
      · have e6 : W one b 0 (1 + i) = W other b 0 (1 + i) := by simpa using e6
        rw [List.find?_cons_of_neg (by simpa using e6)] at e
        exact ⟨_, c, G6, rfl, st.trans s6, e⟩
    · rintro σ' H' ⟨a, c, G', rfl, st, e⟩
      rw [Nat.sub_self] at e
      refine s_ret (K := K) st.gh (ev_non (α := Nat)) fun w G7 H7 s7 r7 => q w G7 H7 (((t4.trans s5).trans st).trans s7) ?_
      rw [e]
      exact r7
end
end Mw
/-! Rules of my own: enumerate over a tuple. -/
namespace Mw
open PySem PySem.Spec PyProof.Rows L2
theorem enT_new (b : Addr) (vals : Array Value) (m : Nat) (dc : Option Addr) (so : Array (Option Value)) :
    Meets (Builtin.«enumerate.__new__» ⟨[.type "enumerate", .ref b], []⟩) (fun _ R s => s.heap.get? b = some { cls := .type "tuple", dict := dc, data := .seq vals m, slots := so } ∧
      R (.ok (.ret (.ref (s.heap.push { cls := .type "tuple_iterator", data := .fields #[.ref b, .int 0 0] }).objs.size)))
        { s with heap := (s.heap.push { cls := .type "tuple_iterator", data := .fields #[.ref b, .int 0 0] }).push { cls := .type "enumerate", data := .fields #[.none, .bool false, .ref s.heap.objs.size, rawInt 0, .none, .none] } }) :=
  Meets.of_wp fun P W Ar R sh hh => by
    obtain ⟨hp, gl, dp, tk, os⟩ := sh
    obtain ⟨hb, goal⟩ := hh
    have below := sub_enumerate
    have isT : Heap.IsTuple (Shared.heap ⟨hp, gl, dp, tk, os⟩) b vals := ⟨_, hb, rfl, m, rfl⟩
    wp_walk using AutoSeq1.wpAny_loadPart' hb
    refine wpAny_stack_any fun stk => wpAny_pure ?_
    split
    · rename_i c' _ _ _ _ _
      cases (c' == Value.type "enumerate")
      · wp_walk using AutoSeq1.wpAny_loadPart' hb, wpAny_pyIter_tuple isT
        exact ⟨_, rfl, goal⟩
      · wp_walk using AutoSeq1.wpAny_loadPart' hb, wpAny_pyIter_tuple isT
        exact ⟨_, rfl, goal⟩
    · wp_walk using AutoSeq1.wpAny_loadPart' hb, wpAny_pyIter_tuple isT
      exact ⟨_, rfl, goal⟩
section
variable {prog : Program} {w : World} {A : Around} {E : Value → Shared → Prop} {s : Shared}
theorem enT_call {b : Addr} {vals : Array Value} {Q : Value → Shared → Prop} (isT : s.heap.IsTuple b vals)
    (k : ∀ h', IsEnum h' (s.heap.objs.size + 1) s.heap.objs.size 0 .none → h'.IsTupleIter s.heap.objs.size b 0 → (∀ a o, s.heap.get? a = some o → h'.get? a = some o) → Q (.ref (s.heap.objs.size + 1)) { s with heap := h' }) :
    wpAny (model prog w) A (call (.type "enumerate") [.ref b]) Q E s := by
  obtain ⟨⟨cl, dc, da, so⟩, e1, e2, m, e3⟩ := isT
  obtain rfl : cl = .type "tuple" := e2
  obtain rfl : da = .seq vals m := e3
  refine callType_new F.called_enumerate (by decide) (F.typeCall_enumerate_1 _) (F.newCall_enumerate_1 _) (fun ob => F.args_object_init_2 ob _) F.entry_enumerate_new (enT_new b vals m dc so) ⟨e1, ?_⟩
  have sz1 : (s.heap.push { cls := .type "tuple_iterator", data := .fields #[.ref b, .int 0 0] }).objs.size = s.heap.objs.size + 1 := Heap.size_push ..
  have en := Heap.get?_push_size (s.heap.push { cls := .type "tuple_iterator", data := .fields #[.ref b, .int 0 0] }) (o := { cls := .type "enumerate", data := .fields #[.none, .bool false, .ref s.heap.objs.size, rawInt 0, .none, .none] }) rfl
  show _ ∧ _
  rw [sz1] at en ⊢
  exact ⟨⟨_, en, rfl⟩, k _ en ⟨_, Heap.get?_push_of_some _ (Heap.get?_push_size _ rfl), rfl, rfl⟩ fun a o x => Heap.get?_push_of_some _ (Heap.get?_push_of_some _ x)⟩
end
/-- the tuple at a, each item in a new pair with its number -/
def IteT (K : PySem.W.Frag) (a : Addr) : It :=
  ⟨fun i H => ∃ (xs : List V) (x : V), SqT K H a xs ∧ xs[i]? = some x, fun i H v H' => ∃ T x, v = .ref T ∧ H T = none ∧ H' = upd H T (.tup [.int (i : Nat), x]) ∧ ∀ xs, SqT K H a xs → xs[i]? = some x, fun i H => ∃ xs : List V, SqT K H a xs ∧ xs.length ≤ i⟩
theorem turn_enT {P : Program} {w : World} {K : PySem.W.Frag} {elts : List Expr} {kk : Nat} {tpos : Pos} (a e it : Addr) :
    Turn P w K (.Tuple elts kk tpos) (IteT K a) [e, it] e (fun i h => (∃ old, IsEnum h e it ((i : Nat) : Int) old) ∧ h.IsTupleIter it a i ∧ e ≠ it) where
  mem := by simp
  obj := fun i h st b hb => by
    obtain ⟨⟨old, he⟩, ⟨o, ho, hc, hd⟩, _⟩ := st
    rcases (show b = e ∨ b = it by simpa using hb) with z | z
    · subst z
      exact ⟨_, he, fun v q => nomatch q⟩
    · subst z
      exact ⟨o, ho, fun v q => by
        rw [hd] at q
        cases q⟩
  keep := fun i h h' st k => let ⟨⟨old, he⟩, hi, hne⟩ := st; ⟨⟨old, k e (by simp) _ he⟩, hi.at fun o q => k it (by simp) o q, hne⟩
  item := by
    intro X hP hw hK hc i pins s σ H E I hf st hg
    subst hP hw hK
    obtain ⟨⟨old, he⟩, hit, hne⟩ := st
    obtain ⟨xs, x, hq, hx⟩ := hg
    obtain ⟨its, rv, p, hz⟩ := I.tuple hq
    obtain ⟨u, hu, ru⟩ := rv.get hx
    have isT : s.heap.IsTuple a its.toArray := p
    have hel : e < s.heap.objs.size := Heap.lt_size he
    have hil : it < s.heap.objs.size := by
      obtain ⟨_, q, _⟩ := hit
      exact Heap.lt_size q
    have nta : a ≠ it := fun z => by
      obtain ⟨o1, q1, c1, _⟩ := hit
      obtain ⟨o2, q2, c2, _⟩ := isT
      rw [z, q1] at q2
      cases q2
      rw [c1] at c2
      injection c2 with c3
      exact absurd c3 (by decide)
    have nea : e ≠ a := fun z => by
      obtain ⟨o2, q2, c2, _⟩ := isT
      have he' : s.heap.get? e = some _ := he
      rw [z, q2] at he'
      cases he'
      have c3 : Value.type "enumerate" = Value.type "tuple" := c2
      injection c3 with c4
      exact absurd c4 (by decide)
    have hu' : its.toArray[i]? = some u := by simpa using hu
    have hilt : i < its.toArray.size := by
      rcases Nat.lt_or_ge i its.toArray.size with h | h
      · exact h
      · rw [Array.getElem?_eq_none h] at hu'
        cases hu'
    have D : Draws X.prog X.w X.A.in1 it [it, a] its.toArray.size (fun i v => its.toArray[i]? = some v) (fun i h => h.IsTupleIter it a i ∧ h.IsTuple a its.toArray) := Draws.tuple (show X.A.in1.handled = none from I.ok.hd hc) it a nta its.toArray
    refine wpAny_pyNext_enum_itemD D he ⟨hit, isT⟩ hilt hne (by simp [hne, nea]) fun y h' tk hy ho st' hT hsz hk => ?_
    have hyu : y = u := by
      rw [hu'] at hy
      exact (Option.some.inj hy).symm
    subst hyu
    refine ⟨_, rfl, wpAny_letOwnedTupleGo_enum (s := { s with heap := h', toks := tk + 1 }) ho fun h'' he' sb => ?_⟩
    have hT2 : h''.get? s.heap.objs.size = some { cls := .type "tuple", data := .seq #[.int i tk, y] } := (sb.2 _ (Nat.ne_of_gt hel)).trans hT
    have new : ObjOk X.prog X.w (upd H s.heap.objs.size (.tup [.int (i : Nat), x])) h'' s.heap.objs.size (.tup [.int (i : Nat), x]) :=
      ⟨by show 2 ≤ sizeLine; decide, [.int i tk, y], .cons ⟨_, rfl⟩ (.cons ru .nil), ⟨_, hT2, rfl, _, rfl⟩⟩
    have I1 : Inv X pins σ (upd H s.heap.objs.size (.tup [.int (i : Nat), x])) { s with heap := h'', toks := tk + 1 } :=
      I.turnedNew (ch := [e, it]) (fun b ob hb q => (sb.2 b (fun z => hb (by simp [z]))).trans (hk b ob (fun z => hb (by simp [z])) (fun z => hb (by simp [z])) q)) hf (Nat.le_refl _) new
    refine ⟨.ref s.heap.objs.size, _, I1, rfl, ⟨_, x, rfl, I.hok.fresh (Nat.le_refl _), rfl, fun ys hy => by rw [I.tuple_inj hy hq]; exact hx⟩, ⟨⟨y, ?_⟩, st'.1.at fun o q => (sb.2 it (Ne.symm hne)).trans q, hne⟩, fun b hb => ?_⟩
    · have e1 : ((i + 1 : Nat) : Int) = (i : Int) + 1 := by omega
      rw [e1]
      exact he'
    · have hb' : b < s.heap.objs.size := by
        rcases (show b = e ∨ b = it by simpa using hb) with z | z
        · rw [z]
          exact hel
        · rw [z]
          exact hil
      rw [upd_ne (Nat.ne_of_lt hb')]
      exact (hf b hb).1
  done := by
    intro X hP hw hK hc i pins s σ H E I hf st hg
    subst hP hw hK
    obtain ⟨⟨old, he⟩, hit, hne⟩ := st
    obtain ⟨xs, hq, hx⟩ := hg
    obtain ⟨its, rv, p, hz⟩ := I.tuple hq
    obtain ⟨f0, f1, f2, f3, f4, f5⟩ := hf it (by simp)
    have hl := rv.length
    have isT : s.heap.IsTuple a its.toArray := p
    have out : its.toArray[i]? = none := by simp; omega
    have hT : s.TypeIs (.ref e) "enumerate" := ⟨_, he, rfl⟩
    unfold pyNext
    refine wpAny_bind (wpAny_attempt (wpAny_callSpecial?_slot (name := Str.ofString "__next__") hT F.slot_enumerate_next (wpAny_call_entry F.slot_enumerate_next hT F.entry_enumerate_next ?_ (F.args_enumerate_next_1 _))))
    show wpAny _ _ (field (.ref e) 2 >>= _) _ _ _
    refine wpAny_bind (wpAny_field he rfl (x := .ref it) rfl ?_)
    refine wpAny_bind (wpAny_nextOf_tuple_end (I.ok.hd hc) hit isT out fun h' x eb ⟨o, ho, hcl⟩ => ?_)
    exact wpAny_bind (wpAny_isInstance (T := "StopIteration") (b := true) ⟨o, ho, hcl⟩ isSubtype_stop (wpAny_pure ⟨rfl, I.turned (t' := s.toks) (fun b o hb q => eb b o hb q) f0 f1 f3 f4 f5⟩))
  self := fun A i s Q E st h => let ⟨⟨_, he⟩, _⟩ := st; wpAny_pyIter_enum he h
def iEnumT (K : PySem.W.Frag) (ta : TA) : TI := fun σ H R => ta σ H fun vs H1 => ∃ a xs, vs = [.ref a] ∧ SqT K H1 a xs ∧ R (IteT K a) H1
theorem pi_enumT {X : Cx} {e : Expr} {ta : TA} {p pos tpos : Pos} {elts : List Expr} {kk : Nat} (hg : Gl X "enumerate") (hm : X.mg "enumerate" = none) (ha : PA X [e] ta) (hs : starEach [e] X.env = [(false, eval e X.env)] := by rfl) :
    PI X (.Tuple elts kk tpos) (.Call (.Name "enumerate" p) [e] [] pos) (iEnumT X.K ta) := by
  refine ⟨fun pins s σ H R I h => ?_⟩
  refine Call_ (ld_blt I hg hm boot_enumerate (PyProof.Rows.callWith_type1 (thn (ha.run pos pins s σ H _ I h) fun us s1 ⟨vs, H1, I1, r1, q1⟩ => ?_) hs rfl))
  obtain ⟨a, xs, ex, hq, q⟩ := q1
  subst ex
  cases r1 with
  | cons r rr =>
    cases rr
    cases r
    obtain ⟨its, rv, p', hz⟩ := I1.tuple hq
    have isT : s1.heap.IsTuple a its.toArray := p'
    refine enT_call isT fun h' he hit hk => wpAny_pyIter_enum he ?_
    have I2 : Inv X pins σ H1 { s1 with heap := h' } := I1.kept (t' := s1.toks) hk
    refine ⟨s1.heap.objs.size + 1, [s1.heap.objs.size + 1, s1.heap.objs.size], _, _, H1, rfl, I2, turn_enT a (s1.heap.objs.size + 1) s1.heap.objs.size, ⟨⟨.none, he⟩, hit, Nat.succ_ne_self _⟩, fun b hb => ?_, q⟩
    have hle : s1.heap.objs.size ≤ b := by
      rcases (show b = s1.heap.objs.size + 1 ∨ b = s1.heap.objs.size by simpa using hb) with z | z
      · rw [z]
        exact Nat.le_add_right _ _
      · rw [z]
        exact Nat.le_refl _
    exact I1.fpOk hle (I1.hok.fresh hle)
theorem walk_enT {K : PySem.W.Frag} {a : Addr} {xs : List V} : Walk (IteT K a) xs.length (fun H => SqT K H a xs) (YPair (fun i => some (.int (i : Nat))) (fun i => xs[i]?)) := by
  refine ⟨fun i _ hi q => ⟨xs, xs[i], q, List.getElem?_eq_getElem hi⟩, fun _ q => ⟨xs, q, Nat.le_refl _⟩, fun i H v H' _ q y => ?_⟩
  obtain ⟨T, x, h1, h2, h3, h4⟩ := y
  exact ⟨T, _, x, h1, h2, h3, rfl, h4 xs q⟩
section
variable {K : PySem.W.Frag} {σ : L2.St} {G H : Hp} {α : Type} [Rep α] {D : Ends} {tu tz : TS}
/-- for i, z in enumerate((x, y)) -/
theorem s_forNT {tl : TE} {x y : α} {j1 j2 : Nat} (gh : Same G H) (h : Ev K tl σ G (x, y))
    (k : ∀ G1 H1, Stp K G H G1 H1 → ∃ Pv : Nat → L2.St → Hp → Prop, Pv 0 σ H1 ∧ (∀ i σ' H', Pv i σ' H' → Same G1 H') ∧
      (∀ i z v σ' H' T, i < 2 → z = (if i = 0 then x else y) → rp K G1 v z → Pv i σ' H' → H' T = none → tu { D with nx := Pv (i + 1), ct := Pv (i + 1), bk := D.nx } ((σ'.set j1 (some (.int (i : Int)))).set j2 (some v)) (upd H' T (.tup [.int (i : Int), v]))) ∧ (∀ σ' H', Pv 2 σ' H' → D.nx σ' H')) :
    tFor (iEnumT K (tCons tl tNil)) (gTup K 2 (gCons (gName j1) (gCons (gName j2) gNil))) tu D σ H := by
  refine h G H (Same.refl G) gh _ fun vl G1 H1 s r => ?_
  obtain ⟨Pv, h0, hs, ht, hd⟩ := k G1 H1 s
  obtain ⟨a, v1, v2, e1, e2, e3, e4⟩ := r
  refine ⟨a, [v1, v2], by rw [e1], SqT.of (s.gh _ _ e2), for_it walk_enT Pv h0 (fun i σ' H' _ p => SqT.of (hs i σ' H' p _ _ e2)) (fun i v σ' H' H2' hi p y => ?_) hd⟩
  obtain ⟨T, x1, x2, rfl, nT, rfl, y1, y2⟩ := y
  have y1 : V.int (i : Int) = x1 := Option.some.inj y1
  subst y1
  refine ⟨T, [.int (i : Int), x2], rfl, SqT.of upd_same, rfl, _, _, rfl, _, _, rfl, rfl, ?_⟩
  match i, y2 with
  | 0, y2 =>
    have y2 : v1 = x2 := by simpa using y2
    exact ht 0 x x2 σ' H' T (by decide) rfl (y2 ▸ e3) p nT
  | 1, y2 =>
    have y2 : v2 = x2 := by simpa using y2
    exact ht 1 y x2 σ' H' T (by decide) rfl (y2 ▸ e4) p nT
  | i + 2, y2 => simp at y2
theorem q_forNT {tl : TE} {x y : α} {j1 j2 : Nat} (gh : Same G H) (h : Ev K tl σ G (x, y))
    (k : ∀ G1 H1, Stp K G H G1 H1 → ∃ Pv : Nat → L2.St → Hp → Prop, Pv 0 σ H1 ∧ (∀ i σ' H', Pv i σ' H' → Same G1 H') ∧
      (∀ i z v σ' H' T, i < 2 → z = (if i = 0 then x else y) → rp K G1 v z → Pv i σ' H' → H' T = none → tu { D with nx := Pv (i + 1), ct := Pv (i + 1), bk := tz D } ((σ'.set j1 (some (.int (i : Int)))).set j2 (some v)) (upd H' T (.tup [.int (i : Int), v]))) ∧ (∀ σ' H', Pv 2 σ' H' → tz D σ' H')) :
    tSeq (tFor (iEnumT K (tCons tl tNil)) (gTup K 2 (gCons (gName j1) (gCons (gName j2) gNil))) tu) tz D σ H := s_forNT (D := { D with nx := tz D }) gh h k
end
end Mw
/-! Rules of my own: sorted(xs, key=lambda row: row[-2]). -/
namespace Mw
open PySem PySem.Spec PyProof.Rows L2 PySem.W
/-- the lambda's names: its one parameter, y -/
structure LamP (scope : Scope) (y : Str) : Prop where
  kind : scope.kind = .function
  co : scope.isCoroutine = false
  gen : scope.isGenerator = false
  own : ∀ z ∈ scope.names, z.2 ≠ .cell ∧ z.2 ≠ .free
  par : scope.names.lookup y = some .local
section
variable {prog : Program} {w : World} {A : Around} {s : Shared}
/-- the call of the lambda y: y[-2] -/
theorem lamp_run {f l c' : Addr} {qual y : Str} {params : Arguments} {scope : Scope} {pm ctv : Value} {cl : List (Str × Addr)} {its : List Value} {n : Int} {t : Tok} {i1 : Nat} {p1 p2 p3 p4 : Pos}
    (L : LamP scope y) (hy : (y == ("__debug__" : Str)) = false) (hd : A.depth < recursionLimit) (lim : s.heap.NoLimit)
    (hf : s.heap.get? f = some (kla_obj "<lambda>" qual params (.Subscript (.Name y p1) (.UnaryOp .USub (.Constant (.int 2) i1 p2) p3) p4) scope cl pm c' ctv))
    (hcode : ∃ (oc : Obj) (vs : Array Value) (t : Tok), s.heap.get? c' = some oc ∧ oc.data = .fields vs ∧ vs[1]? = some (.str qual t))
    (hbind : ∀ u, bindArgs (kla_fn "<lambda>" qual params (.Subscript (.Name y p1) (.UnaryOp .USub (.Constant (.int 2) i1 p2) p3) p4) scope cl pm (.ref c') ctv) ⟨[u], []⟩ = pure [(y, u)])
    (hl : s.heap.IsList l its.toArray) (h2 : 2 ≤ its.length) (hx : its[its.length - 2]? = some (.int n t)) :
    wpAny (model prog w) A (call (.ref f) [.ref l]) (KeyPure (.int n) s) (fun _ _ => False) s := by
  obtain ⟨oc, vs, tq, hoc, hdc, hvc⟩ := hcode
  refine wpAny_call (kla_callFunE hd hf rfl L.co L.gen rfl ⟨c', oc, vs, tq, rfl, hoc, hdc, hvc⟩ ?_)
  rw [hbind]
  refine wpAny_pure (wpAny_newFunctionEnv (fun z hz => (L.own z hz).1) (fun z hz => by
    rw [List.mem_singleton.mp hz]
    exact L.par) (fun h' hns hsb => ?_) L.kind)
  have kp : ∀ b o, s.heap.get? b = some o → h'.get? b = some o := fun b o e => hsb.extBut b o (Nat.ne_of_lt (Heap.lt_size e)) (Heap.get?_push_of_some _ e)
  refine ⟨lim.fresh _ hsb, kla_codeExpr (Subscript_ (wpAny_Name (wpAny_loadName_local (v := .ref l) L.kind L.par hns ?_ (UnaryOp_ (wpAny_Constant_int (neg_int ?_)))) hy))⟩
  · show ([(y, Value.ref l)].reverse.lookup y) = _
    simp
  · have hl' : h'.IsList l its.toArray := by
      obtain ⟨o, ho, r⟩ := hl
      exact ⟨o, kp _ _ ho, r⟩
    have hsz : its.toArray.size = its.length := List.size_toArray
    refine subscriptTail_builtinR (x := .int n t) hl'.typeIs slot_list_getitem.lookup (wpAny_getItem_list_neg hl' (by decide) (by rw [hsz]; omega) (by decide) ?_ ⟨rfl, ?_⟩)
    · have e : ((-2 : Int) + ((its.toArray.size : Nat) : Int)).toNat = its.length - 2 := by
        rw [hsz]
        omega
      rw [e]
      simpa using hx
    · exact ⟨h', _, rfl, kp, .int n t⟩
end
/-- a table of code objects grows; all else stays -/
structure Grow (H H' : Hp) (P : Addr) (q : Str) : Prop where
  st : ∀ b o, H b = some o → b ≠ P → H' b = some o
  fr : ∀ b, H' b = none → H b = none
  tb : LamX.TabS H' P q
  was : ∃ ps, H P = some (.tbl ps)
theorem Grow.ext {H H' : Hp} {P : Addr} {q : Str} (g : Grow H H' P q) : LamX.ExtN H H' := fun b o e nt => g.st b o e fun z => by
  obtain ⟨ps, e2⟩ := g.was
  rw [z, e2] at e
  exact nt ps (Option.some.inj e).symm
section
variable {X : Cx} {pins : List (Addr × Obj)} {σ : L2.St} {H : Hp} {s : Shared}
theorem lam3 {c P : Addr} {params : Arguments} {body : Expr} {scope : Scope} {pos : Pos} {E : Value → Shared → Prop} {Q : Value → Shared → Prop} (I : Inv X pins σ H s) (TB : LamX.TabB X.base X.mg c P) (hcode : X.env.code = .ref c)
    (hT : LamX.TabS H P (X.env.qual ++ "<lambda>")) (hdef : defaultsOf params X.env = ([], [])) (hfree : ∀ y ∈ scope.names, y.2 ≠ .free)
    (k : ∀ (f c' : Addr) (pm ctv : Value) (H1 : Hp) (s' : Shared), Inv X pins σ H1 s' → Grow H H1 P (X.env.qual ++ "<lambda>") →
      s'.heap.get? f = some (kla_obj "<lambda>" (X.env.qual ++ "<lambda>") params body scope (cloFrom X.env.cells scope.names []) pm c' ctv) → H1 c' = some (LamX.CodeO c' (X.env.qual ++ "<lambda>")) → Q (.ref f) s') :
    wpAny (model X.prog X.w) X.A (eval (.Lambda params body scope pos) X.env) Q E s := by
  obtain ⟨ps, hP, tri, say⟩ := hT
  have clo := closure_ok (scope := scope) (env := X.env) fun y hy e => absurd e (hfree y hy)
  have bP := TB.bm.keeps I.bk
  have cP := TB.code.keeps I.bk
  have gP := I.mod.glob.keeps I.bk
  have oP : s.heap.get? P = some { cls := .none, data := .fields ps } := I.hok P _ hP
  refine kla_eval hdef ?_
  cases found : codeAmong pos ps.toList with
  | some cv =>
    obtain ⟨c', rfl, known⟩ := say pos cv found
    refine kla_makeFunctionHit clo I.ok.glob gP hcode cP oP tri found bP fun ctv h' tk keep _ => ?_
    refine k h'.objs.size c' _ ctv H _ (I.kept fun b o e => Heap.get?_push_of_some _ (keep b o e)) ⟨fun _ _ e _ => e, fun _ z => z, ⟨ps, hP, tri, say⟩, ps, hP⟩ (Heap.get?_push_size _ rfl) known
  | none =>
    refine kla_makeFunction clo I.ok.glob gP hcode cP oP tri found TB.gP bP fun c' ctv h' tk keep ge lt rec tab => ?_
    obtain ⟨c2, oc, vs, t, e2, a1, a2, a3⟩ := rec
    cases e2
    have free : H c' = none := I.hok.fresh ge
    have hPc : P ≠ c' := ne_of_none hP free
    have J := LamX.inv_table (t' := tk) (q := X.env.qual ++ "<lambda>") (more := #[rawInt pos.line, rawInt pos.col, .ref c'])
      (h' := h'.push (kla_obj "<lambda>" (X.env.qual ++ "<lambda>") params body scope (cloFrom X.env.cells scope.names []) ((X.mg "__name__").getD .none) c' ctv)) I hP
      (fun b o nb e => Heap.get?_push_of_some _ (keep b o nb e)) (Heap.get?_push_of_some _ tab) ge ⟨oc, vs, t, Heap.get?_push_of_some _ a1, a2, a3⟩
    have ext : ∀ b o, H b = some o → b ≠ P → (upd (upd H P (.tbl (ps ++ #[rawInt pos.line, rawInt pos.col, .ref c']))) c' (LamX.CodeO c' (X.env.qual ++ "<lambda>"))) b = some o := fun b o e nb => by
      rw [upd_ne (ne_of_none e free), upd_ne nb]
      exact e
    refine k h'.objs.size c' _ ctv _ _ J ⟨ext, fun b z => ?_, ?_, ps, hP⟩ (Heap.get?_push_size _ rfl) upd_same
    · by_cases nb : b = c'
      · rw [nb]
        exact free
      · rw [upd_ne nb] at z
        by_cases nP : b = P
        · rw [nP, upd_same] at z
          cases z
        · rw [upd_ne nP] at z
          exact z
    · have app : (ps ++ #[rawInt pos.line, rawInt pos.col, .ref c']).toList = ps.toList ++ [rawInt pos.line, rawInt pos.col, .ref c'] := by simp
      refine ⟨_, by rw [upd_ne hPc, upd_same], by rw [app]; exact PySem.TriplesOk_snoc _ _ _ _ tri, fun p' cv hcv => ?_⟩
      rw [app] at hcv
      rcases LamX.among_app _ tri hcv with z | z
      · obtain ⟨c0, b1, b2⟩ := say p' cv z
        exact ⟨c0, b1, ext _ _ b2 fun z => by
          rw [z, hP] at b2
          exact LamX.codeO_ne ps (Option.some.inj b2).symm⟩
      · exact ⟨c', z, upd_same⟩
end
end Mw
namespace Mw
open PySem PySem.Spec PyProof.Rows L2 PySem.W
theorem each_all {α : Type} {R : Value → α → Prop} {S : V → α → Prop} (h : ∀ u x, R u x → ∃ v, S v x ∧ RelV v u) : ∀ {us : List Value} {xs : List α}, EachIs R us xs → ∃ vs, Vals vs us ∧ All2 S vs xs
  | _, _, .nil => ⟨[], .nil, .nil⟩
  | _, _, .cons r t => by
    obtain ⟨v, h1, h2⟩ := h _ _ r
    obtain ⟨vs, h3, h4⟩ := each_all h t
    exact ⟨v :: vs, .cons h2 h3, .cons h1 h4⟩
theorem all_each {α : Type} {R : Value → α → Prop} {S : V → α → Prop} (h : ∀ v u x, S v x → RelV v u → R u x) : ∀ {vs : List V} {us : List Value} {xs : List α}, All2 S vs xs → Vals vs us → EachIs R us xs
  | _, _, _, .nil, .nil => .nil
  | _, _, _, .cons r t, .cons r2 t2 => .cons (h _ _ _ r r2) (all_each h t t2)
/-- the list at v, its last but one an int n -/
def KeyV (H : Hp) (v : V) (n : Int) : Prop := ∃ a xs, v = .ref a ∧ H a = some (.lst xs) ∧ 2 ≤ xs.length ∧ xs[xs.length - 2]? = some (.int n)
def tSortK (P : Addr) (q : Str) (ta : TA) : TE := fun σ H Q => ta σ H fun ws H1 => ∃ (a : Addr) (vs : List V) (ns : List Int), ws = [.ref a] ∧ H1 a = some (.lst vs) ∧ All2 (KeyV H1) vs ns ∧ LamX.TabS H1 P q ∧
  ∀ H2, Grow H1 H2 P q → ∀ (p : Addr) (out : List (V × Int)), out.Perm (vs.zip ns) → out.Pairwise (fun x y => x.2 ≤ y.2) → H2 p = none → Q (.ref p) (upd H2 p (.lst (out.map (·.1))))
theorem pe_sortKey {X : Cx} {c P : Addr} {k i1 : Nat} {e : Expr} {ta : TA} {params : Arguments} {y : Str} {scope : Scope} {p lpos kpos pos p1 p2 p3 p4 : Pos} (hcode : X.env.code = .ref c) (TB : LamX.TabB X.base X.mg c P) (hr : Room k X.A) (hg : Gl X "sorted") (hm : X.mg "sorted" = none) (he : PA X [e] ta)
    (L : LamP scope y := by exact ⟨rfl, rfl, rfl, by decide +kernel, rfl⟩) (hy : (y == ("__debug__" : Str)) = false := by decide) (hdef : defaultsOf params X.env = ([], []) := by rfl)
    (hbind : ∀ (cl : List (Str × Addr)) (pm cv ctv u : Value) (q : Str), bindArgs (kla_fn "<lambda>" q params (.Subscript (.Name y p1) (.UnaryOp .USub (.Constant (.int 2) i1 p2) p3) p4) scope cl pm cv ctv) ⟨[u], []⟩ = pure [(y, u)] := by intros; rfl)
    (hb1 : backTo pos (starEach [e] X.env) = (false, eval e X.env) :: backTo pos (starEach [] X.env) := by rfl) (hb2 : (backTo pos (starEach [e] X.env)).any (·.1) = false := by rfl) :
    PE X (.Call (.Name "sorted" p) [e] [⟨some "key", .Lambda params (.Subscript (.Name y p1) (.UnaryOp .USub (.Constant (.int 2) i1 p2) p3) p4) scope lpos, kpos⟩] pos) (tSortK P (X.env.qual ++ "<lambda>") ta) := by
  refine ⟨fun pins s σ H Q I h => ?_⟩
  refine wpAny_Call_Name_kw (ld_blt I hg hm boot_sorted ?_ (by decide) (by decide))
  refine PyProof.Rows.callWith_kw (kws := [⟨some "key", .Lambda params (.Subscript (.Name y p1) (.UnaryOp .USub (.Constant (.int 2) i1 p2) p3) p4) scope lpos, kpos⟩]) (thn (he.run pos pins s σ H _ I h) fun us s1 ⟨ws, H1, I1, r1, q1⟩ => ?_) hb1 hb2 rfl rfl
  · obtain ⟨a, vs, ns, rfl, ha, keyed, hT, q⟩ := q1
    obtain rfl := Vals.ref1 r1
    show wpAny _ _ (evalAll [do let v ← eval _ X.env; standAt pos; pure v]) _ _ s1
    refine wpAny_evalAll_cons (wpAny_bind (lam3 I1 TB hcode hT hdef (fun z hz => (L.own z hz).2) fun f c' pm ctv H2 s2 I2 G hf hc' => wpAny_bind (wpAny_standAt (wpAny_pure ?_))))
    refine wpAny_evalAll_nil ?_
    show wpAny _ _ (call (.builtin "sorted") [.ref a] [(Str.ofString "key", .ref f)]) _ _ s2
    have ha2 : H2 a = some (.lst vs) := G.ext _ _ ha (fun _ z => by cases z)
    obtain ⟨its, nI, rv, hits, hz⟩ := I2.lst ha2
    have each : EachIs (fun (u : Value) (x : V × Int) => RelV x.1 u ∧ ∃ (r : Addr) (rs : List Value) (t : Tok), u = .ref r ∧ s2.heap.IsList r rs.toArray ∧ 2 ≤ rs.length ∧ rs[rs.length - 2]? = some (.int x.2 t)) its (vs.zip ns) := by
      have step : ∀ {vs : List V} {us : List Value} {ns : List Int}, All2 (KeyV H1) vs ns → Vals vs us → EachIs (fun (u : Value) (x : V × Int) => RelV x.1 u ∧ ∃ (r : Addr) (rs : List Value) (t : Tok), u = .ref r ∧ s2.heap.IsList r rs.toArray ∧ 2 ≤ rs.length ∧ rs[rs.length - 2]? = some (.int x.2 t)) us (vs.zip ns) := by
        intro vs us ns k1 k2
        induction k1 generalizing us with
        | nil =>
          cases k2
          exact .nil
        | cons r t ih =>
          cases k2 with
          | cons r2 t2 =>
            refine .cons ⟨r2, ?_⟩ (ih t2)
            obtain ⟨b, xs, rfl, hb, h2, hx⟩ := r
            obtain ⟨rs, m, rr, hrs, _⟩ := I2.lst (G.ext _ _ hb (fun _ z => by cases z))
            obtain ⟨u, hu, ru⟩ := rr.get hx
            obtain ⟨t', rfl⟩ := ru
            have el := rr.length
            refine ⟨b, rs, t', r2, ⟨_, hrs, rfl, m, rfl⟩, by omega, ?_⟩
            rw [← el]
            exact hu
      exact step keyed rv
    obtain ⟨⟨oc, cvs, ct, e1, e2, e3⟩, _, _⟩ := I2.hok c' _ hc'
    have hlen : (vs.zip ns).length ≤ sizeLine := by
      rw [← each.length, ← rv.length]
      exact hz
    refine sorted_key_data (R := fun (u : Value) (x : V × Int) => RelV x.1 u ∧ ∃ (r : Addr) (rs : List Value) (t : Tok), u = .ref r ∧ s2.heap.IsList r rs.toArray ∧ 2 ≤ rs.length ∧ rs[rs.length - 2]? = some (.int x.2 t)) (b := false) (fun x : V × Int => PyData.int x.2) ⟨_, hits, rfl, nI, rfl⟩ each
      ?_ ?_ hlen (fun x _ => ?_) (ksk_s1 _ _) (fun _ => ksk_l1 _ _) (fun x => ksk_t1 f x) (fun u x hR _ g tk kp => ?_) (fun out cc h' tk kp fr new hol ord => ?_)
    · intro d hd d' hd'
      obtain ⟨x, _, rfl⟩ := List.mem_map.mp hd
      obtain ⟨x', _, rfl⟩ := List.mem_map.mp hd'
      rfl
    · refine .inr fun d hd => ?_
      obtain ⟨x, _, rfl⟩ := List.mem_map.mp hd
      exact ⟨(fun z => by cases z), (fun xs z => by cases z)⟩
    · have := hr.un
      show X.A.units + 2 + 0 < cLine
      omega
    · obtain ⟨_, r, rs, t, rfl, hl, h2, hx⟩ := hR
      have lim : s2.heap.NoLimit := I2.ok.mod.nolimit.keeps I2.bk
      refine lamp_run (s := { s2 with heap := g, toks := tk }) L hy ?_ (lim.keeps kp) (kp _ _ hf) ⟨oc, cvs, ct, kp _ _ e1, e2, e3⟩ (fun u => hbind _ _ _ _ u _) ?_ h2 hx
      · have := hr.dp
        show X.A.depth < _
        omega
      · obtain ⟨o, ho, r⟩ := hl
        exact ⟨o, kp _ _ ho, r⟩
    · rw [dataLe_int (fun x : V × Int => x.2)] at ord
      have pm2 := List.mergeSort_perm (vs.zip ns) (fun x y : V × Int => decide (x.2 ≤ y.2))
      have srt : ((vs.zip ns).mergeSort (fun x y : V × Int => decide (x.2 ≤ y.2))).Pairwise (fun x y => x.2 ≤ y.2) := by
        refine (List.pairwise_mergeSort (le := fun x y : V × Int => decide (x.2 ≤ y.2)) (fun x y z h1 h2 => ?_) (fun x y => ?_) (vs.zip ns)).imp fun h => of_decide_eq_true h
        · have h1 := of_decide_eq_true h1
          have h2 := of_decide_eq_true h2
          exact decide_eq_true (by omega)
        · rcases Int.le_total x.2 y.2 with h | h
          · rw [decide_eq_true h] <;> rfl
          · rw [decide_eq_true h, Bool.or_true]
      generalize (vs.zip ns).mergeSort (fun x y : V × Int => decide (x.2 ≤ y.2)) = res at ord pm2 srt
      have vals : Vals (res.map (·.1)) out := by
        clear srt pm2 hol new
        induction ord with
        | nil => exact .nil
        | cons r t ih => exact .cons r.1 ih
      have nf : H2 (s2.heap.objs.size + 1) = none := I2.hok.fresh (Nat.le_succ _)
      refine ⟨.ref (s2.heap.objs.size + 1), upd H2 (s2.heap.objs.size + 1) (.lst (res.map (·.1))), I2.laid (t' := tk) kp (Nat.le_succ _) ⟨?_, out, cc, vals, new⟩, rfl, q H2 G _ res pm2 srt nf⟩
      rw [List.length_map, pm2.length_eq]
      exact hlen
end Mw
namespace Mw
open PySem PySem.Spec PyProof.Rows L2
/-- the result is a new list, the caller's own -/
def sp3W {α β γ δ : Type} [Rep α] [Rep β] [Rep γ] [Rep δ] (K : PySem.W.Frag) (pre : α → β → γ → Prop) (f : α → β → γ → List δ) : Sp := fun vs H Q _ => ∃ G v1 v2 v3 x y z, vs = [v1, v2, v3] ∧ Same G H ∧ rp K G v1 x ∧ rp K G v2 y ∧ rp K G v3 z ∧ pre x y z ∧
  ∀ L ws G' H', Stp K G H G' H' → H L = none → G' L = none → H' L = some (.lst ws) → All2 (rp K G') ws (f x y z) → Q (.ref L) H'
section
variable {K : PySem.W.Frag} {σ : L2.St} {G H : Hp} {ta tb tc : TE} {α β γ δ : Type} [Rep α] [Rep β] [Rep γ] [Rep δ] {x : α} {y : β} {z : γ}
theorem ew_3W {E : XK} {pre : α → β → γ → Prop} {f : α → β → γ → List δ} (h1 : Ev K ta σ G x) (h2 : Ev K tb σ G y) (h3 : Ev K tc σ G z) (hp : pre x y z) : EvW K (tCall (sp3W K pre f) [] E (tCons ta (tCons tb (tCons tc tNil)))) σ G (f x y z) := fun G1 H1 a b Q q =>
  h1 G1 H1 a b _ fun v G2 H2 s r => h2 G2 H2 (a.trans s.gg) s.gh _ fun v2 G3 H3 s2 r2 => h3 G3 H3 ((a.trans s.gg).trans s2.gg) s2.gh _ fun v3 G4 H4 s3 r3 =>
    ⟨G4, v, v2, v3, x, y, z, rfl, s3.gh, Rep.mono (s2.gg.trans s3.gg) r, Rep.mono s3.gg r2, r3, hp, fun L ws G' H' s' n g h r => q L ws G' H' (((s.trans s2).trans s3).trans s') (((s.trans s2).trans s3).free n) g h r⟩
end
abbrev spFirst (K : PySem.W.Frag) : Sp := sp3W K (fun (one other : Wd) (b : Nat) => Two one other) fun one other b => (List.range' (height one other + 1) (one.p * (height one other + 1) - (height one other + 1))).map (tailT one other b)
theorem range'_snoc (a n : Nat) : List.range' a (n + 1) = List.range' a n ++ [a + n] := by
  rw [List.range'_concat, Nat.one_mul]
theorem cw_cons_at {wd : Wd} {b s : Nat} {l : List Nat} {j c : Nat} (h : l[j]? = some c) : cw wd b s (l.take (j + 1)) = cw wd b s (l.take j) ++ [W wd b c s, W wd b c (s + 1)] := by
  rw [take_snoc h, cw_snoc]
section
variable {P : Program} {w : World} {K : PySem.W.Frag} {mg : Str → Option Value} {base : Heap}
theorem c_first_tails (h : Has K mg "first_tails" d_first_tails) (T : Tx K mg base) (c_height_of : Cal P w K mg base "height_of" 2 ["one", "other"] (spHeight K)) (c_weights_upto : Cal P w K mg base "weights_upto" 4 ["works", "number", "most"] (spUpto K)) (c_crushers_of : Cal P w K mg base "crushers_of" 1 ["works"] (spCrushers K)) :
    Cal P w K mg base "first_tails" 5 ["one", "other", "number"] (spFirst K) := by
  refine h.cal sc_first_tails (fun _ _ _ _ _ _ us hl => match us, hl with | [_, _, _], _ => rfl) (fun vs H Q E h => ?_) (fun f cdv A outer s0 H vs Q E hr h => ?_)
  · obtain ⟨_, _, _, _, _, _, _, rfl, _⟩ := h
    rfl
  · obtain ⟨G, v1, v2, v3, one, other, b, rfl, gh, r1, r2, r3, tw, q⟩ := h
    refine ⟨_, (pss_cons (ps_set (i := 3) sc_first_tails.nd rfl (.inl rfl) (pe_op op_add (pe_c c_height_of (hr.mono (by decide)) (pa_cons (pv 0) (pa_cons (pv 1) pa_nil))) pe_int))
      (pss_cons (ps_set (i := 4) sc_first_tails.nd rfl (.inl rfl) (pe_op op_mul (fldK K (pv 0)) (pv 3)))
      (pss_cons (ps_set (i := 5) sc_first_tails.nd rfl (.inl rfl) (pe_lst (pa_cons (pe_c c_weights_upto (hr.mono (by decide)) (pa_cons (pv 0) (pa_cons (pv 2) (pa_cons (pv 4) pa_nil)))) (pa_cons (pe_c c_weights_upto (hr.mono (by decide)) (pa_cons (pv 1) (pa_cons (pv 2) (pa_cons (pv 4) pa_nil)))) pa_nil))))
      (pss_cons (ps_set (i := 6) sc_first_tails.nd rfl (.inl rfl) (pe_lst pa_nil))
      (pss_cons (ps_for PassesOwn.never rfl (pi_range2 (by rfl) T.b_range (pa_cons (pv 3) (pa_cons (pv 4) pa_nil))) (pg_name (i := 7) sc_first_tails.nd rfl (.inl rfl)) (pss_cons (ps_set (i := 8) sc_first_tails.nd rfl (.inl rfl) (pe_lst pa_nil))
      (pss_cons (ps_for PassesOwn.never rfl (pi_enumT (by rfl) T.b_enumerate (pa_cons (pe_tup (pa_cons (pv 0) (pa_cons (pv 1) pa_nil))) pa_nil)) (pg_tup rfl (pgs_cons (pg_name (i := 9) sc_first_tails.nd rfl (.inl rfl)) (pgs_cons (pg_name (i := 10) sc_first_tails.nd rfl (.inl rfl)) pgs_nil))) (pss_one (ps_for PassesOwn.never rfl (pi_list (pe_c c_crushers_of (hr.mono (by decide)) (pa_cons (pv 10) pa_nil))) (pg_name (i := 11) sc_first_tails.nd rfl (.inl rfl)) (pss_one (ps_expr (pe_bm PySem.F.plainAttrs_list PySem.F.slot_list_extend PySem.F.type_list_extend mt_extend (pv 8) (pa_cons (pe_lst (pa_cons (pe_ix (ixL K) (pe_ix (ixL K) (pe_ix (ixL K) (pv 5) (pv 9) (fun _ _ => rfl)) (pv 7) (fun _ _ => rfl)) (pv 11) (fun _ _ => rfl)) (pa_cons (pe_ix (ixL K) (pe_ix (ixL K) (pe_ix (ixL K) (pv 5) (pv 9) (fun _ _ => rfl)) (pe_op op_add (pv 7) pe_int) (fun _ _ => rfl)) (pv 11) (fun _ _ => rfl)) pa_nil))) pa_nil)))))))
      (pss_one (ps_expr (pe_bm PySem.F.plainAttrs_list PySem.F.slot_list_append PySem.F.type_list_append mt_append (pv 6) (pa_cons (pe_op op_cat (pv 8) (pe_lst (pa_cons (pv 7) (pa_cons pe_int pa_nil)))) pa_nil)))))))
      (pss_one (ps_ret (pv 6)))))))), ?_⟩
    have h5 := tw.h5
    have p5 := tw.p5
    have p2 := tw.g1.p2
    have cc := tw.cc
    dsimp only at q
    refine q_set (K := K) gh (ev_addN (ev_2 (ev_var r1) (ev_var r2) ⟨tw.g1, tw.g2⟩) (ev_n (n := 1))) fun v4 G2 H2 s2 r4 => ?_
    obtain rfl : v4 = .int ((height one other + 1 : Nat) : Int) := r4
    have hl6 : height one other + 1 ≤ 6 := by omega
    generalize hle : height one other + 1 = least at q hl6
    have hm30 : one.p * least ≤ 30 := Nat.mul_le_mul p5 hl6
    have hml : least ≤ one.p * least := Nat.le_mul_of_pos_left _ (by omega)
    refine q_set (K := K) s2.gh (ev_mulN (ev_parts T (ev_var (Rep.mono s2.gg r1))) (ev_var (x := least) rfl) (cmul_of (by omega))) fun v5 G3 H3 s3 r5 => ?_
    obtain rfl : v5 = .int ((one.p * least : Nat) : Int) := r5
    generalize hmo : one.p * least = most at q hm30 hml
    have t3 := s2.trans s3
    refine q_set (K := K) s3.gh (ev_lst (el_cons (ev_3 (ev_var (Rep.mono t3.gg r1)) (ev_var (Rep.mono t3.gg r3)) (ev_var (x := most) rfl) ⟨tw.g1, by omega⟩) (el_cons (ev_3 (ev_var (Rep.mono t3.gg r2)) (ev_var (Rep.mono t3.gg r3)) (ev_var (x := most) rfl) ⟨tw.g2, by omega⟩) el_nil)) (by simp)) fun v6 G4 H4 s4 r6 => ?_
    have t4 := t3.trans s4
    refine q_new fun L nL => ?_
    have s5 : Stp K G4 H4 G4 (upd H4 L (.lst [])) := Stp.raw s4.gh nL
    have nL0 := t4.free nL
    refine q_forR2 (K := K) (a := least) (n := most - least) s5.gh (ev_nI (ev_var (x := least) rfl)) (ev_nI (ev_var (x := most) rfl)) rfl (by omega) (by omega) (by omega) fun G6 H6 s6 => ⟨fun i σ' H' => ∃ a7 a8 a9 a10 a11 G' vs, σ' = [some v1, some v2, some v3, some (.int (least : Int)), some (.int (most : Int)), some v6, some (.ref L), a7, a8, a9, a10, a11] ∧ Stp K G H G' H' ∧ Same G4 G' ∧ G' L = none ∧ H' L = some (.lst vs) ∧ All2 (rp K G') vs ((List.range' least i).map (tailT one other b)),
      ⟨none, none, none, none, none, G6, [], rfl, (t4.trans s5).trans s6, s6.gg, (s6.ownL (s4.gh.free nL) upd_same).1, (s6.ownL (s4.gh.free nL) upd_same).2, .nil⟩, ?_, ?_⟩
    · rintro i σ' H' hi ⟨a7, a8, a9, a10, a11, G', vs, rfl, st, sg, gL, hL, rv⟩
      have hlv : vs.length < 100 := by
        rw [rv.len, List.length_map, List.length_range']
        omega
      refine q_new fun M nM => ?_
      have s7 : Stp K G' H' G' (upd H' M (.lst [])) := Stp.raw st.gh nM
      have t7 := st.trans s7
      obtain ⟨gL7, hL7⟩ := s7.ownL gL hL
      have nM0 := st.free nM
      refine q_forNT (K := K) s7.gh (ev_t2 (ev_var (Rep.mono t7.gg r1)) (ev_var (Rep.mono t7.gg r2))) fun G8 H8 s8 => ⟨fun k σ' H' => ∃ a9 a10 a11 G' ms, σ' = [some v1, some v2, some v3, some (.int (least : Int)), some (.int (most : Int)), some v6, some (.ref L), some (.int ((least + i : Nat) : Int)), some (.ref M), a9, a10, a11] ∧ Stp K G H G' H' ∧ Same G8 G' ∧ (G' L = none ∧ H' L = some (.lst vs)) ∧ G' M = none ∧ H' M = some (.lst ms) ∧ All2 (rp K G') ms (pre2 one other b (least + i) k),
        ⟨a9, a10, a11, G8, [], rfl, t7.trans s8, Same.refl G8, s8.ownL gL7 hL7, (s8.ownL (st.gh.free nM) upd_same).1, (s8.ownL (st.gh.free nM) upd_same).2, .nil⟩, ?_, ?_, ?_⟩
      · rintro k σ' H' ⟨a9, a10, a11, G', ms, _, st, sg, _⟩
        exact sg.trans st.gh
      · rintro k wd vw σ' H' Tp hk hwd rw_ ⟨a9, a10, a11, G', ms, rfl, st', sg', oL, gM, hM, rm⟩ nT
        have hwd : wd = wdAt one other k := hwd
        have hor : wd = one ∨ wd = other := by
          rw [hwd]
          unfold wdAt
          split
          · exact .inl rfl
          · exact .inr rfl
        obtain ⟨g, ep, hh⟩ := tw.good hor
        have s9 : Stp K G' H' G' (upd H' Tp (.tup [.int (k : Int), vw])) := Stp.raw st'.gh nT
        have t9 := st'.trans s9
        obtain ⟨gL9, hL9⟩ := s9.ownL oL.1 oL.2
        obtain ⟨gM9, hM9⟩ := s9.ownL gM hM
        have rw1 := Rep.mono sg' rw_
        have tabk : ∀ {G'' : Hp}, Same G4 G'' → rp K G'' v6 [wtab one b (most + 1), wtab other b (most + 1)] := fun s => Rep.mono s r6
        have hk0 : ([wtab one b (most + 1), wtab other b (most + 1)] : List (List (List Nat)))[k]? = some (wtab wd b (most + 1)) := by
          rw [hwd]
          match k, hk with
          | 0, _ => rfl
          | 1, _ => rfl
          | k + 2, hk => omega
        refine s_for (K := K) s9.gh (ev_1 (ev_var rw1) g) fun G10 H10 s10 _ => ⟨fun j σ' H' => ∃ a11 G' ms, σ' = [some v1, some v2, some v3, some (.int (least : Int)), some (.int (most : Int)), some v6, some (.ref L), some (.int ((least + i : Nat) : Int)), some (.ref M), some (.int (k : Int)), some vw, a11] ∧ Stp K G H G' H' ∧ Same G10 G' ∧ (G' L = none ∧ H' L = some (.lst vs)) ∧ G' M = none ∧ H' M = some (.lst ms) ∧ All2 (rp K G') ms (pre2 one other b (least + i) k ++ cw wd b (least + i) ((crushes wd).take j)),
          ⟨a11, G10, ms, rfl, t9.trans s10, Same.refl G10, s10.ownL gL9 hL9, (s10.ownL gM9 hM9).1, (s10.ownL gM9 hM9).2, by rw [List.take_zero]; show All2 _ _ (_ ++ []); rw [List.append_nil]; exact rm.mp fun _ _ r => Rep.mono s10.gg r⟩, ?_, ?_, ?_⟩
        · rintro j σ' H' ⟨a11, G', ms, _, st, sg, _⟩
          exact sg.trans st.gh
        · rintro j c vc σ' H' hj rc ⟨a11, G', ms, rfl, st'', sg'', oL', gM', hM', rm'⟩
          obtain rfl : vc = .int (c : Int) := rc
          obtain ⟨t, ht⟩ := mem_crushes.mp (List.mem_of_getElem? hj)
          have hc : c < wd.rows.length := (List.getElem?_eq_some_iff.mp ht).1
          have hcl : (crushes wd).length ≤ 5 := by rcases hor with z | z <;> rw [z] <;> omega
          have lenm : ms.length ≤ 100 := by
            rw [rm'.len, List.length_append, cw_len]
            have := pre2_len one other b (least + i) k
            have := List.length_take_le' j (crushes wd)
            omega
          have sG : Same G4 G' := (((sg.trans s8.gg).trans sg').trans s10.gg).trans sg''
          show gName 11 _ _ H' _
          refine s_ext (K := K) (m := [W wd b c (least + i), W wd b c (least + i + 1)]) rfl gM' hM' (by show ms.length + 2 ≤ 100000; omega) st''.gh (ev_lst (el_cons (ev_ixN (ev_ixN (ev_ixN (ev_var (tabk sG)) (ev_nI (ev_var (x := k) rfl)) rfl hk0) (ev_nI (ev_var (x := least + i) rfl)) rfl (wtab_at (by omega))) (ev_nI (ev_var (x := c) rfl)) rfl (wrow_at hc))
            (el_cons (ev_ixN (ev_ixN (ev_ixN (ev_var (tabk sG)) (ev_nI (ev_var (x := k) rfl)) rfl hk0) (ev_nI (ev_addN (ev_var (x := least + i) rfl) (ev_n (n := 1)))) rfl (wtab_at (by omega))) (ev_nI (ev_var (x := c) rfl)) rfl (wrow_at hc)) el_nil)) (by simp)) fun ws G11 H11 s11 rws e11 g11 => ?_
          obtain ⟨gL11, hL11⟩ := s11.ownL oL'.1 oL'.2
          have neL : L ≠ M := fun z => by
            rw [← z, hL] at nM
            cases nM
          refine ⟨_, G11, _, rfl, (st''.trans s11).putL nM0 g11 e11, sg''.trans s11.gg, ⟨gL11, by rw [upd_ne neL]; exact hL11⟩, g11, upd_same, ?_⟩
          rw [cw_cons_at hj, ← List.append_assoc]
          exact (rm'.mp fun _ _ r => Rep.mono s11.gg r).app rws
        · rintro σ' H' ⟨a11, G', ms, rfl, st'', sg'', oL', gM', hM', rm'⟩
          rw [List.take_length, hwd, pre2_succ one other b _ k hk] at rm'
          exact ⟨_, _, _, G', ms, rfl, st'', (sg'.trans s10.gg).trans sg'', oL', gM', hM', rm'⟩
      · rintro σ' H' ⟨a9, a10, a11, G', ms, rfl, st', sg', oL, gM, hM, rm⟩
        have lenv := pre2_len one other b (least + i) 2
        refine ⟨.ref L, rfl, .inl ⟨rfl, vs, SqL.of oL.2⟩, ?_⟩
        refine (ea_catO (xs := pre2 one other b (least + i) 2) (m := [least + i, 1]) rfl gM hM st'.gh rm (ev_lst (el_cons (ev_var (x := least + i) rfl) (el_cons (ev_n (n := 1)) el_nil)) (by simp)) (by show _ + 2 ≤ _; omega)) _ fun v G11 H11 s11 r11 => ?_
        obtain ⟨gL11, hL11⟩ := s11.ownL oL.1 oL.2
        refine ⟨L, vs, v, rfl, rfl, hL11, sz_lt (by omega), ⟨_, _, _, _, _, G11, _, rfl, (st'.trans s11).putL nL0 gL11 hL11, ((sg.trans s8.gg).trans sg').trans s11.gg, gL11, upd_same, ?_⟩⟩
        rw [range'_snoc, List.map_append]
        refine (rv.mp fun _ _ r => Rep.mono ((s8.gg.trans sg').trans s11.gg) r).app (.one ?_)
        rw [tailT_eq]
        exact r11
    · rintro σ' H' ⟨a7, a8, a9, a10, a11, G', vs, rfl, st, sg, gL, hL, rv⟩
      exact ⟨.ref L, rfl, q L vs G' H' st nL0 gL hL rv⟩
end
end Mw
/-! told_tails: what stands at each turn. -/
namespace Mw
section
variable {one other : Wd} {b : Nat}
/-- what kills all told tails up to s kills the tail at s -/
def Killed (one other : Wd) (b : Nat) (fs : List Nat) (s : Nat) : Prop := ∀ c, (∀ q ∈ fs, q ≤ s → dot (nn one other) c (tl one other b q) = 0) → dot (nn one other) c (tl one other b s) = 0
def bnd (n : Nat) : Nat := 30 * 5 ^ n
theorem bnd_bits : ∀ n, n < 13 → bnd n < 2 ^ aB n := by decide +kernel
theorem bnd_small : ∀ n, n < 14 → bnd n < 2 ^ 50 := by decide +kernel
theorem bnd_succ (n : Nat) : bnd (n + 1) = 5 * bnd n := by
  unfold bnd
  rw [Nat.pow_succ]
  omega
theorem bnd_mono (n : Nat) : bnd n ≤ bnd (n + 1) := by
  rw [bnd_succ]
  omega
structure TI (one other : Wd) (b : Nat) (fs ws : List Nat) (span : List (Nat × List Int)) : Prop where
  so : SpanOk (nn one other) span
  len : fs.length = span.length
  sf : fs.Pairwise (· ≤ ·)
  sw : ws.Pairwise (· ≤ ·)
  fw : ∀ f ∈ fs, ∀ x ∈ ws, f ≤ x
  hf : ∀ f ∈ fs, height one other < f ∧ f + 1 ≤ bnd span.length
  hw : ∀ x ∈ ws, height one other < x ∧ x + 1 ≤ bnd span.length
  kill : ∀ c, (∀ f ∈ fs, dot (nn one other) c (tl one other b f) = 0) → ∀ pb ∈ span, dot (nn one other) c pb.2 = 0
  c1 : ∀ s, height one other < s → s < one.p * (height one other + 1) → s ∈ ws ∨ Killed one other b fs s
  c2 : ∀ f ∈ fs, ∀ r, r < one.p → one.p * f + r ∈ ws ∨ Killed one other b fs (one.p * f + r)
theorem nn_le (t : Two one other) : nn one other ≤ 12 := by
  have := t.cc
  unfold nn
  omega
theorem tl_le (t : Two one other) {s k : Nat} : (gt (tl one other b s) k).natAbs ≤ s + 1 := by
  by_cases h : k < (tl one other b s).length
  · rw [tl_len, ← Fs_len one other b] at h
    rw [tl_at (List.getElem?_eq_getElem h), Int.natAbs_natCast]
    rcases Fs_cases (List.getElem_mem h) with ⟨wd, r, hw, hr, e | e⟩ | e | e
    · rw [e]
      exact Nat.le_trans (W_le (t.good hw).1) (Nat.le_succ _)
    · rw [e]
      exact W_le (t.good hw).1
    · rw [e]
      exact Nat.le_succ _
    · rw [e]
      exact Nat.le_add_left _ _
  · rw [gt_out (by omega)]
    exact Nat.zero_le _
theorem TI.bits (t : Two one other) {fs ws : List Nat} {span : List (Nat × List Int)} (v : TI one other b fs ws span) {x : Nat} (hx : x ∈ ws) : ∀ k, (gt (tl one other b x) k).natAbs < 2 ^ aB span.length := fun k => by
  have h1 := (v.hw x hx).2
  have h2 := v.so.len
  have h3 := nn_le t
  exact Nat.lt_of_le_of_lt (Nat.le_trans (tl_le t) h1) (bnd_bits span.length (by omega))
theorem Killed.more {fs : List Nat} {s x : Nat} (h : Killed one other b fs s) : Killed one other b (fs ++ [x]) s := fun c hc => h c fun q hq hle => hc q (List.mem_append_left _ hq) hle
theorem TI.init (t : Two one other) : TI one other b [] (List.range' (height one other + 1) (one.p * (height one other + 1) - (height one other + 1))) [] := by
  have h5 := t.h5
  have p5 := t.p5
  have h30 : one.p * (height one other + 1) ≤ 30 := Nat.mul_le_mul p5 (show height one other + 1 ≤ 6 by omega)
  refine ⟨⟨fun i pb h => by simp at h⟩, rfl, List.Pairwise.nil, ?_, (fun f hf => by cases hf), (fun f hf => by cases hf), fun x hx => ?_, (fun c _ pb hp => by cases hp), fun s h1 h2 => .inl ?_, (fun f hf => by cases hf)⟩
  · exact (List.pairwise_lt_range' (s := height one other + 1) (n := one.p * (height one other + 1) - (height one other + 1))).imp fun h => Nat.le_of_lt h
  · have := List.mem_range'_1.mp hx
    refine ⟨by omega, ?_⟩
    show x + 1 ≤ 30 * 5 ^ 0
    omega
  · rw [List.mem_range'_1]
    omega
theorem TI.sum {fs ws : List Nat} {span : List (Nat × List Int)} {x : Nat} (v : TI one other b fs (x :: ws) span) (h : isSum span (tl one other b x) = true) : TI one other b fs ws span := by
  have kx : Killed one other b fs x := fun c hc => sum_dot v.so (tl_len one other b x) (v.kill c fun f hf => hc f hf (v.fw f hf x List.mem_cons_self)) h
  refine ⟨v.so, v.len, v.sf, (List.pairwise_cons.mp v.sw).2, fun f hf y hy => v.fw f hf y (List.mem_cons_of_mem _ hy), v.hf, fun y hy => v.hw y (List.mem_cons_of_mem _ hy), v.kill, fun s h1 h2 => ?_, fun f hf r hr => ?_⟩
  · rcases v.c1 s h1 h2 with z | z
    · rcases List.mem_cons.mp z with z | z
      · rw [z]
        exact .inr kx
      · exact .inl z
    · exact .inr z
  · rcases v.c2 f hf r hr with z | z
    · rcases List.mem_cons.mp z with z | z
      · rw [z]
        exact .inr kx
      · exact .inl z
    · exact .inr z
theorem TI.more (t : Two one other) {fs ws ws' : List Nat} {span : List (Nat × List Int)} {x : Nat} (v : TI one other b fs (x :: ws) span) (h : isSum span (tl one other b x) = false) (hp : ws'.Perm (ws ++ (List.range one.p).map fun r => one.p * x + r)) (hs : ws'.Pairwise (· ≤ ·)) :
    TI one other b (fs ++ [x]) ws' (widen span (tl one other b x)) := by
  obtain ⟨w1, w2⟩ := widen_ok (nn_le t) v.so (tl_len one other b x) (v.bits t List.mem_cons_self) h
  have p5 := t.p5
  have p2 := t.g1.p2
  obtain ⟨x1, x2⟩ := v.hw x List.mem_cons_self
  have hx := (List.pairwise_cons.mp v.sw).1
  have bm := bnd_mono span.length
  have bs := bnd_succ span.length
  have hpx : one.p * x ≤ 5 * x := Nat.mul_le_mul_right _ p5
  have hpx2 : x ≤ one.p * x := Nat.le_mul_of_pos_left _ (by omega)
  have mem' : ∀ y, y ∈ ws' ↔ y ∈ ws ∨ ∃ r, r < one.p ∧ one.p * x + r = y := fun y => by
    rw [hp.mem_iff, List.mem_append, List.mem_map]
    constructor
    · rintro (z | ⟨r, h1, h2⟩)
      · exact .inl z
      · exact .inr ⟨r, List.mem_range.mp h1, h2⟩
    · rintro (z | ⟨r, h1, h2⟩)
      · exact .inl z
      · exact .inr ⟨r, List.mem_range.mpr h1, h2⟩
  have kx : Killed one other b (fs ++ [x]) x := fun c hc => hc x (by simp) (Nat.le_refl _)
  have keep : ∀ s, s ∈ x :: ws ∨ Killed one other b fs s → s ∈ ws' ∨ Killed one other b (fs ++ [x]) s := fun s z => by
    rcases z with z | z
    · rcases List.mem_cons.mp z with z | z
      · rw [z]
        exact .inr kx
      · exact .inl ((mem' s).mpr (.inl z))
    · exact .inr z.more
  refine ⟨w1, ?_, ?_, hs, ?_, ?_, ?_, ?_, fun s h1 h2 => keep s (v.c1 s h1 h2), ?_⟩
  · rw [List.length_append, v.len, w2] <;> rfl
  · refine List.pairwise_append.mpr ⟨v.sf, List.pairwise_singleton _ _, fun f hf y hy => ?_⟩
    rw [List.mem_singleton.mp hy]
    exact v.fw f hf x List.mem_cons_self
  · intro f hf y hy
    have hfx : f ≤ x := by
      rcases List.mem_append.mp hf with z | z
      · exact v.fw f z x List.mem_cons_self
      · rw [List.mem_singleton.mp z]
        exact Nat.le_refl _
    rcases (mem' y).mp hy with z | ⟨r, _, z⟩
    · exact Nat.le_trans hfx (hx y z)
    · omega
  · intro f hf
    rw [w2]
    rcases List.mem_append.mp hf with z | z
    · have := v.hf f z
      omega
    · rw [List.mem_singleton.mp z]
      omega
  · intro y hy
    rw [w2]
    rcases (mem' y).mp hy with z | ⟨r, h1, z⟩
    · have := v.hw y (List.mem_cons_of_mem _ z)
      omega
    · omega
  · intro c hc
    exact widen_dot v.so (tl_len one other b x) (v.kill c fun f hf => hc f (List.mem_append_left _ hf)) (hc x (by simp))
  · intro f hf r hr
    rcases List.mem_append.mp hf with z | z
    · exact keep _ (v.c2 f z r hr)
    · rw [List.mem_singleton.mp z]
      exact .inl ((mem' _).mpr (.inr ⟨r, hr, rfl⟩))
/-- what is told in the end -/
structure ToldOk (one other : Wd) (b : Nat) (fs : List Nat) : Prop where
  sf : fs.Pairwise (· ≤ ·)
  hf : ∀ f ∈ fs, height one other < f ∧ f + 1 < 2 ^ 50
  all : ∀ s, height one other < s → Killed one other b fs s
theorem TI.done (t : Two one other) {fs : List Nat} {span : List (Nat × List Int)} (v : TI one other b fs [] span) : ToldOk one other b fs := by
  have hl := v.so.len
  have hn := nn_le t
  have hb := bnd_small span.length (by omega)
  refine ⟨v.sf, fun f hf => ?_, fun s hs => tails_all t (fun s h1 h2 => ?_) (fun q hq => (v.hf q hq).1) (fun q hq r hr => ?_) s hs⟩
  · have := v.hf f hf
    exact ⟨this.1, by omega⟩
  · exact (v.c1 s h1 h2).elim (fun z => by cases z) id
  · exact (v.c2 q hq r hr).elim (fun z => by cases z) id
theorem ti_meas (t : Two one other) {fs ws ws' : List Nat} {span span' : List (Nat × List Int)} {x : Nat} (v' : TI one other b fs ws' span') (hl : span'.length = span.length + 1) (hw : ws'.length ≤ ws.length + 5) : (nn one other - span'.length) * 6 + ws'.length < (nn one other - span.length) * 6 + (x :: ws).length := by
  have := v'.so.len
  rw [List.length_cons]
  omega
end
end Mw
namespace Mw
open PySem PySem.Spec PyProof.Rows L2
/-- a def of the top whose code object is known -/
structure HasT (K : PySem.W.Frag) (mg : Str → Option Value) (x : Str) (d : He.DefD) : Prop where
  ex : ∃ fd, FunD K d.name d.qual d.params d.body d.scope [] [] (He.fAd K d.at_) fd ∧ mg x = some (.ref (He.fAd K d.at_))
section
variable {P : Program} {w : World} {K : PySem.W.Frag} {mg : Str → Option Value} {base : Heap} {x : Str} {d : He.DefD} {N ps : List Str} {k : Nat} {sp : Sp}
theorem HasT.cal (h : HasT K mg x d) (S : FnScope N ps d.scope)
    (hb : ∀ (kV doc pm : Value) (an : Option Addr) (cdv ct : Value) (us : List Value), us.length = ps.length → bindArgs (PySem.W.fnOf d.name d.qual d.params d.body d.scope .none kV doc pm an cdv ct) ⟨us, []⟩ = pure (ps.zip us))
    (len : ∀ vs H Q E, sp vs H Q E → vs.length = ps.length)
    (body : ∀ (f : Addr) (cdv : Value) (A : Around) (outer : List Env) (s : Shared) (H : Hp) (vs : List V) (Q : VK) (E : XK), cdv = .ref (He.cT K d.at_).1 → Room k (A.deeper (envOfC d.qual d.scope s.heap.objs.size f cdv)) → sp vs H Q E →
      ∃ t, PSs (cxOf CX0 P w K mg base N d.qual d.scope f cdv A outer s H E).nox d.body t ∧ t { nx := fun _ H' => Q .non H', rt := Q } (start N vs) H) : Cal P w K mg base x (k + 1) ps sp := by
  obtain ⟨fd, F, hm⟩ := h.ex
  have F0 := F
  obtain ⟨oc, od, dV, kV, doc, pm, an, cdv, ct, osl, rfl, lk, hcd, _, _⟩ := F0.ex
  obtain ⟨c, rfl⟩ := He.codeIn_ref hcd
  have hc : He.codeOf K d.at_ = c := He.codeOf_eq lk rfl
  refine ⟨_, _, fn_of lk hcd S len (fun A outer s H vs Q E hr hsp => ?_), hm, F.kp, F.bindsN hb⟩
  obtain ⟨t, h1, h2⟩ := body _ _ A outer s H vs Q E (by rw [show (He.cT K d.at_).1 = He.codeOf K d.at_ from rfl, hc]) hr hsp
  exact ⟨t, h1.nox, h2⟩
end
abbrev Tb (K : PySem.W.Frag) (G H : Hp) : Prop := LamX.TabS H (ptOf K) lamQ ∧ G (ptOf K) = none
theorem Stp.tab {K : PySem.W.Frag} {G H G' H' : Hp} (s : Stp K G H G' H') (t : Tb K G H) : Tb K G' H' := by
  refine ⟨s.hh.tb t.1, ?_⟩
  cases e : G' (ptOf K) with
  | none => rfl
  | some v =>
    rcases s.nw (ptOf K) (by rw [e]; exact fun z => by cases z) with q | q
    · exact absurd t.2 q
    · obtain ⟨ps, h, _⟩ := t.1
      rw [h] at q
      cases q
theorem Stp.grow {K : PySem.W.Frag} {G H H2 : Hp} (gh : Same G H) (hP : G (ptOf K) = none) (g : Grow H H2 (ptOf K) lamQ) : Stp K G H G H2 :=
  ⟨Same.refl G, (fun b u e => g.st b u (gh b u e) fun z => by
    rw [z, hP] at e
    cases e), ⟨g.ext, g.fr, fun _ => g.tb⟩, fun _ h => .inl h⟩
abbrev spTold (K : PySem.W.Frag) : Sp := fun vs H Q _ => ∃ G v1 v2 v3, ∃ (one other : Wd), ∃ (b : Nat), vs = [v1, v2, v3] ∧ Same G H ∧ rp K G v1 one ∧ rp K G v2 other ∧ rp K G v3 b ∧ Two one other ∧ Tb K G H ∧
  ∀ w G' H' fs, Stp K G H G' H' → rp K G' w (fs.map (tailT one other b)) → ToldOk one other b fs → Q w H'
theorem all_map {α β : Type} {R : V → β → Prop} {f : α → β} : ∀ {vs : List V} {l : List α}, All2 R vs (l.map f) → All2 (fun v x => R v (f x)) vs l
  | [], [], _ => .nil
  | [], _ :: _, h => by cases h
  | _ :: _, [], h => by cases h
  | v :: vs, x :: l, h => by
    cases h with
    | cons r t => exact .cons r (all_map t)
theorem map_all {α β : Type} {R : V → β → Prop} {f : α → β} : ∀ {vs : List V} {l : List α}, All2 (fun v x => R v (f x)) vs l → All2 R vs (l.map f)
  | _, _, .nil => .nil
  | _, _, .cons r t => .cons r (map_all t)
theorem zip_mem {R : V → Nat → Prop} : ∀ {vs : List V} {l : List Nat}, All2 R vs l → ∀ x ∈ vs.zip (l.map fun n : Nat => (n : Int)), ∃ n : Nat, x.2 = (n : Int) ∧ R x.1 n
  | _, _, .nil, x, h => by cases h
  | _, _, .cons r t, x, h => by
    rcases List.mem_cons.mp h with h | h
    · rw [h]
      exact ⟨_, rfl, r⟩
    · exact zip_mem t x h
theorem zip_snd {R : V → Nat → Prop} : ∀ {vs : List V} {l : List Nat}, All2 R vs l → (vs.zip (l.map fun n : Nat => (n : Int))).map (fun x => x.2.toNat) = l
  | _, _, .nil => rfl
  | _, _, .cons r t => by
    have ih := zip_snd t
    rw [List.map_cons, List.zip_cons_cons, List.map_cons, ih]
    exact congrArg (· :: _) (Int.toNat_natCast _)
theorem sort_back {R : V → Nat → Prop} {vs : List V} {l : List Nat} (h : All2 R vs l) {out : List (V × Int)} (hp : out.Perm (vs.zip (l.map fun n : Nat => (n : Int)))) (hs : out.Pairwise fun x y => x.2 ≤ y.2) :
    ∃ l', l'.Perm l ∧ l'.Pairwise (· ≤ ·) ∧ All2 R (out.map (·.1)) l' := by
  have hm : ∀ x ∈ out, ∃ n : Nat, x.2 = (n : Int) ∧ R x.1 n := fun x hx => zip_mem h x (hp.mem_iff.mp hx)
  refine ⟨out.map fun x => x.2.toNat, ?_, List.pairwise_map.mpr (hs.imp fun {x y} h => by omega), ?_⟩
  · have := hp.map fun x : V × Int => x.2.toNat
    rw [zip_snd h] at this
    exact this
  · clear hp hs
    induction out with
    | nil => exact .nil
    | cons x out ih =>
      obtain ⟨n, e, r⟩ := hm x List.mem_cons_self
      refine .cons ?_ (ih fun y hy => hm y (List.mem_cons_of_mem _ hy))
      show R x.1 x.2.toNat
      rw [e, Int.toNat_natCast]
      exact r
section
variable {P : Program} {w : World} {K : PySem.W.Frag} {mg : Str → Option Value} {base : Heap}
theorem c_told_tails (h : HasT K mg "told_tails" d_told_tails) (T : Tx K mg base) (c_first_tails : Cal P w K mg base "first_tails" 5 ["one", "other", "number"] (spFirst K)) (c_is_sum : Cal P w K mg base "is_sum" 4 ["span", "row"] (spIsSum K)) (c_widened : Cal P w K mg base "widened" 4 ["span", "row"] (spWiden K)) (c_behind_tail : Cal P w K mg base "behind_tail" 4 ["one", "other", "places", "number"] (spBehind K)) :
    Cal P w K mg base "told_tails" 6 ["one", "other", "number"] (spTold K) := by
  refine h.cal sc_told_tails (fun _ _ _ _ _ _ us hl => match us, hl with | [_, _, _], _ => rfl) (fun vs H Q E h => ?_) (fun f cdv A outer s0 H vs Q E hcode hr h => ?_)
  · obtain ⟨_, _, _, _, _, _, _, rfl, _⟩ := h
    rfl
  · obtain ⟨G, v1, v2, v3, one, other, b, rfl, gh, r1, r2, r3, tw, tb, q⟩ := h
    refine ⟨_, (pss_cons (ps_set (i := 3) sc_told_tails.nd rfl (.inl rfl) (pe_lst pa_nil))
      (pss_cons (ps_set (i := 4) sc_told_tails.nd rfl (.inl rfl) (pe_lst pa_nil))
      (pss_cons (ps_set (i := 5) sc_told_tails.nd rfl (.inl rfl) (pe_c c_first_tails (hr.mono (by decide)) (pa_cons (pv 0) (pa_cons (pv 1) (pa_cons (pv 2) pa_nil)))))
      (pss_cons (ps_while PassesOwn.never (pt_cmpR op_gt (pe_callB (lenK K) (by rfl) T.b_len PySem.boot_len (pa_cons (pv 5) pa_nil)) pe_int (nomark _)) (pss_cons (ps_set (i := 6) sc_told_tails.nd rfl (.inl rfl) (pe_bm PySem.F.plainAttrs_list PySem.F.slot_list_pop PySem.F.type_list_pop mt_popAt (pv 5) (pa_cons pe_int pa_nil)))
      (pss_one (ps_if (pt_not (pt_val (pe_c c_is_sum (hr.mono (by decide)) (pa_cons (pv 3) (pa_cons (pv 6) pa_nil))))) (pss_cons (ps_set (i := 3) sc_told_tails.nd rfl (.inl rfl) (pe_c c_widened (hr.mono (by decide)) (pa_cons (pv 3) (pa_cons (pv 6) pa_nil))))
      (pss_cons (ps_expr (pe_bm PySem.F.plainAttrs_list PySem.F.slot_list_append PySem.F.type_list_append mt_append (pv 4) (pa_cons (pv 6) pa_nil)))
      (pss_one (ps_set (i := 5) sc_told_tails.nd rfl (.inl rfl) (pe_sortKey hcode T.tab hr (by rfl) T.b_sorted (pa_cons (pe_op op_cat (pv 5) (pe_c c_behind_tail (hr.mono (by decide)) (pa_cons (pv 0) (pa_cons (pv 1) (pa_cons (pv 6) (pa_cons (pv 2) pa_nil)))))) pa_nil)))))) pss_nil))))
      (pss_one (ps_ret (pv 4))))))), ?_⟩
    have hn := nn_le tw
    refine q_set (K := K) gh (ev_lst (el_nil (α := Nat × List Int)) (by simp)) fun v4 G2 H2 s2 r4 => ?_
    refine q_new fun F nF => ?_
    have s3 : Stp K G2 H2 G2 (upd H2 F (.lst [])) := Stp.raw s2.gh nF
    have t3 := s2.trans s3
    refine q_setW (K := K) s3.gh (ew_3W (ev_var (Rep.mono t3.gg r1)) (ev_var (Rep.mono t3.gg r2)) (ev_var (Rep.mono t3.gg r3)) tw) fun Wt vw G4 H4 s4 nW gW hW rw_ => ?_
    obtain ⟨gF4, hF4⟩ := s4.ownL (s2.gh.free nF) upd_same
    have t4 := t3.trans s4
    refine q_whileA (K := K) (fun m σ' H' => ∃ fs ws span v4 x6 Wt vf vw G', m = (nn one other - span.length) * 6 + ws.length ∧ m ≤ 200 ∧ σ' = [some v1, some v2, some v3, some v4, some (.ref F), some (.ref Wt), x6] ∧ Stp K G H G' H' ∧ rp K G' v4 span ∧ F ≠ Wt ∧ G' F = none ∧ H' F = some (.lst vf) ∧ All2 (rp K G') vf (fs.map (tailT one other b)) ∧ H Wt = none ∧ G' Wt = none ∧ H' Wt = some (.lst vw) ∧ All2 (rp K G') vw (ws.map (tailT one other b)) ∧ TI one other b fs ws span) _
      ⟨[], _, [], v4, none, Wt, [], vw, G4, rfl, ?_, rfl, t4, Rep.mono (s3.gg.trans s4.gg) r4, (fun z => by rw [← z, upd_same] at nW; cases nW), gF4, hF4, .nil, t3.free nW, gW, hW, rw_, TI.init tw⟩ ?_
    · have h5 := tw.h5
      have h30 : one.p * (height one other + 1) ≤ 30 := Nat.mul_le_mul tw.p5 (show height one other + 1 ≤ 6 by omega)
      rw [List.length_range']
      show (nn one other - 0) * 6 + _ ≤ 200
      omega
    rintro m σ' H' ⟨fs, ws, span, v4, x6, Wt, vf, vw, G', rfl, hm, rfl, st, r4, neFW, gF, hF, rf, nW, gW, hW, rw_, ti⟩
    have elw : vw.length = ws.length := by rw [rw_.len, List.length_map]
    refine ⟨G', decide (0 < ws.length), eta_t (ea_gtN (ea_lenO rfl hW st.gh elw) fun G2 H2 s => (ev_n (n := 0)).at_ s.gh), fun e G5 H5 s5 => ?_, fun e G5 H5 s5 => ?_⟩
    · match ws, e, rw_, ti, elw with
      | [], e, _, _, _ => cases e
      | x :: ws, e, rw_, ti, elw =>
        cases rw_ with
        | @cons vx _ vw' _ rx rws =>
          have rx0 := rx
          obtain ⟨ax, lx, rfl, hax, rlx⟩ := rx0
          obtain ⟨gW5, hW5⟩ := s5.ownL gW hW
          obtain ⟨gF5, hF5⟩ := s5.ownL gF hF
          have t5 := st.trans s5
          have t6 := t5.putL (o := .lst vw') nW gW5 hW5
          refine ⟨.ref Wt, rfl, .inl ⟨rfl, _, SqL.of hW5⟩, Wt, _, 0, 0, .ref ax, rfl, rfl, hW5, by decide, by decide, seqIndex_of (by decide) (by rw [List.length_cons]; omega), rfl, ?_⟩
          show gName 6 (V.ref ax) _ (upd H5 Wt (.lst vw')) _
          have rx5 : rp K G5 (.ref ax) (tailT one other b x) := Rep.mono s5.gg rx
          have r45 := Rep.mono s5.gg r4
          have fit := fit_all hn ti.so (tl_len one other b x) (ti.bits tw List.mem_cons_self)
          have hsl := ti.so.len
          have hFp : (upd H5 Wt (.lst vw')) F = some (.lst vf) := by rw [upd_ne neFW]; exact hF5
          refine s_if (K := K) t6.gh (et_not (et_b (ev_2 (ev_var r45) (ev_nat_int (ev_var rx5)) fit.1))) (fun e7 G7 H7 s7 => ?_) (fun e7 G7 H7 s7 => ?_)
          · have e7 : (!isSum span (tl one other b x)) = true := e7
            have e7 : isSum span (tl one other b x) = false := by simpa using e7
            have low := low_all hn ti.so (tl_len one other b x) (ti.bits tw List.mem_cons_self)
            obtain ⟨wo, wl⟩ := widen_ok hn ti.so (tl_len one other b x) (ti.bits tw List.mem_cons_self) e7
            obtain ⟨gF7, hF7⟩ := s7.ownL gF5 hFp
            obtain ⟨gW7, hW7⟩ := s7.ownL gW5 upd_same
            refine q_set (K := K) s7.gh (ev_2 (ev_var (Rep.mono s7.gg r45)) (ev_nat_int (ev_var (Rep.mono s7.gg rx5))) ⟨fit.1, low, by show (restOf span (tl one other b x)).length < _; rw [fit.2.1]; omega, by omega⟩) fun v8 G8 H8 s8 r8 => ?_
            obtain ⟨gF8, hF8⟩ := s8.ownL gF7 hF7
            obtain ⟨gW8, hW8⟩ := s8.ownL gW7 hW7
            have hfl : vf.length ≤ 12 := by
              rw [rf.len, List.length_map, ti.len]
              omega
            refine q_app (K := K) rfl gF8 hF8 (by omega) s8.gh (ev_var (Rep.mono (s7.gg.trans s8.gg) rx5)) fun v9 G9 H9 s9 r9 e9 g9 => ?_
            have t9 := ((t6.trans s7).trans s8).trans s9
            have t10 := t9.putL (o := .lst (vf ++ [v9])) (s2.free nF) g9 e9
            obtain ⟨gW9, hW9⟩ := s9.ownL gW8 hW8
            have hWp : (upd H9 F (.lst (vf ++ [v9]))) Wt = some (.lst vw') := by rw [upd_ne neFW.symm]; exact hW9
            have g59 : Same G' G9 := ((s5.gg.trans s7.gg).trans s8.gg).trans s9.gg
            obtain ⟨x1, x2⟩ := ti.hw x List.mem_cons_self
            have bsm := bnd_small span.length (by omega)
            have okn : okNext one other (tailT one other b x) 0 b := ⟨x, tw, x1, by omega, rfl, by have := tw.g1.p2; omega⟩
            have elb : ((List.range one.p).map fun r => tailT one other b (one.p * sz (tailT one other b x) + r)).length = one.p := by rw [List.length_map, List.length_range]
            have p5 := tw.p5
            have hwl : ws.length + one.p ≤ 100000 := by
              rw [List.length_cons] at hm
              omega
            refine (ea_catO (xs := ws.map (tailT one other b)) rfl gW9 hWp t10.gh (rws.mp fun _ _ r => Rep.mono g59 r) (ev_4 (ev_var (Rep.mono t10.gg r1)) (ev_var (Rep.mono t10.gg r2)) (ev_var (Rep.mono (g59) rx)) (ev_var (Rep.mono t10.gg r3)) okn) (by rw [elb, List.length_map]; exact hwl)) _ fun vc G11 H11 s11 r11 => ?_
            obtain ⟨ac, xc, rfl, hac, rlc⟩ := r11
            have tb11 := (t10.trans s11).tab tb
            have elist : (ws.map (tailT one other b) ++ (List.range one.p).map fun r => tailT one other b (one.p * sz (tailT one other b x) + r)) = (ws ++ (List.range one.p).map fun r => one.p * x + r).map (tailT one other b) := by
              rw [List.map_append, List.map_map, sz_tail] <;> rfl
            rw [elist] at rlc
            have rl2 := all_map rlc
            have keyed : All2 (KeyV H11) xc ((ws ++ (List.range one.p).map fun r => one.p * x + r).map fun n : Nat => (n : Int)) := map_all (rl2.mp fun v n r => by
              obtain ⟨ar, lr, rfl, har, rr⟩ := r
              refine ⟨ar, lr, rfl, s11.gh _ _ har, ?_, ?_⟩
              · rw [rr.len, tailT_eq, List.length_append]
                exact Nat.le_add_left 2 _
              · have : (tailT one other b n)[lr.length - 2]? = some n := by
                  rw [rr.len, tailT_eq, List.length_append, List.getElem?_append_right (by simp)]
                  simp
                obtain ⟨u, hu, ru⟩ := rr.get this
                rw [hu, show u = _ from ru])
            refine ⟨ac, xc, _, rfl, s11.gh _ _ hac, keyed, tb11.1, fun H12 gr p out hp hs hfree => ?_⟩
            have s12 : Stp K G11 H11 G11 H12 := Stp.grow s11.gh tb11.2 gr
            obtain ⟨l', l1, l2, l3⟩ := sort_back rl2 hp hs
            have t12 := (t10.trans s11).trans s12
            have s13 : Stp K G11 H12 G11 (upd H12 p (.lst (out.map (·.1)))) := Stp.raw s12.gh hfree
            obtain ⟨gF12, hF12⟩ := (s11.trans s12).ownL g9 upd_same
            have g911 : Same G' G11 := g59.trans s11.gg
            have e8 : isSum span ((tailT one other b x).map fun n : Nat => (n : Int)) = false := e7
            have ti' := ti.more tw e7 l1 l2
            have wl' : (widen span (tl one other b x)).length = span.length + 1 := wl
            have ll : l'.length ≤ ws.length + 5 := by
              rw [l1.length_eq, List.length_append, List.length_map, List.length_range]
              omega
            have hmm := ti_meas (x := x) tw ti' wl' ll
            have nep : F ≠ p := fun z => by
              rw [← z, hF12] at hfree
              cases hfree
            have gp := s12.gh.free hfree
            refine ⟨_, hmm, fs ++ [x], l', widen span (tl one other b x), v8, _, p, vf ++ [v9], out.map (·.1), G11, rfl, by omega, rfl, t12.trans s13, Rep.mono (s9.gg.trans s11.gg) r8, nep, gF12, by rw [upd_ne nep]; exact hF12, ?_, t12.free hfree, gp, upd_same, map_all l3, ti'⟩
            rw [List.map_append]
            exact (rf.mp fun _ _ r => Rep.mono g911 r).app (.one (Rep.mono s11.gg r9))
          · have e7 : (!isSum span (tl one other b x)) = false := e7
            have e7 : isSum span (tl one other b x) = true := by simpa using e7
            obtain ⟨gF7, hF7⟩ := s7.ownL gF5 hFp
            obtain ⟨gW7, hW7⟩ := s7.ownL gW5 upd_same
            rw [List.length_cons] at hm
            refine ⟨(nn one other - span.length) * 6 + ws.length, by rw [List.length_cons]; omega, fs, ws, span, v4, _, Wt, vf, vw', G7, rfl, by omega, rfl, t6.trans s7, Rep.mono s7.gg r45, neFW, gF7, hF7, rf.mp fun _ _ r => Rep.mono (s5.gg.trans s7.gg) r, nW, gW7, hW7, rws.mp fun _ _ r => Rep.mono (s5.gg.trans s7.gg) r, ti.sum e7⟩
    · have e : ws = [] := List.length_eq_zero_iff.mp (Nat.eq_zero_of_not_pos (of_decide_eq_false e))
      subst e
      obtain ⟨gF5, hF5⟩ := s5.ownL gF hF
      have t5 := st.trans s5
      have st' := t5.frz (s2.free nF) gF5 hF5
      exact ⟨.ref F, rfl, q (.ref F) _ H5 fs st' ⟨F, vf, rfl, upd_same, rf.mp fun _ _ r => Rep.mono (s5.gg.trans (same_new gF5)) r⟩ (ti.done tw)⟩
end
end Mw
/-! The least size at which two works part. -/
namespace Mw
def IsFirst (one other : Wd) (b : Nat) : Option Nat → Prop
  | none => ∀ s, 1 ≤ s → W one b 0 s = W other b 0 s
  | some s => 1 ≤ s ∧ s < 2 ^ 50 ∧ W one b 0 s ≠ W other b 0 s ∧ ∀ q, 1 ≤ q → q < s → W one b 0 q = W other b 0 q
theorem first_uniq {one other : Wd} {b : Nat} : ∀ {x y : Option Nat}, IsFirst one other b x → IsFirst one other b y → x = y
  | none, none, _, _ => rfl
  | none, some s, h1, h2 => absurd (h1 s h2.1) h2.2.2.1
  | some s, none, h1, h2 => absurd (h2 s h1.1) h1.2.2.1
  | some s, some t, h1, h2 => by
    rcases Nat.lt_trichotomy s t with h | h | h
    · exact absurd (h2.2.2.2 s h1.1 h) h1.2.2.1
    · rw [h]
    · exact absurd (h1.2.2.2 t h2.1 h) h2.2.2.1
open Classical in
noncomputable def fu (one other : Wd) (b : Nat) : Option Nat := if h : ∃ x, IsFirst one other b x then Classical.choose h else none
theorem fu_eq {one other : Wd} {b : Nat} {x : Option Nat} (h : IsFirst one other b x) : fu one other b = x := by
  have hx : ∃ x, IsFirst one other b x := ⟨x, h⟩
  unfold fu
  rw [dif_pos hx]
  exact first_uniq (Classical.choose_spec hx) h
section
variable {one other : Wd} {b : Nat} (t : Two one other)
include t
theorem row0 : 0 < one.rows.length ∧ 0 < other.rows.length := ⟨t.g1.n1, t.g2.n1⟩
theorem far_same {fs : List Nat} (o : ToldOk one other b fs) {s : Nat} (hs : height one other < s) (h : ∀ q ∈ fs, q ≤ s → W one b 0 q = W other b 0 q) : W one b 0 s = W other b 0 s := by
  obtain ⟨n1, n2⟩ := row0 t
  obtain ⟨c, hc0⟩ := (lin_W (b := b) t (.inl rfl) n1).1.add ((lin_W (b := b) t (.inr rfl) n2).1.mul (-1))
  have hc : ∀ s, height one other < s → (W one b 0 s : Int) - (W other b 0 s : Int) = dot (nn one other) c (tl one other b s) := fun s hs => by
    rw [← hc0 s hs]
    show (W one b 0 s : Int) - (W other b 0 s : Int) = (W one b 0 s : Int) + -1 * (W other b 0 s : Int)
    omega
  have key := o.all s hs c fun q hq hle => by
    rw [← hc q (o.hf q hq).1, h q hq hle]
    exact Int.sub_self _
  rw [← hc s hs] at key
  omega
def fewL (one other : Wd) (b : Nat) : Option Nat := (List.range' 1 (height one other)).find? fun s => decide (W one b 0 s ≠ W other b 0 s)
omit t in
theorem find_min {p : Nat → Bool} : ∀ (n a s : Nat), (List.range' a n).find? p = some s → a ≤ s ∧ s < a + n ∧ p s = true ∧ ∀ q, a ≤ q → q < s → p q = false
  | 0, a, s, h => by simp at h
  | n + 1, a, s, h => by
    rw [List.range'_succ] at h
    by_cases e : p a = true
    · rw [List.find?_cons_of_pos e] at h
      have e2 : a = s := Option.some.inj h
      subst e2
      exact ⟨Nat.le_refl _, by omega, e, fun q h1 h2 => by omega⟩
    · rw [List.find?_cons_of_neg e] at h
      obtain ⟨h1, h2, h3, h4⟩ := find_min n (a + 1) s h
      refine ⟨by omega, by omega, h3, fun q q1 q2 => ?_⟩
      by_cases ea : q = a
      · rw [ea]
        exact Bool.not_eq_true _ ▸ e
      · exact h4 q (by omega) q2
omit t in
theorem few_none (h : fewL one other b = none) : ∀ s, 1 ≤ s → s ≤ height one other → W one b 0 s = W other b 0 s := fun s h1 h2 => by
  have := List.find?_eq_none.mp h s (List.mem_range'_1.mpr (by omega))
  simpa using this
theorem first_low {s : Nat} (h : fewL one other b = some s) : IsFirst one other b (some s) := by
  obtain ⟨h1, h2, h3, h4⟩ := find_min _ _ _ h
  have h5 := t.h5
  refine ⟨h1, by omega, of_decide_eq_true h3, fun q q1 q2 => ?_⟩
  have := h4 q q1 q2
  simpa using this
theorem first_none {fs : List Nat} (o : ToldOk one other b fs) (hl : fewL one other b = none) (h : ∀ q ∈ fs, W one b 0 q = W other b 0 q) : IsFirst one other b none := fun s hs => by
  by_cases hh : s ≤ height one other
  · exact few_none hl s hs hh
  · exact far_same t o (by omega) fun q hq _ => h q hq
theorem first_told {fs : List Nat} (o : ToldOk one other b fs) (hl : fewL one other b = none) {i f : Nat} (hi : fs[i]? = some f) (hf : W one b 0 f ≠ W other b 0 f) (h : ∀ q ∈ fs.take i, W one b 0 q = W other b 0 q) : IsFirst one other b (some f) := by
  obtain ⟨f1, f2⟩ := o.hf f (List.mem_of_getElem? hi)
  refine ⟨by omega, by omega, hf, fun q q1 q2 => ?_⟩
  by_cases hh : q ≤ height one other
  · exact few_none hl q q1 hh
  · refine far_same t o (by omega) fun x hx hle => h x ?_
    obtain ⟨j, hj, e⟩ := List.mem_iff_getElem.mp hx
    obtain ⟨hi', e'⟩ := List.getElem?_eq_some_iff.mp hi
    have hji : j < i := by
      apply Classical.byContradiction
      intro z
      rcases Nat.lt_or_ge i j with c | c
      · have := (List.pairwise_iff_getElem.mp o.sf) i j hi' hj c
        omega
      · have : j = i := by omega
        subst this
        omega
    refine List.mem_iff_getElem?.mpr ⟨j, ?_⟩
    rw [List.getElem?_take_of_lt hji, List.getElem?_eq_getElem hj, e]
theorem told_from : ∀ (m : Nat) (fs ws : List Nat) (span : List (Nat × List Int)), TI one other b fs ws span → (nn one other - span.length) * 6 + ws.length ≤ m → ∃ gs, ToldOk one other b gs := by
  intro m
  induction m using Nat.strongRecOn with
  | _ m ih =>
    intro fs ws span v hm
    match ws, v, hm with
    | [], v, _ => exact ⟨fs, v.done t⟩
    | x :: ws, v, hm =>
      cases e : isSum span (tl one other b x) with
      | true =>
        rw [List.length_cons] at hm
        exact ih ((nn one other - span.length) * 6 + ws.length) (by omega) fs ws span (v.sum e) (Nat.le_refl _)
      | false =>
        have pm := List.mergeSort_perm (ws ++ (List.range one.p).map fun r => one.p * x + r) (fun a b => decide (a ≤ b))
        have sm : ((ws ++ (List.range one.p).map fun r => one.p * x + r).mergeSort (fun a b => decide (a ≤ b))).Pairwise (· ≤ ·) := by
          refine (List.pairwise_mergeSort (le := fun a b : Nat => decide (a ≤ b)) (fun x y z h1 h2 => ?_) (fun x y => ?_) _).imp fun h => of_decide_eq_true h
          · have h1 := of_decide_eq_true h1
            have h2 := of_decide_eq_true h2
            exact decide_eq_true (by omega)
          · rcases Nat.le_total x y with h | h
            · rw [decide_eq_true h] <;> rfl
            · rw [decide_eq_true h, Bool.or_true]
        generalize (ws ++ (List.range one.p).map fun r => one.p * x + r).mergeSort (fun a b => decide (a ≤ b)) = ws' at pm sm
        have v' := v.more t e pm sm
        have p5 := t.p5
        have ll : ws'.length ≤ ws.length + 5 := by
          rw [pm.length_eq, List.length_append, List.length_map, List.length_range]
          omega
        obtain ⟨_, wl⟩ := widen_ok (nn_le t) v.so (tl_len one other b x) (v.bits t List.mem_cons_self) e
        have := ti_meas (x := x) t v' wl ll
        exact ih _ (by omega) _ _ _ v' (Nat.le_refl _)
theorem told_is : ∃ fs, ToldOk one other b fs := told_from t _ _ _ _ (TI.init t) (Nat.le_refl _)
theorem fu_spec : IsFirst one other b (fu one other b) := by
  have : ∃ x, IsFirst one other b x := by
    cases hl : fewL one other b with
    | some s => exact ⟨_, first_low t hl⟩
    | none =>
      obtain ⟨fs, o⟩ := told_is (b := b) t
      by_cases h : ∀ q ∈ fs, W one b 0 q = W other b 0 q
      · exact ⟨_, first_none t o hl h⟩
      · cases hf : fs.findIdx? (fun q => decide (W one b 0 q ≠ W other b 0 q)) with
        | none =>
          refine absurd (fun q hq => ?_) h
          have := List.findIdx?_eq_none_iff.mp hf q hq
          simpa using this
        | some i =>
          obtain ⟨hi, h1, h2⟩ := List.findIdx?_eq_some_iff_getElem.mp hf
          refine ⟨_, first_told t o hl (List.getElem?_eq_getElem hi) (of_decide_eq_true h1) fun q hq => ?_⟩
          obtain ⟨j, hj, e⟩ := List.mem_iff_getElem.mp hq
          rw [List.length_take] at hj
          have := h2 j (by omega)
          rw [List.getElem_take] at e
          rw [← e]
          simpa using this
  obtain ⟨x, hx⟩ := this
  rw [fu_eq hx]
  exact hx
end
end Mw
/-! Rules of my own: min of a list of pairs of ints. -/
namespace Mw
open PySem PySem.Spec PyProof.Rows L2 PySem.W PySem.SeqAt
def ltP (y a : Int × Int) : Bool := decide (y.1 < a.1 ∨ (y.1 = a.1 ∧ y.2 < a.2))
def minP (p : Int × Int) (ps : List (Int × Int)) : Int × Int := ps.foldl (fun a y => if ltP y a then y else a) p
theorem minP_spec : ∀ (ps : List (Int × Int)) (p : Int × Int), (minP p ps = p ∨ minP p ps ∈ ps) ∧ ltP p (minP p ps) = false ∧ ∀ y ∈ ps, ltP y (minP p ps) = false
  | [], p => ⟨.inl rfl, decide_eq_false (by
      show ¬ (p.1 < p.1 ∨ (p.1 = p.1 ∧ p.2 < p.2))
      omega), fun y h => by cases h⟩
  | x :: ps, p => by
    show (minP (if ltP x p then x else p) ps = p ∨ minP (if ltP x p then x else p) ps ∈ x :: ps) ∧ ltP p (minP (if ltP x p then x else p) ps) = false ∧ ∀ y ∈ x :: ps, ltP y (minP (if ltP x p then x else p) ps) = false
    obtain ⟨h1, h2, h3⟩ := minP_spec ps (if ltP x p then x else p)
    generalize minP (if ltP x p then x else p) ps = m at h1 h2 h3
    by_cases e : ltP x p = true
    · rw [if_pos e] at h1 h2
      have e' := of_decide_eq_true e
      have h2' := of_decide_eq_false h2
      refine ⟨.inr (h1.elim (fun z => z ▸ List.mem_cons_self) (List.mem_cons_of_mem _)), decide_eq_false (by omega), fun y hy => ?_⟩
      rcases List.mem_cons.mp hy with z | z
      · rw [z]
        exact h2
      · exact h3 y z
    · rw [if_neg e] at h1 h2
      have e' := of_decide_eq_false (by simpa using e : ltP x p = false)
      have h2' := of_decide_eq_false h2
      refine ⟨h1.elim .inl (fun z => .inr (List.mem_cons_of_mem _ z)), h2, fun y hy => ?_⟩
      rcases List.mem_cons.mp hy with z | z
      · rw [z]
        exact decide_eq_false (by omega)
      · exact h3 y z
def tupD (p : Int × Int) : PyData := .tuple [.int p.1, .int p.2]
theorem minD_tup : ∀ (ps : List (Int × Int)) (p : Int × Int), minD (tupD p) (ps.map tupD) = tupD (minP p ps)
  | [], _ => rfl
  | x :: ps, p => by
    have e : (if dataLt (tupD x) (tupD p) then tupD x else tupD p) = tupD (if ltP x p then x else p) := by
      unfold tupD
      rw [dataLt_ii]
      unfold ltP
      split <;> rfl
    show minD (if dataLt (tupD x) (tupD p) then tupD x else tupD p) (ps.map tupD) = _
    rw [e]
    exact minD_tup ps _
def IsP (H : Hp) (v : V) (p : Int × Int) : Prop := ∃ b, v = .ref b ∧ H b = some (.tup [.int p.1, .int p.2])
def rMinP : List V → Hp → VK → Prop := fun vs H Q => ∃ (a : Addr) (xs : List V) (ps : List (Int × Int)), vs = [.ref a] ∧ H a = some (.lst xs) ∧ All2 (IsP H) xs ps ∧ 0 < ps.length ∧
  ∀ (i : Nat) (v : V) (p : Int × Int), xs[i]? = some v → ps[i]? = some p → (∀ y ∈ ps, ltP y p = false) → Q v H
theorem readsAll_of {h : Heap} : ∀ {vs : List Value} {ds : List PyData}, EachIs (fun v d => ∃ as, Reads h v d as) vs ds → ∃ as, ReadsAll h vs ds as
  | _, _, .nil => ⟨[], .nil⟩
  | _, _, .cons ⟨as, r⟩ t => by
    obtain ⟨bs, r2⟩ := readsAll_of t
    exact ⟨as ++ bs, .cons r r2⟩
theorem reads_int {h : Heap} {a b : Int} {t : Tok} {as : List Addr} (r : Reads h (.int a t) (.int b) as) : a = b := by
  cases r
  rfl
theorem depth_tups : ∀ ps : List (Int × Int), PyData.depthAll (ps.map tupD) ≤ 1
  | [] => Nat.zero_le _
  | p :: ps => by
    show max 1 (PyData.depthAll (ps.map tupD)) ≤ 1
    have := depth_tups ps
    omega
theorem cr_minP {X : Cx} {k : Nat} (hc : X.calm = true) (hr : Room k X.A) : CallR X (.builtin "min") rMinP := by
  intro pins s σ H vs us Q I r h
  obtain ⟨a, xs, ps, rfl, ha, hp, h0, q⟩ := h
  obtain ⟨its, n, rv, ho, hz⟩ := I.lst ha
  rw [Vals.ref1 r]
  have each : EachIs (fun v d => ∃ as, Reads s.heap v d as) its (ps.map tupD) := by
    have step : ∀ {xs : List V} {its : List Value} {ps : List (Int × Int)}, All2 (IsP H) xs ps → Vals xs its → EachIs (fun v d => ∃ as, Reads s.heap v d as) its (ps.map tupD) := by
      intro xs its ps k1 k2
      induction k1 generalizing its with
      | nil =>
        cases k2
        exact .nil
      | cons r t ih =>
        cases k2 with
        | cons r2 t2 =>
          refine .cons ?_ (ih t2)
          obtain ⟨b, rfl, hb⟩ := r
          cases r2
          obtain ⟨_, us, ru, o, ho, hc, m, hd⟩ := I.hok b _ hb
          obtain ⟨u1, u2, rfl, ⟨t1, rfl⟩, ⟨t2, rfl⟩⟩ := vals2 ru
          exact ⟨_, .tuple ho hc hd (.cons (.int _ _) (.cons (.int _ _) .nil))⟩
    exact step hp rv
  obtain ⟨as, hr2⟩ := readsAll_of each
  match ps, hp, h0, hr2, q with
  | p :: ps, hp, _, hr2, q =>
    have hr3 : ReadsAll s.heap its.toArray.toList (tupD p :: ps.map tupD) as := hr2
    have al : AlikeAll (tupD p :: ps.map tupD) := by
      have tup : ∀ d ∈ tupD p :: ps.map tupD, ∃ z, d = tupD z := fun d hd => by
        obtain ⟨z, _, e⟩ := List.mem_map.mp (show d ∈ (p :: ps).map tupD from hd)
        exact ⟨z, e.symm⟩
      refine ⟨fun x hx y hy => ?_, fun x hx => ?_⟩
      · obtain ⟨z, rfl⟩ := tup x hx
        obtain ⟨z', rfl⟩ := tup y hy
        rfl
      · obtain ⟨z, rfl⟩ := tup x hx
        exact fun e => by cases e
    have dp := depth_tups (p :: ps)
    have hun := hr.un
    refine min_list_data (I.ok.hd hc) ⟨_, ho, rfl, n, rfl⟩ hr3 al (by show X.A.units + 1 + PyData.depthAll ((p :: ps).map tupD) < cLine; omega) fun i v h' tk bs hv hrd hk => ?_
    have I2 : Inv X pins σ H { s with heap := h', toks := tk } := I.kept hk
    have hv' : its[i]? = some v := by simpa using hv
    have hi : i < xs.length := by
      rw [rv.length]
      exact (List.getElem?_eq_some_iff.mp hv').1
    obtain ⟨u, hu, ru⟩ := rv.get (List.getElem?_eq_getElem hi)
    rw [hv'] at hu
    cases hu
    obtain ⟨z, hz2, b, eb, hb⟩ := hp.getV (List.getElem?_eq_getElem hi)
    rw [eb] at ru
    cases ru
    rw [minD_tup] at hrd
    obtain ⟨m1, m2, m3⟩ := minP_spec ps p
    have ez : z = minP p ps := by
      obtain ⟨_, us, ru, o, ho2, hc2, m, hd2⟩ := I2.hok b _ hb
      obtain ⟨u1, u2, rfl, ⟨t1, rfl⟩, ⟨t2, rfl⟩⟩ := vals2 ru
      generalize minP p ps = w at hrd
      unfold tupD at hrd
      cases hrd with
      | tuple g1 g2 g3 g4 =>
        have ho2 : h'.get? b = some o := ho2
        rw [ho2] at g1
        cases g1
        rw [hd2] at g3
        cases g3
        cases g4 with
        | cons c1 c2 =>
          cases c2 with
          | cons c3 c4 =>
            exact Prod.ext (reads_int c1) (reads_int c3)
    refine ⟨.ref b, H, I2, rfl, q i (.ref b) z (by rw [List.getElem?_eq_getElem hi, eb]) hz2 ?_⟩
    rw [ez]
    intro y hy
    rcases List.mem_cons.mp hy with e | e
    · rw [e]
      exact m2
    · exact m3 y e
end Mw
namespace Mw
open PySem PySem.Spec PyProof.Rows L2
section
variable {K : PySem.W.Frag} {σ : L2.St} {G G' H H' : Hp} {ta tb tc te : TE} {t u : TT} {α β γ δ ε : Type} [Rep α] [Rep β] [Rep γ] [Rep δ] [Rep ε] {x : α} {y : β} {z : γ} {v : V} {D : Ends} {tu tw tz : TS} {g : TG}
/-- at one heap, to something of which P holds -/
def EEA {α : Type} [Rep α] (K : PySem.W.Frag) (te : TE) (σ : L2.St) (G H : Hp) (P : α → Prop) : Prop := ∀ Q : VK, (∀ v G2 H2 x, Stp K G H G2 H2 → rp K G2 v x → P x → Q v H2) → te σ H Q
theorem qA_setE {i : Nat} {P : α → Prop} (h : EEA K te σ G H P) (k : ∀ v G2 H2 x, Stp K G H G2 H2 → rp K G2 v x → P x → tz D (σ.set i (some v)) H2) : tSeq (tAsg te (gName i)) tz D σ H := h _ k
theorem qA_forE {tl : TE} {P : List α → Prop} (h : EEA K tl σ G H P)
    (k : ∀ l G1 H1, Stp K G H G1 H1 → P l → (∃ vl, rp K G1 vl l) → ∃ Pv : Nat → L2.St → Hp → Prop, Pv 0 σ H1 ∧ (∀ i σ' H', Pv i σ' H' → Same G1 H') ∧
      (∀ i x v σ' H', l[i]? = some x → rp K G1 v x → Pv i σ' H' → g v σ' H' fun σ2 H2 => tu { D with nx := Pv (i + 1), ct := Pv (i + 1), bk := tz D } σ2 H2) ∧ (∀ σ' H', Pv l.length σ' H' → tz D σ' H')) : tSeq (tFor (iList K tl) g tu) tz D σ H := by
  refine h _ fun vl G1 H1 l s r hp => ?_
  obtain ⟨Pv, h0, hs, ht, hd⟩ := k l G1 H1 s hp ⟨vl, r⟩
  obtain ⟨a, vs, e1, e2, e3⟩ := r
  refine ⟨a, e1, ⟨vs, SqL.of (s.gh _ _ e2)⟩, for_list (xs := vs) Pv h0 (fun i σ' H' _ p => SqL.of (hs i σ' H' p _ _ e2)) (fun i v σ' H' hi p => ?_) (fun σ' H' p => hd σ' H' (by rw [← e3.len]; exact p))⟩
  obtain ⟨x, hx, rx⟩ := e3.getV hi
  exact ht i x v σ' H' hx rx p
theorem ewa_lcR {tn : TE} {j : Nat} {vs : List Nat} {n : Nat} {i0 : Int} (p : Nat → Bool) (f : Nat → β) (h : EA K tn σ G H i0) (en : i0 = (n : Int)) (hz : n < 50000) (hw : ∀ x, wipe ((wipe σ vs).set j (some x)) vs = wipe σ vs)
    (ht : ∀ (i : Nat) G1 H1, Stp K G H G1 H1 → i < n → ETA K t ((wipe σ vs).set j (some (.int (i : Int)))) G1 H1 (p i)) (he : ∀ (i : Nat) G1 H1, Stp K G H G1 H1 → i < n → p i = true → EA K te ((wipe σ vs).set j (some (.int (i : Int)))) G1 H1 (f i)) :
    EWA K (tLc (iRng1 (tCons tn tNil)) (gName j) t te vs) σ G H (fm (List.range n) p f) := fun Q q => by
  refine h _ fun vl G1 H1 s r => ?_
  refine ⟨i0, by rw [show vl = _ from r], by omega, by omega, fun L hL => ?_⟩
  have e : i0.toNat = n := by omega
  rw [e]
  refine lc_range (lo := 0) (n := n) (fun i H' => Cw K G1 H1 L (fm (List.range i) p f) H') (Cw.nil s.gh hL) (fun i H' hi w => ?_) (fun H' w => ?_)
  · have e0 : (0 : Int) + (i : Int) = (i : Int) := Int.zero_add _
    rw [e0]
    refine ⟨hw _, ?_⟩
    have hlen : (fm (List.range i) p f).length < 50000 := Nat.lt_of_le_of_lt (fm_len _ _ _) (by rw [List.length_range]; omega)
    refine Cw.turnA w hL hlen (fun G2 H2 s2 => ht i G2 H2 (s.trans s2) hi) (fun hb G2 H2 s2 => he i G2 H2 (s.trans s2) hi hb) fun H2 w2 => ?_
    show Cw K G1 H1 L (fm (List.range (i + 1)) p f) H2
    rw [List.range_succ, fm_snoc]
    exact w2
  · exact w.out hL fun L vs G2 H2 s2 n2 g2 h2 r2 => q L vs G2 H2 (s.trans s2) (s.free n2) g2 h2 r2
theorem q_drop (gh : Same G H) (h : Ev K te σ G x) (k : ∀ G2 H2, Stp K G H G2 H2 → tz D σ H2) : tSeq (tDrop te) tz D σ H := h G H (Same.refl G) gh _ fun _ G2 H2 s _ => k G2 H2 s
theorem eta_yes (gh : Same G H) : ETA K tYes σ G H true := fun Q q => q G H (Stp.refl gh)
theorem ea_t2 (gh : Same G H) (ha : EA K ta σ G H x) (hb : ∀ G2 H2, Stp K G H G2 H2 → EA K tb σ G2 H2 y) : EA K (tTup (tCons ta (tCons tb tNil))) σ G H (x, y) := fun Q q =>
  ha _ fun v G2 H2 s1 r1 => hb G2 H2 s1 _ fun w G3 H3 s2 r2 => ⟨sz_of (by show 2 ≤ 100000; decide), fun p hp => by
    have n := same_new (o := .tup [v, w]) (s2.gh.free hp)
    exact q (.ref p) _ _ ((s1.trans s2).trans (Stp.new s2.gh hp)) ⟨p, v, w, rfl, upd_same, Rep.mono n (Rep.mono s2.gg r1), Rep.mono n r2⟩⟩
end
abbrev spFU (K : PySem.W.Frag) : Sp := fun vs H Q _ => ∃ G v1 v2 v3, ∃ (one other : Wd), ∃ (b : Nat), vs = [v1, v2, v3] ∧ Same G H ∧ rp K G v1 one ∧ rp K G v2 other ∧ rp K G v3 b ∧ Two one other ∧ Tb K G H ∧
  ∀ w G' H', Stp K G H G' H' → rp K G' w (fu one other b) → Q w H'
def IsPart (one other : Wd) : Option (Nat × Nat) → Prop
  | none => ∀ b, b < 6 → fu one other b = none
  | some p => p.2 < 6 ∧ fu one other p.2 = some p.1 ∧ ∀ b s, b < 6 → fu one other b = some s → p.1 < s ∨ (p.1 = s ∧ p.2 ≤ b)
abbrev spPart (K : PySem.W.Frag) : Sp := fun vs H Q _ => ∃ G v1 v2, ∃ (one other : Wd), vs = [v1, v2] ∧ Same G H ∧ rp K G v1 one ∧ rp K G v2 other ∧ Two one other ∧ Tb K G H ∧
  ∀ w G' H' r, Stp K G H G' H' → rp K G' w r → IsPart one other r → Q w H'
section
variable {P : Program} {w : World} {K : PySem.W.Frag} {mg : Str → Option Value} {base : Heap}
theorem c_first_unlike (h : Has K mg "first_unlike" d_first_unlike) (T : Tx K mg base) (c_parted_low : Cal P w K mg base "parted_low" 5 ["one", "other", "number"] (spFew K)) (c_told_tails : Cal P w K mg base "told_tails" 6 ["one", "other", "number"] (spTold K)) (c_same_far : Cal P w K mg base "same_far" 3 ["one", "other", "places", "number"] (spSame K)) :
    Cal P w K mg base "first_unlike" 7 ["one", "other", "number"] (spFU K) := by
  refine h.cal sc_first_unlike (fun _ _ _ _ _ _ us hl => match us, hl with | [_, _, _], _ => rfl) (fun vs H Q E h => ?_) (fun f cdv A outer s0 H vs Q E hr h => ?_)
  · obtain ⟨_, _, _, _, _, _, _, rfl, _⟩ := h
    rfl
  · obtain ⟨G, v1, v2, v3, one, other, b, rfl, gh, r1, r2, r3, tw, tb, q⟩ := h
    refine ⟨_, (pss_cons (ps_set (i := 3) sc_first_unlike.nd rfl (.inl rfl) (pe_c c_parted_low (hr.mono (by decide)) (pa_cons (pv 0) (pa_cons (pv 1) (pa_cons (pv 2) pa_nil)))))
      (pss_cons (ps_if (pt_cmpR op_notN (pv 3) pe_non (nomark _)) (pss_one (ps_ret (pv 3))) pss_nil)
      (pss_cons (ps_for PassesOwn.never rfl (pi_list (pe_c c_told_tails (hr.mono (by decide)) (pa_cons (pv 0) (pa_cons (pv 1) (pa_cons (pv 2) pa_nil))))) (pg_name (i := 4) sc_first_unlike.nd rfl (.inl rfl)) (pss_one (ps_if (pt_not (pt_val (pe_c c_same_far (hr.mono (by decide)) (pa_cons (pv 0) (pa_cons (pv 1) (pa_cons (pv 4) (pa_cons (pv 2) pa_nil))))))) (pss_one (ps_ret (pe_ix (ixL K) (pv 4) (pe_un un_neg pe_int) (fun _ _ => rfl)))) pss_nil)))
      (pss_one (ps_ret pe_non))))), ?_⟩
    refine q_set (K := K) gh (ev_3 (ev_var r1) (ev_var r2) (ev_var r3) ⟨tw.g1, tw.g2⟩) fun v4 G2 H2 s2 r4 => ?_
    have r4 : rp K G2 v4 (fewL one other b) := r4
    refine q_when (K := K) s2.gh (et_t (ev_notN (ev_var r4))) (fun e G3 H3 s3 => ?_) (fun e G3 H3 s3 => ?_)
    · cases hl : fewL one other b with
      | none =>
        rw [hl] at e
        cases e
      | some s =>
        refine s_ret (K := K) s3.gh (ev_var (Rep.mono s3.gg r4)) fun w G7 H7 s7 r7 => q w G7 H7 ((s2.trans s3).trans s7) ?_
        rw [fu_eq (first_low tw hl), ← hl]
        exact r7
    · have hl : fewL one other b = none := by
        cases hl : fewL one other b with
        | none => rfl
        | some s =>
          rw [hl] at e
          cases e
      have t3 := s2.trans s3
      have ee : EEA K (tCall (spTold K) [] E0 (tCons (tVar 0) (tCons (tVar 1) (tCons (tVar 2) tNil)))) ((start N_first_unlike [v1, v2, v3]).set 3 (some v4)) G3 H3 (fun l : List (List Nat) => ∃ fs, l = fs.map (tailT one other b) ∧ ToldOk one other b fs) := fun Q q =>
        ⟨v1, rfl, v2, rfl, v3, rfl, G3, v1, v2, v3, one, other, b, rfl, s3.gh, Rep.mono t3.gg r1, Rep.mono t3.gg r2, Rep.mono t3.gg r3, tw, t3.tab tb, fun w G' H' fs s r o => q w G' H' _ s r ⟨fs, rfl, o⟩⟩
      refine qA_forE (K := K) ee fun l G4 H4 s4 hp _ => ?_
      obtain ⟨fs, rfl, o⟩ := hp
      refine ⟨fun i σ' H' => ∃ a G', σ' = [some v1, some v2, some v3, some v4, a] ∧ Stp K G4 H4 G' H' ∧ ∀ x ∈ fs.take i, W one b 0 x = W other b 0 x, ⟨none, G4, rfl, Stp.refl s4.gh, fun x hx => by cases hx⟩, ?_, ?_, ?_⟩
      · rintro i σ' H' ⟨a, G', _, s, _⟩
        exact s.gg.trans s.gh
      · rintro i x v σ' H' hi rv ⟨a, G', rfl, s, hz⟩
        rw [List.getElem?_map] at hi
        cases ei : fs[i]? with
        | none =>
          rw [ei] at hi
          cases hi
        | some f0 =>
          rw [ei] at hi
          have hi : tailT one other b f0 = x := Option.some.inj hi
          subst hi
          obtain ⟨f1, f2⟩ := o.hf f0 (List.mem_of_getElem? ei)
          have t4 := (t3.trans s4).trans s
          have p2 := tw.g1.p2
          have rv' := Rep.mono s.gg rv
          show gName 4 v _ H' _
          refine s_when (K := K) s.gh (et_not (et_b (ev_4 (ev_var (Rep.mono t4.gg r1)) (ev_var (Rep.mono t4.gg r2)) (ev_var rv') (ev_var (Rep.mono t4.gg r3)) ⟨f0, tw, f1, by omega, rfl, by omega⟩))) (fun e G5 H5 s5 => ?_) (fun e G5 H5 s5 => ?_)
          · have e : ¬ W one b 0 f0 = W other b 0 f0 := by
              rw [sz_tail] at e
              simpa using e
            have hm2 : atI (tailT one other b f0) (-2) = some f0 := by
              rw [tailT_eq]
              exact atI_m2
            refine s_ret (K := K) s5.gh (ev_some (ev_ix (ev_var (Rep.mono s5.gg rv')) (ev_neg (ev_i (i := 2))) hm2)) fun w G7 H7 s7 r7 => q w G7 H7 ((t4.trans s5).trans s7) ?_
            rw [fu_eq (first_told tw o hl ei e hz)]
            exact r7
          · have e : W one b 0 f0 = W other b 0 f0 := by
              rw [sz_tail] at e
              simpa using e
            refine ⟨_, G5, rfl, s.trans s5, fun x hx => ?_⟩
            rw [take_snoc ei] at hx
            rcases List.mem_append.mp hx with h | h
            · exact hz x h
            · rw [List.mem_singleton.mp h]
              exact e
      · rintro σ' H' ⟨a, G', rfl, s, hz⟩
        rw [List.length_map, List.take_length] at hz
        refine s_ret (K := K) s.gh (ev_non (α := Nat)) fun w G7 H7 s7 r7 => q w G7 H7 (((t3.trans s4).trans s).trans s7) ?_
        rw [fu_eq (first_none tw o hl hz)]
        exact r7
end
end Mw
namespace Mw
open PySem PySem.Spec PyProof.Rows L2
noncomputable def fuL (one other : Wd) : List (Option Nat × Nat) := (List.range 6).map fun b => (fu one other b, b)
theorem fm_id {α : Type} (l : List α) (p : α → Bool) : fm l p (fun x => x) = l.filter p := by
  unfold fm
  rw [List.map_id']
section
variable {P : Program} {w : World} {K : PySem.W.Frag} {mg : Str → Option Value} {base : Heap}
theorem c_parting_of (h : Has K mg "parting_of" d_parting_of) (T : Tx K mg base) (c_check_two : Cal P w K mg base "check_two" 6 ["one", "other"] (spCheck K)) (c_first_unlike : Cal P w K mg base "first_unlike" 7 ["one", "other", "number"] (spFU K)) :
    Cal P w K mg base "parting_of" 8 ["one", "other"] (spPart K) := by
  refine h.cal sc_parting_of (fun _ _ _ _ _ _ us hl => match us, hl with | [_, _], _ => rfl) (fun vs H Q E h => ?_) (fun f cdv A outer s0 H vs Q E hr h => ?_)
  · obtain ⟨_, _, _, _, _, rfl, _⟩ := h
    rfl
  · obtain ⟨G, v1, v2, one, other, rfl, gh, r1, r2, tw, tb, q⟩ := h
    refine ⟨_, (pss_cons (ps_expr (pe_c c_check_two (hr.mono (by decide)) (pa_cons (pv 0) (pa_cons (pv 1) pa_nil))))
      (pss_cons (ps_setLc (i := 2) (own := [("number", 4)]) (g := (gName 4)) (tt := tYes) rfl sc_parting_of.nd  rfl rfl (sw_true rfl rfl rfl (by decide +kernel)) (pi_range1 (by rfl) T.b_range (pa_cons pe_int pa_nil)) (blkOk_by (N := N_parting_of) (sc := defScope s_parting_of) (by decide +kernel)) (fun _ _ _ _ _ => (pg_name (i := 4) sc_parting_of.nd rfl (Or.inl rfl))) (fun _ _ _ _ _ => pts_nil) (fun _ _ _ _ _ => (pe_tup (pa_cons (pe_c c_first_unlike (hr.mono (by decide)) (pa_cons (pv 0) (pa_cons (pv 1) (pa_cons (pv 4) pa_nil)))) (pa_cons (pv 4) pa_nil)))))
      (pss_cons (ps_setLc (i := 3) (own := [("pair", 5)]) (g := (gName 5)) rfl sc_parting_of.nd  rfl rfl (sw_true rfl rfl rfl (by decide +kernel)) (pi_list (pv 2)) (blkOk_by (N := N_parting_of) (sc := defScope s_parting_of) (by decide +kernel)) (fun _ _ _ _ _ => (pg_name (i := 5) sc_parting_of.nd rfl (Or.inl rfl))) (fun _ _ _ _ _ => pts_one (pt_cmpR op_notN (pe_ix (ixT K) (pv 5) pe_int (fun _ _ => rfl)) pe_non (nomark _))) (fun _ _ _ _ _ => (pv 5)))
      (pss_cons (ps_if (pt_cmpR op_eq (pe_callB (lenK K) (by rfl) T.b_len PySem.boot_len (pa_cons (pv 3) pa_nil)) pe_int (nomark _)) (pss_one (ps_ret pe_non)) pss_nil)
      (pss_one (ps_ret (pe_callB (cr_minP rfl hr) (by rfl) T.b_min (by decide +kernel) (pa_cons (pv 3) pa_nil)))))))), ?_⟩
    have cc := tw.cc
    refine q_drop (K := K) gh (ev_2 (ev_var r1) (ev_var r2) ⟨tw.g1, tw.g2, tw.pp, tw.c1, tw.c2⟩) fun G2 H2 s2 => ?_
    have tb2 := s2.tab tb
    refine qA_set (K := K) ((ewa_lcR (n := 6) (fun _ => true) (fun b => (fu one other b, b)) ((ev_i (i := 6)).at_ s2.gh) rfl (by omega) (fun _ => rfl) (fun j G1 H1 s hj => eta_yes s.gh) (fun j G1 H1 s hj _ => ea_t2 s.gh (fun Q q =>
      ⟨v1, rfl, v2, rfl, .int (j : Int), rfl, G1, v1, v2, .int (j : Int), one, other, j, rfl, s.gh, Rep.mono (s2.gg.trans s.gg) r1, Rep.mono (s2.gg.trans s.gg) r2, rfl, tw, s.tab tb2, fun w G' H' s r => q w G' H' s r⟩) (fun G2 H2 s => (ev_var (x := j) rfl).at_ s.gh))).frz) fun v3 G3 H3 s3 r3 => ?_
    rw [fm_yes] at r3
    have r3 : rp K G3 v3 (fuL one other) := r3
    have len6 : (fuL one other).length = 6 := by
      unfold fuL
      rw [List.length_map, List.length_range]
    refine q_set (K := K) s3.gh (ev_as (ev_lcL (fun x : Option Nat × Nat => !x.1.isNone) (fun x => x) (ev_var r3) (by omega) (fun _ => rfl) (fun i x v G1 sg hx rx => et_t (ev_notN (ev_p0 (ev_var rx)))) (fun i x v G1 sg hx rx _ => ev_var rx)) (fm_id _ _)) fun v4 G4 H4 s4 r4 => ?_
    have t4 := (s2.trans s3).trans s4
    have memP : ∀ x : Option Nat × Nat, x ∈ (fuL one other).filter (fun x => !x.1.isNone) ↔ x.2 < 6 ∧ x.1 = fu one other x.2 ∧ ∃ s, x.1 = some s := fun x => by
      rw [List.mem_filter]
      unfold fuL
      rw [List.mem_map]
      constructor
      · rintro ⟨⟨b, hb, rfl⟩, h2⟩
        refine ⟨List.mem_range.mp hb, rfl, ?_⟩
        cases e : fu one other b with
        | none =>
          rw [e] at h2
          cases h2
        | some s => exact ⟨s, rfl⟩
      · rintro ⟨h1, h2, s, h3⟩
        refine ⟨⟨x.2, List.mem_range.mpr h1, by rw [← h2]⟩, ?_⟩
        rw [h3] <;> rfl
    generalize (fuL one other).filter (fun x => !x.1.isNone) = l at r4 memP
    refine q_when (K := K) s4.gh (et_t (ev_eqN (ev_len (ev_var r4)) (ev_n (n := 0)))) (fun e G5 H5 s5 => ?_) (fun e0 G5 H5 s5 => ?_)
    · have e : l = [] := List.length_eq_zero_iff.mp (of_decide_eq_true e)
      subst e
      refine s_ret (K := K) s5.gh (ev_non (α := Nat × Nat)) fun w G7 H7 s7 r7 => q w G7 H7 none ((t4.trans s5).trans s7) r7 fun b hb => ?_
      cases e : fu one other b with
      | none => rfl
      | some s =>
        have := (memP (some s, b)).mpr ⟨hb, e.symm, s, rfl⟩
        cases this
    · have e : l.length ≠ 0 := of_decide_eq_false e0
      clear e0
      have r5 := Rep.mono s5.gg r4
      have r50 := r5
      obtain ⟨a, vs, rfl, ha, rv⟩ := r50
      have get : ∀ x ∈ l, ∃ s, x.1 = some s := fun x hx => ((memP x).mp hx).2.2
      have hp : All2 (IsP H5) vs (l.map fun x => ((((x.1.getD 0 : Nat) : Int), ((x.2 : Nat) : Int)))) := by
        clear memP e r4 r5 ha
        induction rv with
        | nil => exact .nil
        | @cons v x vs l r t ih =>
          refine .cons ?_ (ih fun y hy => get y (List.mem_cons_of_mem _ hy))
          obtain ⟨s, es⟩ := get x List.mem_cons_self
          obtain ⟨o, n⟩ := x
          have es : o = some s := es
          subst es
          obtain ⟨b, v1, v2, rfl, hb, h1, h2⟩ := r
          have h1 : v1 = .int (s : Int) := h1
          have h2 : v2 = .int (n : Int) := h2
          subst h1 h2
          exact ⟨b, rfl, s5.gh _ _ hb⟩
      refine ⟨.ref a, rfl, a, vs, _, rfl, s5.gh _ _ ha, hp, by rw [List.length_map]; omega, fun i v p hv hpi hmin => ?_⟩
      rw [List.getElem?_map] at hpi
      cases ei : l[i]? with
      | none =>
        rw [ei] at hpi
        cases hpi
      | some x =>
        rw [ei] at hpi
        have hpi := Option.some.inj hpi
        subst hpi
        have hx := List.mem_of_getElem? ei
        obtain ⟨m1, m2, s, m3⟩ := (memP x).mp hx
        obtain ⟨v', hv', rv'⟩ := rv.get ei
        rw [hv] at hv'
        cases hv'
        obtain ⟨o, n⟩ := x
        have m3 : o = some s := m3
        subst m3
        refine q v G5 H5 (some (s, n)) (t4.trans s5) rv' ⟨m1, m2.symm, fun b s' hb hs' => ?_⟩
        have hy := hmin _ (List.mem_map_of_mem ((memP (some s', b)).mpr ⟨hb, hs'.symm, s', rfl⟩))
        have hy := of_decide_eq_false hy
        have hy : ¬ ((s' : Int) < (s : Int) ∨ ((s' : Int) = (s : Int) ∧ (b : Int) < (n : Int))) := hy
        show s < s' ∨ (s = s' ∧ n ≤ b)
        omega
end
end Mw
/-! Tables by numbers. -/
namespace Mw
open PySem PySem.Spec PyProof.Rows L2
section
variable {β : Type}
def getN (l : List (Nat × β)) (k : Nat) : Option β := (l.find? fun x => decide (x.1 = k)).map (·.2)
def setN (l : List (Nat × β)) (k : Nat) (v : β) : List (Nat × β) := if k ∈ l.map (·.1) then l.map (fun x => if x.1 = k then (k, v) else x) else l ++ [(k, v)]
def enc (e : β → V) (l : List (Nat × β)) : List (Key × V) := l.map fun x => (.inl (x.1 : Int), e x.2)
theorem getN_cons (x : Nat × β) (l : List (Nat × β)) (k : Nat) : getN (x :: l) k = if x.1 = k then some x.2 else getN l k := by
  unfold getN
  rw [List.find?_cons]
  by_cases h : x.1 = k
  · rw [if_pos h, decide_eq_true h] <;> rfl
  · rw [if_neg h, decide_eq_false h]
theorem getN_mem : ∀ {l : List (Nat × β)} {k : Nat} {v : β}, getN l k = some v → (k, v) ∈ l
  | x :: l, k, v, h => by
    rw [getN_cons] at h
    by_cases e : x.1 = k
    · rw [if_pos e] at h
      obtain ⟨a, b⟩ := x
      have e : a = k := e
      have h : b = v := Option.some.inj h
      rw [e, h]
      exact List.mem_cons_self
    · rw [if_neg e] at h
      exact List.mem_cons_of_mem _ (getN_mem h)
theorem getN_none : ∀ {l : List (Nat × β)} {k : Nat}, getN l k = none ↔ k ∉ l.map (·.1)
  | [], k => by simp [getN]
  | x :: l, k => by
    rw [getN_cons]
    by_cases e : x.1 = k
    · rw [if_pos e]
      simp [e]
    · rw [if_neg e, getN_none (l := l)]
      simp [Ne.symm e]
theorem getN_of : ∀ {l : List (Nat × β)} {k : Nat} {v : β}, (l.map (·.1)).Nodup → (k, v) ∈ l → getN l k = some v
  | x :: l, k, v, nd, h => by
    rw [getN_cons]
    obtain ⟨n1, n2⟩ := List.nodup_cons.mp nd
    rcases List.mem_cons.mp h with h | h
    · rw [← h, if_pos rfl]
    · rw [if_neg fun e => n1 (by show x.1 ∈ _; rw [e]; exact List.mem_map_of_mem (f := (·.1)) h)]
      exact getN_of n2 h
theorem valV_enc (e : β → V) (k : Nat) : ∀ l : List (Nat × β), valV (enc e l) (.inl (k : Int)) = (getN l k).map e
  | [] => rfl
  | x :: l => by
    have ih := valV_enc e k l
    rw [getN_cons]
    show valV ((.inl (x.1 : Int), e x.2) :: enc e l) _ = _
    by_cases h : x.1 = k
    · rw [if_pos h]
      exact valV_pos (by rw [h])
    · rw [if_neg h, valV_neg (fun z => h (by
        have : ((.inl (x.1 : Int) : Key)) = .inl (k : Int) := z
        have := Sum.inl.inj this
        omega)), ih]
theorem any_enc (e : β → V) (k : Nat) (l : List (Nat × β)) : ((enc e l).any fun kv => decide (kv.1 = (.inl (k : Int) : Key))) = decide (k ∈ l.map (·.1)) := by
  rw [valV_any, valV_enc]
  by_cases h : k ∈ l.map (·.1)
  · rw [decide_eq_true h]
    cases g : getN l k with
    | none => exact absurd h (getN_none.mp g)
    | some v => rfl
  · rw [decide_eq_false h, getN_none.mpr h] <;> rfl
theorem putK_enc (e : β → V) (k : Nat) (v : β) (l : List (Nat × β)) : putK (enc e l) (.inl (k : Int)) (e v) = enc e (setN l k v) := by
  unfold putK setN
  rw [any_enc]
  by_cases h : k ∈ l.map (·.1)
  · rw [if_pos h, if_pos (decide_eq_true h)]
    unfold enc
    rw [List.map_map, List.map_map]
    refine List.map_congr_left fun x _ => ?_
    show (if (.inl (x.1 : Int) : Key) = .inl (k : Int) then ((.inl (x.1 : Int) : Key), e v) else ((.inl (x.1 : Int) : Key), e x.2)) = ((.inl (((if x.1 = k then (k, v) else x).1 : Nat) : Int) : Key), e (if x.1 = k then (k, v) else x).2)
    by_cases hx : x.1 = k
    · rw [if_pos (by rw [hx]), if_pos hx, hx]
    · rw [if_neg (fun z => hx (by
        have := Sum.inl.inj z
        omega)), if_neg hx]
  · rw [if_neg h, if_neg (by rw [decide_eq_false h]; decide)]
    unfold enc
    rw [List.map_append] <;> rfl
theorem keys_setN (l : List (Nat × β)) (k : Nat) (v : β) : (setN l k v).map (·.1) = if k ∈ l.map (·.1) then l.map (·.1) else l.map (·.1) ++ [k] := by
  unfold setN
  by_cases h : k ∈ l.map (·.1)
  · rw [if_pos h, if_pos h, List.map_map]
    refine List.map_congr_left fun x _ => ?_
    show (if x.1 = k then (k, v) else x).1 = x.1
    split
    · rename_i e
      exact e.symm
    · rfl
  · rw [if_neg h, if_neg h, List.map_append] <;> rfl
theorem nodup_setN {l : List (Nat × β)} {k : Nat} {v : β} (h : (l.map (·.1)).Nodup) : ((setN l k v).map (·.1)).Nodup := by
  rw [keys_setN]
  split
  · exact h
  · rename_i hk
    refine List.nodup_append.mpr ⟨h, by simp, fun a ha b hb e => ?_⟩
    rw [List.mem_singleton.mp hb] at e
    exact hk (e ▸ ha)
theorem mem_setN {l : List (Nat × β)} {k : Nat} {v : β} {x : Nat × β} : x ∈ setN l k v ↔ (x ∈ l ∧ x.1 ≠ k) ∨ x = (k, v) := by
  unfold setN
  split
  · rename_i h
    rw [List.mem_map]
    constructor
    · rintro ⟨y, hy, rfl⟩
      by_cases e : y.1 = k
      · rw [if_pos e]
        exact .inr rfl
      · rw [if_neg e]
        exact .inl ⟨hy, e⟩
    · rintro (⟨h1, h2⟩ | rfl)
      · exact ⟨x, h1, if_neg h2⟩
      · obtain ⟨y, hy, e⟩ := List.mem_map.mp h
        exact ⟨y, hy, if_pos e⟩
  · rename_i h
    rw [List.mem_append, List.mem_singleton]
    constructor
    · rintro (h1 | h1)
      · exact .inl ⟨h1, fun z => h (z ▸ List.mem_map_of_mem (f := (·.1)) h1)⟩
      · exact .inr h1
    · rintro (⟨h1, _⟩ | h1)
      · exact .inl h1
      · exact .inr h1
theorem mem_key_setN {l : List (Nat × β)} {k j : Nat} {v : β} : j ∈ (setN l k v).map (·.1) ↔ j ∈ l.map (·.1) ∨ j = k := by
  rw [keys_setN]
  split
  · rename_i h
    refine ⟨.inl, fun z => ?_⟩
    rcases z with z | z
    · exact z
    · rw [z]
      exact h
  · rw [List.mem_append, List.mem_singleton]
/-- sums -/
def sumN (f : Nat × β → Nat) (l : List (Nat × β)) : Nat := (l.map f).sum
theorem sumN_cons (f : Nat × β → Nat) (x : Nat × β) (l : List (Nat × β)) : sumN f (x :: l) = f x + sumN f l := by
  unfold sumN
  rw [List.map_cons, List.sum_cons]
theorem sumN_app (f : Nat × β → Nat) (l m : List (Nat × β)) : sumN f (l ++ m) = sumN f l + sumN f m := by
  unfold sumN
  rw [List.map_append, List.sum_append]
theorem sum_map_ne (f : Nat × β → Nat) (k : Nat) (v : β) : ∀ l : List (Nat × β), k ∉ l.map (·.1) → l.map (fun x => if x.1 = k then (k, v) else x) = l := fun l h => by
  conv => rhs; rw [← List.map_id l]
  refine List.map_congr_left fun x hx => if_neg ?_
  intro e
  have := List.mem_map_of_mem (f := (·.1)) hx
  rw [show x.1 = k from e] at this
  exact h this
theorem sum_set_some (f : Nat × β → Nat) {k : Nat} {v o : β} : ∀ {l : List (Nat × β)}, (l.map (·.1)).Nodup → getN l k = some o → sumN f (setN l k v) + f (k, o) = sumN f l + f (k, v)
  | [], _, h => by cases h
  | x :: l, nd, h => by
    obtain ⟨n1, n2⟩ := List.nodup_cons.mp nd
    have hk : k ∈ (x :: l).map (·.1) := List.mem_map_of_mem (f := (·.1)) (getN_mem h)
    unfold setN
    rw [if_pos hk, List.map_cons, sumN_cons, sumN_cons]
    rw [getN_cons] at h
    by_cases e : x.1 = k
    · rw [if_pos e] at h ⊢
      rw [sum_map_ne f k v l (by rw [← e]; exact n1)]
      obtain ⟨a, b⟩ := x
      have e : a = k := e
      have h : b = o := Option.some.inj h
      rw [e, h]
      omega
    · rw [if_neg e] at h ⊢
      have ih := sum_set_some f (v := v) n2 h
      unfold setN at ih
      rw [if_pos (List.mem_map_of_mem (f := (·.1)) (getN_mem h))] at ih
      omega
theorem sum_set_none (f : Nat × β → Nat) {k : Nat} {v : β} {l : List (Nat × β)} (h : getN l k = none) : sumN f (setN l k v) = sumN f l + f (k, v) := by
  unfold setN
  rw [if_neg (getN_none.mp h), sumN_app]
  unfold sumN
  simp
/-- without a key -/
def delN (l : List (Nat × β)) (k : Nat) : List (Nat × β) := l.filter fun x => decide (x.1 ≠ k)
theorem dropK_enc (e : β → V) (k : Nat) : ∀ l : List (Nat × β), dropK (enc e l) (.inl (k : Int)) = enc e (delN l k)
  | [] => rfl
  | x :: l => by
    have ih := dropK_enc e k l
    unfold dropK enc delN at ih ⊢
    rw [List.map_cons, List.filter_cons, List.filter_cons, ih]
    by_cases h : x.1 = k
    · have e1 : decide (x.1 ≠ k) = false := decide_eq_false fun z => z h
      have e2 : decide ((.inl (x.1 : Int) : Key) ≠ .inl (k : Int)) = false := decide_eq_false fun z => z (by rw [h])
      rw [if_neg (by show ¬ decide ((.inl (x.1 : Int) : Key) ≠ .inl (k : Int)) = true; rw [e2]; decide), if_neg (by rw [e1]; decide)]
    · have e1 : decide (x.1 ≠ k) = true := decide_eq_true h
      have e2 : decide ((.inl (x.1 : Int) : Key) ≠ .inl (k : Int)) = true := decide_eq_true fun z => h (by
        have := Sum.inl.inj z
        omega)
      rw [if_pos (by show decide ((.inl (x.1 : Int) : Key) ≠ .inl (k : Int)) = true; exact e2), if_pos e1, List.map_cons]
theorem mem_delN {l : List (Nat × β)} {k : Nat} {x : Nat × β} : x ∈ delN l k ↔ x ∈ l ∧ x.1 ≠ k := by
  unfold delN
  rw [List.mem_filter]
  simp
theorem nodup_delN {l : List (Nat × β)} {k : Nat} (h : (l.map (·.1)).Nodup) : ((delN l k).map (·.1)).Nodup := (List.Sublist.map (fun x : Nat × β => x.1) List.filter_sublist).nodup h
theorem sum_del (f : Nat × β → Nat) {k : Nat} {o : β} : ∀ {l : List (Nat × β)}, (l.map (·.1)).Nodup → getN l k = some o → sumN f (delN l k) + f (k, o) = sumN f l
  | [], _, h => by cases h
  | x :: l, nd, h => by
    obtain ⟨n1, n2⟩ := List.nodup_cons.mp nd
    unfold delN
    rw [List.filter_cons, sumN_cons]
    rw [getN_cons] at h
    by_cases e : x.1 = k
    · rw [if_pos e] at h
      have e1 : decide (x.1 ≠ k) = false := decide_eq_false fun z => z e
      rw [if_neg (by rw [e1]; decide)]
      have : l.filter (fun x => decide (x.1 ≠ k)) = l := List.filter_eq_self.mpr fun y hy => decide_eq_true fun z => n1 (by show x.1 ∈ _; rw [e, ← z]; exact List.mem_map_of_mem (f := (·.1)) hy)
      rw [this]
      obtain ⟨a, b⟩ := x
      have e : a = k := e
      have h : b = o := Option.some.inj h
      rw [e, h]
      omega
    · rw [if_neg e] at h
      rw [if_pos (decide_eq_true e), sumN_cons]
      have ih := sum_del f n2 h
      unfold delN at ih
      omega
end
/-- so many more at a key -/
def addN (l : List (Nat × Nat)) (k m : Nat) : List (Nat × Nat) := setN l k ((getN l k).getD 0 + m)
theorem sum_add {l : List (Nat × Nat)} {k m : Nat} (w : Nat → Nat) (h : (l.map (·.1)).Nodup) : sumN (fun x => x.2 * w x.1) (addN l k m) = sumN (fun x => x.2 * w x.1) l + m * w k := by
  unfold addN
  cases g : getN l k with
  | none =>
    rw [sum_set_none _ g]
    show _ + (0 + m) * w k = _
    rw [Nat.zero_add]
  | some o =>
    have := sum_set_some (fun x : Nat × Nat => x.2 * w x.1) (v := o + m) h g
    show sumN _ (setN l k (o + m)) = _
    have e : (o + m) * w k = o * w k + m * w k := Nat.add_mul _ _ _
    have this : sumN (fun x : Nat × Nat => x.2 * w x.1) (setN l k (o + m)) + o * w k = sumN (fun x : Nat × Nat => x.2 * w x.1) l + (o + m) * w k := this
    omega
end Mw
/-! A Flow: its objects, what lies and what is kept. -/
namespace Mw
open PySem PySem.Spec PyProof.Rows L2
abbrev DD := List (Nat × Addr × List (Nat × Nat))
structure Fl where
  F : Addr
  dx : Addr
  vw : V
  S : Addr
  Dn : Addr
  Kq : Addr
  sz : DD
  dn : List V
  kp : DD
def Fl.adr (st : Fl) : List Addr := st.F :: st.S :: st.Dn :: st.Kq :: (st.sz.map (·.2.1) ++ st.kp.map (·.2.1))
abbrev encI (n : Nat) : V := .int (n : Int)
abbrev encR (x : Addr × List (Nat × Nat)) : V := .ref x.1
def mns (H : Hp) (A : List Addr) : Hp := fun a => if a ∈ A then none else H a
theorem mns_in {H : Hp} {A : List Addr} {a : Addr} (h : a ∈ A) : mns H A a = none := if_pos h
theorem mns_out {H : Hp} {A : List Addr} {a : Addr} (h : a ∉ A) : mns H A a = H a := if_neg h
/-- the sizes at which grains are looked at -/
structure Uni (wd : Wd) (U : List Nat) : Prop where
  lt : ∀ s ∈ U, 1 ≤ s ∧ s + 1 < 2 ^ 60
  cl : ∀ s ∈ U, ∀ r, r < wd.rows.length → ∀ x ∈ goes wd r s, x.b ∈ U
  ln : U.length ≤ 20000
structure FlOk (wd : Wd) (U : List Nat) (st : Fl) : Prop where
  ks : (st.sz.map (·.1)).Nodup
  ku : ∀ e ∈ st.sz, e.1 ∈ U ∧ (e.2.2.map (·.1)).Nodup ∧ ∀ x ∈ e.2.2, x.1 < wd.rows.length
  dl : st.dn.length = wd.rows.length
  di : ∀ v ∈ st.dn, ∃ n : Nat, v = .int (n : Int)
  bk : (st.kp.map (·.1)).Nodup
  bb : ∀ b, Row.bin b ∈ wd.rows → b ∈ st.kp.map (·.1)
  bu : ∀ e ∈ st.kp, (e.2.2.map (·.1)).Nodup ∧ ∀ x ∈ e.2.2, x.1 ∈ U
  bc : ∀ b, b ∈ st.kp.map (·.1) → Row.bin b ∈ wd.rows
structure FA (K : PySem.W.Frag) (G H : Hp) (wd : Wd) (U : List Nat) (st : Fl) : Prop where
  gh : Same G H
  hF : H st.F = some (.ins (CF K) st.dx [("works", st.vw), ("sizes", .ref st.S), ("done", .ref st.Dn), ("kept", .ref st.Kq)])
  rw : rp K G st.vw wd
  hS : H st.S = some (.dK (enc encR st.sz))
  hD : H st.Dn = some (.lst st.dn)
  hK : H st.Kq = some (.dK (enc encR st.kp))
  hs : ∀ e ∈ st.sz, H e.2.1 = some (.dK (enc encI e.2.2))
  hk : ∀ e ∈ st.kp, H e.2.1 = some (.dK (enc encI e.2.2))
  nd : st.adr.Nodup
  ga : ∀ a ∈ st.adr, G a = none
  ok : FlOk wd U st
section
variable {K : PySem.W.Frag} {G H G' H' G0 H0 : Hp} {wd : Wd} {U : List Nat} {st : Fl}
theorem Fl.mF (st : Fl) : st.F ∈ st.adr := List.mem_cons_self
theorem Fl.mS (st : Fl) : st.S ∈ st.adr := List.mem_cons_of_mem _ List.mem_cons_self
theorem Fl.mD (st : Fl) : st.Dn ∈ st.adr := List.mem_cons_of_mem _ (List.mem_cons_of_mem _ List.mem_cons_self)
theorem Fl.mK (st : Fl) : st.Kq ∈ st.adr := List.mem_cons_of_mem _ (List.mem_cons_of_mem _ (List.mem_cons_of_mem _ List.mem_cons_self))
theorem Fl.ms {e : Nat × Addr × List (Nat × Nat)} (h : e ∈ st.sz) : e.2.1 ∈ st.adr := List.mem_cons_of_mem _ (List.mem_cons_of_mem _ (List.mem_cons_of_mem _ (List.mem_cons_of_mem _ (List.mem_append_left _ (List.mem_map_of_mem (f := (·.2.1)) h)))))
theorem Fl.mk' {e : Nat × Addr × List (Nat × Nat)} (h : e ∈ st.kp) : e.2.1 ∈ st.adr := List.mem_cons_of_mem _ (List.mem_cons_of_mem _ (List.mem_cons_of_mem _ (List.mem_cons_of_mem _ (List.mem_append_right _ (List.mem_map_of_mem (f := (·.2.1)) h)))))
theorem Fl.cases {a : Addr} (h : a ∈ st.adr) : a = st.F ∨ a = st.S ∨ a = st.Dn ∨ a = st.Kq ∨ (∃ e ∈ st.sz, e.2.1 = a) ∨ ∃ e ∈ st.kp, e.2.1 = a := by
  unfold Fl.adr at h
  simp only [List.mem_cons, List.mem_append, List.mem_map] at h
  exact h
/-- the heap of any of its objects -/
theorem FA.some_ (f : FA K G H wd U st) {a : Addr} (h : a ∈ st.adr) : ∃ u, H a = some u ∧ (∀ p, u ≠ .tbl p) ∧ ∀ p, u ≠ .ext p := by
  rcases Fl.cases h with e | e | e | e | ⟨x, hx, e⟩ | ⟨x, hx, e⟩
  · exact ⟨_, by rw [e]; exact f.hF, (fun _ z => by cases z), (fun _ z => by cases z)⟩
  · exact ⟨_, by rw [e]; exact f.hS, (fun _ z => by cases z), (fun _ z => by cases z)⟩
  · exact ⟨_, by rw [e]; exact f.hD, (fun _ z => by cases z), (fun _ z => by cases z)⟩
  · exact ⟨_, by rw [e]; exact f.hK, (fun _ z => by cases z), (fun _ z => by cases z)⟩
  · exact ⟨_, by rw [← e]; exact f.hs x hx, (fun _ z => by cases z), (fun _ z => by cases z)⟩
  · exact ⟨_, by rw [← e]; exact f.hk x hx, (fun _ z => by cases z), (fun _ z => by cases z)⟩
theorem FA.on (f : FA K G H wd U st) (s : Stp K G H G' H') : FA K G' H' wd U st := by
  have o : ∀ {a : Addr} {u : HO}, a ∈ st.adr → H a = some u → (∀ p, u ≠ .tbl p) → H' a = some u := fun m e nt => (s.own (f.ga _ m) e nt).2
  refine ⟨s.gh, o st.mF f.hF (fun _ z => by cases z), Rep.mono s.gg f.rw, o st.mS f.hS (fun _ z => by cases z), o st.mD f.hD (fun _ z => by cases z), o st.mK f.hK (fun _ z => by cases z), fun e he => o (Fl.ms he) (f.hs e he) (fun _ z => by cases z), fun e he => o (Fl.mk' he) (f.hk e he) (fun _ z => by cases z), f.nd, fun a ha => ?_, f.ok⟩
  obtain ⟨u, h1, h2, _⟩ := f.some_ ha
  exact (s.own (f.ga a ha) h1 h2).1
/-- the same objects in another heap -/
theorem FA.of (f : FA K G H wd U st) (gh : Same G H') (h : ∀ a ∈ st.adr, H' a = H a) : FA K G H' wd U st :=
  ⟨gh, by rw [h _ st.mF]; exact f.hF, f.rw, by rw [h _ st.mS]; exact f.hS, by rw [h _ st.mD]; exact f.hD, by rw [h _ st.mK]; exact f.hK, fun e he => by rw [h _ (Fl.ms he)]; exact f.hs e he, fun e he => by rw [h _ (Fl.mk' he)]; exact f.hk e he, f.nd, f.ga, f.ok⟩
/-! ### steps that leave a Flow out -/
theorem Stp.minus {A : List Addr} (s : Stp K G0 H0 G H) (h : ∀ a ∈ A, H0 a = none ∧ G a = none) (nx : ∀ a ∈ A, ∀ f, H a ≠ some (.ext f)) : Stp K G0 H0 G (mns H A) := by
  have out : ∀ {b : Addr} {u : HO}, H0 b = some u → b ∉ A := fun e m => by
    rw [(h _ m).1] at e
    cases e
  refine ⟨s.gg, fun b u e => ?_, ⟨fun b o e nt => ?_, fun b e => ?_, fun t => ?_⟩, s.nw⟩
  · have m : b ∉ A := fun m => by
      rw [(h b m).2] at e
      cases e
    rw [mns_out m]
    exact s.gh b u e
  · rw [mns_out (out e)]
    exact s.hh.st b o e nt
  · by_cases m : b ∈ A
    · exact (h b m).1
    · rw [mns_out m] at e
      exact s.hh.fr b e
  · have t0 := t
    obtain ⟨p0, t1, _⟩ := t0
    obtain ⟨ps, h1, h2, h3⟩ := s.hh.tb t
    refine ⟨ps, by rw [mns_out (out t1)]; exact h1, h2, fun pos cv hc => ?_⟩
    obtain ⟨c, e1, e2⟩ := h3 pos cv hc
    refine ⟨c, e1, ?_⟩
    rw [mns_out fun m => nx c m _ e2]
    exact e2
/-- from the heap without the Flow to the heap -/
theorem FA.base (f : FA K G H wd U st) : Stp K G (mns H st.adr) G H := by
  have out : ∀ {b : Addr} {u : HO}, mns H st.adr b = some u → b ∉ st.adr ∧ H b = some u := fun {b u} e => by
    by_cases m : b ∈ st.adr
    · rw [mns_in m] at e
      cases e
    · rw [mns_out m] at e
      exact ⟨m, e⟩
  refine ⟨Same.refl G, f.gh, ⟨fun b o e _ => (out e).2, fun b e => ?_, fun t => ?_⟩, fun _ h => .inl h⟩
  · by_cases m : b ∈ st.adr
    · exact mns_in m
    · rw [mns_out m]
      exact e
  · obtain ⟨ps, h1, h2, h3⟩ := t
    refine ⟨ps, (out h1).2, h2, fun pos cv hc => ?_⟩
    obtain ⟨c, e1, e2⟩ := h3 pos cv hc
    exact ⟨c, e1, (out e2).2⟩
theorem FA.min (f : FA K G H wd U st) (s : Stp K G0 H0 G H) (h : ∀ a ∈ st.adr, H0 a = none) : Stp K G0 H0 G (mns H st.adr) :=
  s.minus (fun a ha => ⟨h a ha, f.ga a ha⟩) fun a ha p e => by
    obtain ⟨u, h1, _, h3⟩ := f.some_ ha
    rw [h1] at e
    exact h3 p (Option.some.inj e)
/-- its objects are old ones or new ones -/
def Nw (H : Hp) (st st' : Fl) : Prop := ∀ a ∈ st'.adr, mns H st.adr a = none
theorem Nw.at_ {st' : Fl} (n : Nw H st st') {a : Addr} (h : a ∈ st'.adr) : a ∈ st.adr ∨ H a = none := by
  by_cases m : a ∈ st.adr
  · exact .inl m
  · have := n a h
    rw [mns_out m] at this
    exact .inr this
/-! ### what waits, what is kept -/
def waitS (wd : Wd) (b : Nat) (sz : DD) : Nat := sumN (fun e => sumN (fun x => x.2 * W wd b x.1 e.1) e.2.2) sz
def keptS (b : Nat) (kp : DD) : Nat := sumN (fun e => if e.1 = b then sumN (fun x => x.2 * x.1) e.2.2 else 0) kp
def Lies (st : Fl) (s r : Nat) : Prop := ∃ e ∈ st.sz, e.1 = s ∧ r ∈ e.2.2.map (·.1)
def Fl.keys (st : Fl) : List Nat := st.sz.map (·.1)
/-! ### a grain is laid -/
def putSt (st : Fl) (L : Addr) (c : List (Nat × Nat)) (row s m : Nat) : Fl := { st with sz := setN st.sz s (L, addN c row m) }
/-- the list for a size: there, or new -/
def LyAt (H : Hp) (G : Hp) (st : Fl) (s : Nat) (L : Addr) (c : List (Nat × Nat)) : Prop := getN st.sz s = some (L, c) ∨ (getN st.sz s = none ∧ c = [] ∧ L ∉ st.adr ∧ G L = none)
theorem nodup_insert {α : Type} [DecidableEq α] {a b c : List α} {x : α} (h : (a ++ (b ++ c)).Nodup) (hx : x ∉ a ++ (b ++ c)) : (a ++ ((b ++ [x]) ++ c)).Nodup := by
  have e : a ++ ((b ++ [x]) ++ c) = (a ++ b) ++ x :: c := by simp
  have e2 : a ++ (b ++ c) = (a ++ b) ++ c := by simp
  rw [e]
  rw [e2] at h hx
  exact (List.perm_middle.nodup_iff).mpr (List.nodup_cons.mpr ⟨hx, h⟩)
theorem adr_put {L : Addr} {c : List (Nat × Nat)} {row s m : Nat} (l : LyAt H G st s L c) (nd : st.adr.Nodup) (ks : (st.sz.map (·.1)).Nodup) : (putSt st L c row s m).adr.Nodup ∧ ∀ a, a ∈ (putSt st L c row s m).adr ↔ a ∈ st.adr ∨ a = L := by
  rcases l with l | ⟨l, rfl, n1, _⟩
  · have e : (setN st.sz s (L, addN c row m)).map (·.2.1) = st.sz.map (·.2.1) := by
      unfold setN
      rw [if_pos (List.mem_map_of_mem (f := (·.1)) (getN_mem l)), List.map_map]
      refine List.map_congr_left fun x hx => ?_
      show (if x.1 = s then (s, (L, addN c row m)) else x).2.1 = x.2.1
      split
      · rename_i ex
        have := getN_of ks hx
        rw [ex, l] at this
        have := Option.some.inj this
        rw [← this]
      · rfl
    have ea : (putSt st L c row s m).adr = st.adr := by
      show st.F :: st.S :: st.Dn :: st.Kq :: ((setN st.sz s (L, addN c row m)).map (·.2.1) ++ st.kp.map (·.2.1)) = _
      rw [e] <;> rfl
    rw [ea]
    exact ⟨nd, fun a => ⟨.inl, fun z => z.elim id fun z => z ▸ Fl.ms (getN_mem l)⟩⟩
  · have e : (setN st.sz s (L, addN [] row m)).map (·.2.1) = st.sz.map (·.2.1) ++ [L] := by
      unfold setN
      rw [if_neg (getN_none.mp l), List.map_append] <;> rfl
    have ea : (putSt st L [] row s m).adr = [st.F, st.S, st.Dn, st.Kq] ++ ((st.sz.map (·.2.1) ++ [L]) ++ st.kp.map (·.2.1)) := by
      show st.F :: st.S :: st.Dn :: st.Kq :: ((setN st.sz s (L, addN [] row m)).map (·.2.1) ++ st.kp.map (·.2.1)) = _
      rw [e] <;> rfl
    rw [ea]
    refine ⟨nodup_insert nd n1, fun a => ?_⟩
    unfold Fl.adr
    simp only [List.mem_append, List.mem_cons, List.not_mem_nil, or_false]
    constructor
    · rintro (h | (h | h) | h)
      · rcases h with h | h | h | h
        · exact .inl (.inl h)
        · exact .inl (.inr (.inl h))
        · exact .inl (.inr (.inr (.inl h)))
        · exact .inl (.inr (.inr (.inr (.inl h))))
      · exact .inl (.inr (.inr (.inr (.inr (.inl h)))))
      · exact .inr h
      · exact .inl (.inr (.inr (.inr (.inr (.inr h)))))
    · rintro ((h | h | h | h | h | h) | h)
      · exact .inl (.inl h)
      · exact .inl (.inr (.inl h))
      · exact .inl (.inr (.inr (.inl h)))
      · exact .inl (.inr (.inr (.inr h)))
      · exact .inr (.inl (.inl h))
      · exact .inr (.inr h)
      · exact .inr (.inl (.inr h))
theorem keys_add {c : List (Nat × Nat)} {k m j : Nat} : j ∈ (addN c k m).map (·.1) ↔ j ∈ c.map (·.1) ∨ j = k := mem_key_setN
theorem len_lt {l : List (Nat × Nat)} {n : Nat} (h : (l.map (·.1)).Nodup) (hx : ∀ x ∈ l, x.1 < n) : l.length ≤ n := by
  have := nodup_le h (m := List.range n) fun k hk => by
    obtain ⟨x, hx', rfl⟩ := List.mem_map.mp hk
    exact List.mem_range.mpr (hx x hx')
  rw [List.length_map, List.length_range] at this
  exact this
theorem len_U {β : Type} {l : List (Nat × β)} {U : List Nat} (h : (l.map (·.1)).Nodup) (hx : ∀ x ∈ l, x.1 ∈ U) : l.length ≤ U.length := by
  have := nodup_le h (m := U) fun k hk => by
    obtain ⟨x, hx', rfl⟩ := List.mem_map.mp hk
    exact hx x hx'
  rw [List.length_map] at this
  exact this
theorem LyAt.c_ok {L : Addr} {c : List (Nat × Nat)} {s : Nat} (l : LyAt H G st s L c) (o : FlOk wd U st) : (c.map (·.1)).Nodup ∧ ∀ x ∈ c, x.1 < wd.rows.length := by
  rcases l with l | ⟨_, rfl, _⟩
  · exact (o.ku _ (getN_mem l)).2
  · exact ⟨List.nodup_nil, fun x h => by cases h⟩
theorem FA.put (f : FA K G H wd U st) {L : Addr} {c : List (Nat × Nat)} {row s m : Nat} (l : LyAt H G st s L c) (hr : row < wd.rows.length) (hs : s ∈ U) (gh : Same G H')
    (hL : H' L = some (.dK (enc encI (addN c row m)))) (hS : H' st.S = some (.dK (enc encR (setN st.sz s (L, addN c row m))))) (ho : ∀ a ∈ st.adr, a ≠ L → a ≠ st.S → H' a = H a) : FA K G H' wd U (putSt st L c row s m) := by
  obtain ⟨n1, n2⟩ := adr_put (row := row) (m := m) l f.nd f.ok.ks
  obtain ⟨c1, c2⟩ := l.c_ok f.ok
  have ne : ∀ {a b : Addr} (i j : Nat), (putSt st L c row s m).adr[i]? = some a → (putSt st L c row s m).adr[j]? = some b → i ≠ j → a ≠ b := fun {a b} i j h1 h2 hij z => by
    obtain ⟨a1, a2⟩ := List.getElem?_eq_some_iff.mp h1
    obtain ⟨b1, b2⟩ := List.getElem?_eq_some_iff.mp h2
    exact hij ((List.getElem_inj n1).mp (by rw [a2, b2, z]))
  have hfs : st.F ≠ st.S := ne 0 1 rfl rfl (by decide)
  have hds : st.Dn ≠ st.S := ne 2 1 rfl rfl (by decide)
  have hks : st.Kq ≠ st.S := ne 3 1 rfl rfl (by decide)
  have hm : (s, (L, addN c row m)) ∈ setN st.sz s (L, addN c row m) := mem_setN.mpr (.inr rfl)
  obtain ⟨i, hi, ei⟩ := List.mem_iff_getElem.mp hm
  have hLi : (putSt st L c row s m).adr[4 + i]? = some L := by
    show (st.F :: st.S :: st.Dn :: st.Kq :: ((setN st.sz s (L, addN c row m)).map (·.2.1) ++ st.kp.map (·.2.1)))[4 + i]? = _
    rw [show 4 + i = i + 1 + 1 + 1 + 1 by omega]
    simp only [List.getElem?_cons_succ]
    rw [List.getElem?_append_left (by rw [List.length_map]; exact hi), List.getElem?_map, List.getElem?_eq_getElem hi, ei] <;> rfl
  have lF : st.F ≠ L := ne 0 (4 + i) rfl hLi (by omega)
  have lS : st.S ≠ L := ne 1 (4 + i) rfl hLi (by omega)
  have lD : st.Dn ≠ L := ne 2 (4 + i) rfl hLi (by omega)
  have lK : st.Kq ≠ L := ne 3 (4 + i) rfl hLi (by omega)
  have sIn : ∀ e ∈ st.sz, e.2.1 ≠ st.S := fun e he z => by
    have := f.nd
    unfold Fl.adr at this
    rw [List.nodup_cons, List.nodup_cons] at this
    exact this.2.1 (by rw [← z]; exact List.mem_cons_of_mem _ (List.mem_cons_of_mem _ (List.mem_append_left _ (List.mem_map_of_mem (f := (·.2.1)) he))))
  have kIn : ∀ e ∈ st.kp, e.2.1 ≠ st.S := fun e he z => by
    have := f.nd
    unfold Fl.adr at this
    rw [List.nodup_cons, List.nodup_cons] at this
    exact this.2.1 (by rw [← z]; exact List.mem_cons_of_mem _ (List.mem_cons_of_mem _ (List.mem_append_right _ (List.mem_map_of_mem (f := (·.2.1)) he))))
  have kL : ∀ e ∈ st.kp, e.2.1 ≠ L := fun e he z => by
    obtain ⟨j, hj, ej⟩ := List.mem_iff_getElem.mp he
    refine ne (4 + i) (4 + (setN st.sz s (L, addN c row m)).length + j) hLi (b := e.2.1) ?_ (by omega) z.symm
    show (st.F :: st.S :: st.Dn :: st.Kq :: ((setN st.sz s (L, addN c row m)).map (·.2.1) ++ st.kp.map (·.2.1)))[4 + (setN st.sz s (L, addN c row m)).length + j]? = _
    rw [show 4 + (setN st.sz s (L, addN c row m)).length + j = ((setN st.sz s (L, addN c row m)).length + j) + 1 + 1 + 1 + 1 by omega]
    simp only [List.getElem?_cons_succ]
    rw [List.getElem?_append_right (by rw [List.length_map]; omega), List.length_map, Nat.add_sub_cancel_left, List.getElem?_map, List.getElem?_eq_getElem hj, ej] <;> rfl
  have oL : ∀ e ∈ st.sz, e.1 ≠ s → e.2.1 ≠ L := fun e he h1 z => by
    rcases l with l | ⟨l, _, n, _⟩
    · obtain ⟨j, hj, ej⟩ := List.mem_iff_getElem.mp he
      obtain ⟨j', hj', ej'⟩ := List.mem_iff_getElem.mp (getN_mem l)
      have := f.nd
      unfold Fl.adr at this
      have nz : (st.sz.map (·.2.1)).Nodup := by
        simp only [List.nodup_cons] at this
        exact (List.nodup_append.mp this.2.2.2.2).1
      have hjj : j = j' := by
        refine (List.getElem_inj nz (h₀ := by rw [List.length_map]; exact hj) (h₁ := by rw [List.length_map]; exact hj')).mp ?_
        rw [List.getElem_map, List.getElem_map, ej, ej', z]
      subst hjj
      rw [ej] at ej'
      rw [ej'] at h1
      exact h1 rfl
    · exact n (z ▸ Fl.ms he)
  refine ⟨gh, ?_, f.rw, hS, ?_, ?_, fun e he => ?_, fun e he => ?_, n1, fun a ha => ?_, ⟨nodup_setN f.ok.ks, fun e he => ?_, f.ok.dl, f.ok.di, f.ok.bk, f.ok.bb, f.ok.bu, f.ok.bc⟩⟩
  · show H' st.F = _
    rw [ho _ st.mF lF hfs]
    exact f.hF
  · show H' st.Dn = _
    rw [ho _ st.mD lD hds]
    exact f.hD
  · show H' st.Kq = _
    rw [ho _ st.mK lK hks]
    exact f.hK
  · rcases mem_setN.mp he with ⟨h1, h2⟩ | h1
    · rw [ho _ (Fl.ms h1) (oL e h1 h2) (sIn e h1)]
      exact f.hs e h1
    · rw [h1]
      exact hL
  · rw [ho _ (Fl.mk' he) (kL e he) (kIn e he)]
    exact f.hk e he
  · rcases (n2 a).mp ha with h | h
    · exact f.ga a h
    · rw [h]
      rcases l with l | ⟨_, _, _, n⟩
      · exact f.ga _ (Fl.ms (getN_mem l))
      · exact n
  · rcases mem_setN.mp he with ⟨h1, _⟩ | h1
    · exact f.ok.ku e h1
    · rw [h1]
      refine ⟨hs, nodup_setN c1, fun x hx => ?_⟩
      have hk : x.1 ∈ (addN c row m).map (·.1) := List.mem_map_of_mem (f := (·.1)) hx
      rcases keys_add.mp hk with h | h
      · obtain ⟨y, hy, e⟩ := List.mem_map.mp h
        rw [← e]
        exact c2 y hy
      · rw [h]
        exact hr
/-! ### what a laying comes to -/
structure PutR (wd : Wd) (st st' : Fl) (row s m : Nat) : Prop where
  F : st'.F = st.F
  wt : ∀ b, waitS wd b st'.sz = waitS wd b st.sz + m * W wd b row s
  kp : ∀ b, keptS b st'.kp = keptS b st.kp
  ly : ∀ q r, Lies st' q r → Lies st q r ∨ (q = s ∧ r = row)
  ke : ∀ q, q ∈ st'.keys → q ∈ st.keys ∨ q = s
theorem put_rel {L : Addr} {c : List (Nat × Nat)} {row s m : Nat} (l : LyAt H G st s L c) (o : FlOk wd U st) : PutR wd st (putSt st L c row s m) row s m := by
  obtain ⟨c1, c2⟩ := l.c_ok o
  have add : ∀ b, sumN (fun x => x.2 * W wd b x.1 s) (addN c row m) = sumN (fun x => x.2 * W wd b x.1 s) c + m * W wd b row s := fun b => sum_add (fun r => W wd b r s) c1
  refine ⟨rfl, fun b => ?_, fun _ => rfl, fun q r => ?_, fun q h => mem_key_setN.mp h⟩
  · show sumN _ (setN st.sz s (L, addN c row m)) = _
    have hb := add b
    rcases l with l | ⟨l, rfl, _⟩
    · have := sum_set_some (fun e : Nat × Addr × List (Nat × Nat) => sumN (fun x => x.2 * W wd b x.1 e.1) e.2.2) (v := (L, addN c row m)) o.ks l
      have this : sumN (fun e : Nat × Addr × List (Nat × Nat) => sumN (fun x => x.2 * W wd b x.1 e.1) e.2.2) (setN st.sz s (L, addN c row m)) + sumN (fun x => x.2 * W wd b x.1 s) c = waitS wd b st.sz + sumN (fun x => x.2 * W wd b x.1 s) (addN c row m) := this
      omega
    · rw [sum_set_none _ l]
      show waitS wd b st.sz + sumN (fun x => x.2 * W wd b x.1 s) (addN [] row m) = _
      rw [hb]
      show _ + (0 + _) = _
      omega
  · rintro ⟨e, he, rfl, hr⟩
    rcases mem_setN.mp he with ⟨h1, _⟩ | h1
    · exact .inl ⟨e, h1, rfl, hr⟩
    · rw [h1] at hr ⊢
      rcases keys_add.mp hr with h | h
      · rcases l with l | ⟨_, rfl, _⟩
        · exact .inl ⟨_, getN_mem l, rfl, h⟩
        · cases h
      · exact .inr ⟨rfl, h⟩
end
end Mw
namespace Mw
open PySem PySem.Spec PyProof.Rows L2
section
variable {X : Cx} {x m : Str} {k : Nat} {ps : List Str} {sp : Sp} {p pos apos : Pos} {e o : Expr} {es : List Expr} {t : TA} {ta : TE} {C f : Addr}
theorem pe_mt {pl : Sem Bool} (c : Cls X.K C) (hm : Meth X.K C m f) (M : CalM X.prog X.w X.K X.mg X.base f k ps sp) (hr : Room k X.A) (he : PE X o ta) (ha : PA X (e :: es) t)
    (hst : starEach (e :: es) X.env = (false, eval e X.env) :: starEach es X.env := by rfl) (hpl : (backTo pos (starEach es X.env)).any (·.1) = false := by rfl)
    (ht : eval (.Call (.Attribute o m apos) (e :: es) [] pos) X.env = (do
      let ov ← eval o X.env
      standAt apos.atName
      let (f, first) ← holding [ov] (getMethod ov m pl)
      callWith pos f first (backTo pos (starEach (e :: es) X.env)) (backToKw pos (keywordEach [] X.env))) := by rfl) :
    PE X (.Call (.Attribute o m apos) (e :: es) [] pos) (tMeth C m sp [] E0 ta t) := by
  obtain ⟨fd, F, b⟩ := M.ex
  exact pe_meth (pl := pl) he c hm F hr b .nil pass0 ha hst hpl ht
theorem pe_mt0 {pl : Sem Bool} (c : Cls X.K C) (hm : Meth X.K C m f) (M : CalM X.prog X.w X.K X.mg X.base f k ps sp) (hr : Room k X.A) (he : PE X o ta)
    (ht : eval (.Call (.Attribute o m apos) [] [] pos) X.env = (do
      let ov ← eval o X.env
      standAt apos.atName
      let (f, first) ← holding [ov] (getMethod ov m pl)
      callWith pos f first (backTo pos (starEach [] X.env)) (backToKw pos (keywordEach [] X.env))) := by rfl) :
    PE X (.Call (.Attribute o m apos) [] [] pos) (tMeth C m sp [] E0 ta tNil) := by
  obtain ⟨fd, F, b⟩ := M.ex
  exact pe_meth0 (pl := pl) he c hm F hr b .nil pass0 ht
theorem pe_mkC (M : Mk X.K C f) (hm : X.mg x = some (.ref C)) (c : CalM X.prog X.w X.K X.mg X.base f k ps sp) (hr : Room (k + 1) X.A) (ha : PA X (e :: es) t) (hg : Gl X x := by rfl)
    (hdb : (x == ("__debug__" : Str)) = false := by decide) (he : starEach (e :: es) X.env = (false, eval e X.env) :: starEach es X.env := by rfl) (hpl : (backTo pos (starEach es X.env)).any (·.1) = false := by rfl) :
    PE X (.Call (.Name x p) (e :: es) [] pos) (tMake C sp [] E0 t) := by
  obtain ⟨fd, F, b⟩ := c.ex
  exact pe_make M F hr hg hm b .nil pass0 ha hdb he hpl
end
section
variable {K : PySem.W.Frag} {mg : Str → Option Value} {base : Heap} {σ : L2.St} {G H G' H' : Hp} {wd : Wd} {U : List Nat} {st : Fl} {te tb ty tz : TE} {Q : VK}
/-- a Flow's field -/
theorem fl_fld {i : Nat} {f : Str} {v : V} {u : V} {C dx : Addr} {fs : List (Str × V)} {a : Addr} (hi : σ[i]? = some (some (.ref a))) (hF : H a = some (.ins C dx fs)) (c : Cls K C) (n : NoAttr K C f) (l : fs.lookup f = some v) (q : Q v H) : tFld K (tVar i) f σ H Q :=
  ⟨.ref a, hi, a, C, dx, fs, v, rfl, hF, c, n, l, q⟩
theorem FA.step {G2 H2 : Hp} {st' st2 : Fl} (f : FA K G H wd U st) (f' : FA K G' H' wd U st') (s : Stp K G (mns H st.adr) G' H') (n : Nw H st st') (s' : Stp K G' (mns H' st'.adr) G2 H2) (n' : Nw H' st' st2) : Stp K G (mns H st.adr) G2 H2 ∧ Nw H st st2 := by
  refine ⟨(f'.min s fun a ha => n a ha).trans s', fun a ha => ?_⟩
  rcases n'.at_ ha with h | h
  · exact n a h
  · exact s.free h
/-! ### the rows told -/
def doneSt (st : Fl) (row : Nat) (v : V) : Fl := { st with dn := st.dn.set row v }
theorem FA.done (f : FA K G H wd U st) {row : Nat} {m : Nat} (gh : Same G (upd H st.Dn (.lst (st.dn.set row (.int (m : Int)))))) : FA K G (upd H st.Dn (.lst (st.dn.set row (.int (m : Int))))) wd U (doneSt st row (.int (m : Int))) := by
  have nd := f.nd
  have nd2 := nd
  unfold Fl.adr at nd
  simp only [List.nodup_cons, List.mem_cons, List.mem_append, not_or] at nd
  have ne : ∀ {a : Addr}, a ∈ st.adr → a ≠ st.Dn → (upd H st.Dn (.lst (st.dn.set row (.int (m : Int))))) a = H a := fun _ h => upd_ne h
  have hs : ∀ e ∈ st.sz, e.2.1 ≠ st.Dn := fun e he z => nd.2.2.1.2.1 (by rw [← z]; exact List.mem_map_of_mem (f := (·.2.1)) he)
  have hk : ∀ e ∈ st.kp, e.2.1 ≠ st.Dn := fun e he z => nd.2.2.1.2.2 (by rw [← z]; exact List.mem_map_of_mem (f := (·.2.1)) he)
  refine ⟨gh, ?_, f.rw, ?_, upd_same, ?_, fun e he => ?_, fun e he => ?_, nd2, f.ga, ⟨f.ok.ks, f.ok.ku, ?_, ?_, f.ok.bk, f.ok.bb, f.ok.bu, f.ok.bc⟩⟩
  · exact (ne st.mF fun z => nd.1.2.1 z).trans f.hF
  · exact (ne st.mS fun z => nd.2.1.1 z).trans f.hS
  · exact (ne st.mK fun z => nd.2.2.1.1 z.symm).trans f.hK
  · exact (ne (Fl.ms he) (hs e he)).trans (f.hs e he)
  · exact (ne (Fl.mk' he) (hk e he)).trans (f.hk e he)
  · show (st.dn.set row _).length = _
    rw [List.length_set]
    exact f.ok.dl
  · intro v hv
    rcases List.mem_or_eq_of_mem_set hv with h | h
    · exact f.ok.di v h
    · exact ⟨m, h⟩
/-! ### what is kept grows -/
def keepSt (st : Fl) (b : Nat) (B : Addr) (c : List (Nat × Nat)) (s m : Nat) : Fl := { st with kp := setN st.kp b (B, addN c s m) }
theorem enc_keep {st : Fl} {b : Nat} {B : Addr} {c c' : List (Nat × Nat)} (nd : (st.kp.map (·.1)).Nodup) (l : getN st.kp b = some (B, c)) : enc encR (setN st.kp b (B, c')) = enc encR st.kp ∧ (setN st.kp b (B, c')).map (·.2.1) = st.kp.map (·.2.1) := by
  unfold setN
  rw [if_pos (List.mem_map_of_mem (f := (·.1)) (getN_mem l))]
  have key : ∀ x ∈ st.kp, x.1 = b → x.2 = (B, c) := fun x hx e => by
    have := getN_of nd hx
    rw [e, l] at this
    exact (Option.some.inj this).symm
  constructor
  · unfold enc
    rw [List.map_map]
    refine List.map_congr_left fun x hx => ?_
    show ((.inl (((if x.1 = b then (b, (B, c')) else x).1 : Nat) : Int) : Key), encR (if x.1 = b then (b, (B, c')) else x).2) = _
    split
    · rename_i e
      rw [key x hx e, e]
    · rfl
  · rw [List.map_map]
    refine List.map_congr_left fun x hx => ?_
    show (if x.1 = b then (b, (B, c')) else x).2.1 = x.2.1
    split
    · rename_i e
      rw [key x hx e]
    · rfl
theorem FA.keep (f : FA K G H wd U st) {b s m : Nat} {B : Addr} {c : List (Nat × Nat)} (l : getN st.kp b = some (B, c)) (hs : s ∈ U) (gh : Same G (upd H B (.dK (enc encI (addN c s m))))) : FA K G (upd H B (.dK (enc encI (addN c s m)))) wd U (keepSt st b B c s m) ∧ (keepSt st b B c s m).adr = st.adr := by
  have hm := getN_mem l
  have hB : B ∈ st.adr := Fl.mk' hm
  obtain ⟨e1, e2⟩ := enc_keep (c' := addN c s m) f.ok.bk l
  have ea : (keepSt st b B c s m).adr = st.adr := by
    show st.F :: st.S :: st.Dn :: st.Kq :: (st.sz.map (·.2.1) ++ (setN st.kp b (B, addN c s m)).map (·.2.1)) = _
    rw [e2] <;> rfl
  have nd := f.nd
  unfold Fl.adr at nd
  have nd1 := nd
  simp only [List.nodup_cons, List.mem_cons, List.mem_append, not_or] at nd
  have hBk : B ∈ st.kp.map (·.2.1) := List.mem_map_of_mem (f := (·.2.1)) hm
  have nk := (List.nodup_append.mp nd.2.2.2.2).2.1
  have dj := (List.nodup_append.mp nd.2.2.2.2).2.2
  have nB : ∀ {a : Addr}, a ≠ B → (upd H B (.dK (enc encI (addN c s m)))) a = H a := fun h => upd_ne h
  obtain ⟨c1, c2⟩ := f.ok.bu _ hm
  refine ⟨⟨gh, ?_, f.rw, ?_, ?_, ?_, fun e he => ?_, fun e he => ?_, by rw [ea]; exact f.nd, by rw [ea]; exact f.ga, ⟨f.ok.ks, f.ok.ku, f.ok.dl, f.ok.di, nodup_setN f.ok.bk, fun b' hb' => mem_key_setN.mpr (.inl (f.ok.bb b' hb')), fun e he => ?_, fun b' hb' => (mem_key_setN.mp hb').elim (f.ok.bc b') fun z => by rw [z]; exact f.ok.bc b (List.mem_map_of_mem (f := (·.1)) hm)⟩⟩, ea⟩
  · exact (nB fun z : st.F = B => nd.1.2.2.2.2 (by rw [z]; exact hBk)).trans f.hF
  · exact (nB fun z : st.S = B => nd.2.1.2.2.2 (by rw [z]; exact hBk)).trans f.hS
  · exact (nB fun z : st.Dn = B => nd.2.2.1.2.2 (by rw [z]; exact hBk)).trans f.hD
  · show (upd H B _) st.Kq = some (.dK (enc encR (setN st.kp b (B, addN c s m))))
    rw [e1]
    exact (nB fun z : st.Kq = B => nd.2.2.2.1.2 (by rw [z]; exact hBk)).trans f.hK
  · exact (nB fun z => dj _ (List.mem_map_of_mem (f := (·.2.1)) he) _ hBk z).trans (f.hs e he)
  · rcases mem_setN.mp he with ⟨h1, h2⟩ | h1
    · refine (nB fun z => ?_).trans (f.hk e h1)
      obtain ⟨j, hj, ej⟩ := List.mem_iff_getElem.mp h1
      obtain ⟨j', hj', ej'⟩ := List.mem_iff_getElem.mp hm
      have hjj : j = j' := by
        refine (List.getElem_inj nk (h₀ := by rw [List.length_map]; exact hj) (h₁ := by rw [List.length_map]; exact hj')).mp ?_
        rw [List.getElem_map, List.getElem_map, ej, ej', z]
      subst hjj
      rw [ej] at ej'
      rw [ej'] at h2
      exact h2 rfl
    · rw [h1]
      exact upd_same
  · rcases mem_setN.mp he with ⟨h1, _⟩ | h1
    · exact f.ok.bu e h1
    · rw [h1]
      refine ⟨nodup_setN c1, fun x hx => ?_⟩
      have hk : x.1 ∈ (addN c s m).map (·.1) := List.mem_map_of_mem (f := (·.1)) hx
      rcases keys_add.mp hk with h | h
      · obtain ⟨y, hy, e⟩ := List.mem_map.mp h
        rw [← e]
        exact c2 y hy
      · rw [h]
        exact hs
theorem kept_add {st : Fl} {b b' s m : Nat} {B : Addr} {c : List (Nat × Nat)} (o : FlOk wd U st) (l : getN st.kp b = some (B, c)) : keptS b' (keepSt st b B c s m).kp = keptS b' st.kp + if b = b' then m * s else 0 := by
  have h1 := sum_set_some (fun e : Nat × Addr × List (Nat × Nat) => if e.1 = b' then sumN (fun x => x.2 * x.1) e.2.2 else 0) (v := (B, addN c s m)) o.bk l
  have h2 := sum_add (m := m) (k := s) (fun r => r) (o.bu _ (getN_mem l)).1
  have h1 : keptS b' (setN st.kp b (B, addN c s m)) + (if b = b' then sumN (fun x => x.2 * x.1) c else 0) = keptS b' st.kp + (if b = b' then sumN (fun x => x.2 * x.1) (addN c s m) else 0) := h1
  have h2 : sumN (fun x : Nat × Nat => x.2 * x.1) (addN c s m) = sumN (fun x => x.2 * x.1) c + m * s := h2
  show keptS b' (setN st.kp b (B, addN c s m)) = _
  split at h1
  · rename_i e
    rw [if_pos e]
    omega
  · rename_i e
    rw [if_neg e]
    omega
end
/-- all grains of a size on a row have gone on -/
structure TakeR (wd : Wd) (st st' : Fl) (row s m : Nat) : Prop where
  F : st'.F = st.F
  wt : ∀ b, waitS wd b st'.sz + keptS b st'.kp = waitS wd b st.sz + keptS b st.kp + m * W wd b row s
  ly : ∀ q r, Lies st' q r → Lies st q r ∨ ∃ x ∈ goes wd row s, x.b = q ∧ x.a = r
  ke : ∀ q, q ∈ st'.keys → q ∈ st.keys ∨ ∃ x ∈ goes wd row s, x.b = q
abbrev spTake (K : PySem.W.Frag) : Sp := fun vs H Q _ => ∃ G wd U st, ∃ (row s m : Nat), vs = [.ref st.F, .int (row : Int), .int (s : Int), .int (m : Int)] ∧ FA K G H wd U st ∧ Uni wd U ∧ Good wd ∧ row < wd.rows.length ∧ s ∈ U ∧
  ∀ G' H' st', Stp K G (mns H st.adr) G' H' → FA K G' H' wd U st' → Nw H st st' → TakeR wd st st' row s m → Q .non H'
abbrev spPut (K : PySem.W.Frag) : Sp := fun vs H Q _ => ∃ G wd U st, ∃ (row s m : Nat), vs = [.ref st.F, .int (row : Int), .int (s : Int), .int (m : Int)] ∧ FA K G H wd U st ∧ Uni wd U ∧ wd.rows.length ≤ 12 ∧ row < wd.rows.length ∧ s ∈ U ∧
  ∀ G' H' st', Stp K G (mns H st.adr) G' H' → FA K G' H' wd U st' → Nw H st st' → PutR wd st st' row s m → Q .non H'
end Mw
namespace Mw
open PySem PySem.Spec PyProof.Rows L2
section
variable {P : Program} {w : World} {K : PySem.W.Frag} {mg : Str → Option Value} {base : Heap}
theorem c_Flow_put (h : HasM K (CF K) d_Flow_put) (T : Tx K mg base) : CalM P w K mg base (He.ma K (CF K) "put") 1 ["self", "row", "size", "many"] (spPut K) := by
  refine h.cal sc_Flow_put (fun _ _ _ _ _ _ us hl => match us, hl with | [_, _, _, _], _ => rfl) (fun vs H Q E h => ?_) (fun f cdv A outer s0 H vs Q E hr h => ?_)
  · obtain ⟨_, _, _, _, _, _, _, rfl, _⟩ := h
    rfl
  · have hu := hu_of hr
    obtain ⟨G, wd, U, st, row, s, m, rfl, fa, un, n12, hrow, hs, q⟩ := h
    refine ⟨_, (pss_cons (ps_set (i := 4) sc_Flow_put.nd rfl (.inl rfl) (pe_dget2 hu (fldK K (pv 0)) (pv 2) pe_dnewK ⟨rfl, rfl, rfl, rfl⟩))
      (pss_cons (ps_dput hu (pv 4) (pv 1) (pe_op op_add (pe_dget2 hu (pv 4) (pv 1) pe_int ⟨rfl, rfl, rfl, rfl⟩) (pv 3)) rfl)
      (pss_one (ps_dput hu (fldK K (pv 0)) (pv 2) (pv 4) rfl)))), ?_⟩
    have szl : st.sz.length ≤ 20000 := Nat.le_trans (len_U fa.ok.ks fun x hx => (fa.ok.ku x hx).1) un.ln
    -- lying
    refine ⟨.ref st.F, rfl, st.F, CF K, st.dx, _, .ref st.S, rfl, fa.hF, T.clF, T.nF_sizes, rfl, ?_⟩
    refine ⟨st.S, rfl, .inl ⟨_, .inl fa.hS⟩, .int (s : Int), rfl, fun p hp => ⟨_, DGet.k (k := .inl (s : Int)) (by rw [upd_ne (ne_of_none fa.hS hp)]; exact fa.hS), ?_⟩⟩
    have pn : p ∉ st.adr := fun z => by
      obtain ⟨u, h1, _⟩ := fa.some_ z
      rw [h1] at hp
      cases hp
    have gp : G p = none := fa.gh.free hp
    have ly : ∃ L c, LyAt H G st s L c ∧ (valV (enc encR st.sz) (.inl (s : Int))).getD (.ref p) = .ref L ∧ (L = p ∨ L ∈ st.adr) ∧ (upd H p (.dK [])) L = some (.dK (enc encI c)) := by
      rw [valV_enc]
      cases g : getN st.sz s with
      | none => exact ⟨p, [], .inr ⟨g, rfl, pn, gp⟩, rfl, .inl rfl, upd_same⟩
      | some y =>
        have hm := getN_mem g
        refine ⟨y.1, y.2, .inl g, rfl, .inr (Fl.ms hm), ?_⟩
        rw [upd_ne fun z : y.1 = p => pn (by rw [← z]; exact Fl.ms hm)]
        exact fa.hs _ hm
    obtain ⟨L, c, l, e1, hLp, hL⟩ := ly
    rw [e1]
    obtain ⟨c1, c2⟩ := l.c_ok fa.ok
    have cl := len_lt c1 c2
    obtain ⟨n1, n2⟩ := adr_put (row := row) (m := m) l fa.nd fa.ok.ks
    have s1 : Stp K G (mns H st.adr) G (upd H p (.dK [])) := fa.base.trans (Stp.raw fa.gh hp)
    have nL : mns H st.adr L = none := by
      rcases hLp with z | z
      · rw [z, mns_out pn]
        exact hp
      · exact mns_in z
    have gL : G L = none := by
      rcases hLp with z | z
      · rw [z]
        exact gp
      · exact fa.ga L z
    -- lying[row]
    refine ⟨.ref L, rfl, L, rfl, .inl ⟨_, .inl hL⟩, .int (row : Int), rfl, _, DGet.k (k := .inl (row : Int)) hL, .int (m : Int), rfl, ?_⟩
    rw [valV_enc]
    refine ⟨(((getN c row).getD 0 : Nat) : Int), (m : Int), ?_, rfl, .ref L, rfl, .int (row : Int), rfl, L, _, rfl, DPut.k (k := .inl (row : Int)) hL (sz_lt (by unfold enc; rw [List.length_map]; omega)), ?_⟩
    · cases getN c row <;> rfl
    have ev : V.int ((((getN c row).getD 0 : Nat) : Int) + (m : Int)) = encI ((getN c row).getD 0 + m) := by
      show V.int _ = V.int _
      rw [Int.natCast_add]
    have ep : putK (enc encI c) (.inl (row : Int)) (V.int ((((getN c row).getD 0 : Nat) : Int) + (m : Int))) = enc encI (addN c row m) := by
      rw [ev, putK_enc] <;> rfl
    have hS2 : (upd (upd H p (.dK [])) L (.dK (enc encI (addN c row m)))) st.S = some (.dK (enc encR st.sz)) := by
      have sL : st.S ≠ L := by
        rcases hLp with z | z
        · rw [z]
          exact fun z => pn (z ▸ st.mS)
        · rcases l with l | ⟨l, _, n, _⟩
          · intro z
            have := fa.hs _ (getN_mem l)
            rw [← z] at this
            have nd := fa.nd
            unfold Fl.adr at nd
            rw [List.nodup_cons, List.nodup_cons] at nd
            exact nd.2.1 (by rw [z]; exact List.mem_cons_of_mem _ (List.mem_cons_of_mem _ (List.mem_append_left _ (List.mem_map_of_mem (f := (·.2.1)) (getN_mem l)))))
          · exact absurd z n
      rw [upd_ne sL, upd_ne fun z : st.S = p => pn (z ▸ st.mS)]
      exact fa.hS
    have hF2 : (upd (upd H p (.dK [])) L (.dK (enc encI (addN c row m)))) st.F = some (.ins (CF K) st.dx [("works", st.vw), ("sizes", .ref st.S), ("done", .ref st.Dn), ("kept", .ref st.Kq)]) := by
      have sL : st.F ≠ L := by
        rcases hLp with z | z
        · rw [z]
          exact fun z => pn (z ▸ st.mF)
        · rcases l with l | ⟨l, _, n, _⟩
          · intro z
            have := fa.hs _ (getN_mem l)
            rw [← z, fa.hF] at this
            cases this
          · exact absurd z n
      rw [upd_ne sL, upd_ne fun z : st.F = p => pn (z ▸ st.mF)]
      exact fa.hF
    rw [show putK (enc encI c) (.inl (row : Int)) ((fun i j : Int => V.int (i + j)) (((getN c row).getD 0 : Nat) : Int) (m : Int)) = enc encI (addN c row m) from ep]
    refine ⟨.ref L, rfl, .ref st.F, rfl, st.F, CF K, st.dx, _, .ref st.S, rfl, hF2, T.clF, T.nF_sizes, rfl, .int (s : Int), rfl, st.S, _, rfl, DPut.k (k := .inl (s : Int)) hS2 (sz_lt (by unfold enc; rw [List.length_map]; omega)), ?_⟩
    have ep2 : putK (enc encR st.sz) (.inl (s : Int)) (V.ref L) = enc encR (setN st.sz s (L, addN c row m)) := putK_enc encR s (L, addN c row m) st.sz
    rw [ep2]
    have nS : mns H st.adr st.S = none := mns_in st.mS
    have s2 : Stp K G (mns H st.adr) G (upd (upd H p (.dK [])) L (.dK (enc encI (addN c row m)))) := s1.put nL gL hL (fun _ z => by cases z) (fun _ z => by cases z)
    have s3 : Stp K G (mns H st.adr) G (upd (upd (upd H p (.dK [])) L (.dK (enc encI (addN c row m)))) st.S (.dK (enc encR (setN st.sz s (L, addN c row m))))) := s2.put nS (fa.ga _ st.mS) hS2 (fun _ z => by cases z) (fun _ z => by cases z)
    have neLS : L ≠ st.S := fun z => by
      rw [← z, upd_same] at hS2
      have := fa.hS
      rcases hLp with e | e
      · exact pn (by rw [← e, z]; exact st.mS)
      · rcases l with l | ⟨l, _, n, _⟩
        · have nd := fa.nd
          unfold Fl.adr at nd
          rw [List.nodup_cons, List.nodup_cons] at nd
          exact nd.2.1 (by rw [← z]; exact List.mem_cons_of_mem _ (List.mem_cons_of_mem _ (List.mem_append_left _ (List.mem_map_of_mem (f := (·.2.1)) (getN_mem l)))))
        · exact n e
    refine q G _ (putSt st L c row s m) s3 (fa.put l hrow hs s3.gh ?_ upd_same fun a ha h1 h2 => ?_) (fun a ha => ?_) (put_rel l fa.ok)
    · rw [upd_ne neLS, upd_same]
    · rw [upd_ne h2, upd_ne h1, upd_ne fun z : a = p => pn (z ▸ ha)]
    · rcases (n2 a).mp ha with z | z
      · exact mns_in z
      · rw [z]
        exact nL
end
end Mw
namespace Mw
open PySem PySem.Spec PyProof.Rows L2
section
variable {K : PySem.W.Frag} {mg : Str → Option Value} {base : Heap} {σ : L2.St} {G H : Hp} {ta tb tc : TE} {α β γ δ : Type} [Rep α] [Rep β] [Rep γ] [Rep δ] {x : α} {y : β} {z : γ} {wd : Wd} {U : List Nat} {st : Fl}
theorem ea_works {i : Nat} (T : Tx K mg base) (hi : σ[i]? = some (some (.ref st.F))) (f : FA K G H wd U st) : EA K (tFld K (tVar i) "works") σ G H wd := fun Q q =>
  ⟨.ref st.F, hi, st.F, CF K, st.dx, _, st.vw, rfl, f.hF, T.clF, T.nF_works, rfl, q st.vw G H (Stp.refl f.gh) f.rw⟩
theorem ea_rows (T : Tx K mg base) (ha : EA K ta σ G H wd) : EA K (tFld K ta "rows") σ G H wd.rows := fun Q q => ha _ fun v G2 H2 s ⟨p, dx, r, e1, e2, e3⟩ =>
  ⟨p, CW K, dx, _, _, e1, s.gh _ _ e2, T.clW, T.nW_rows, rfl, q _ G2 H2 s e3⟩
theorem ea_parts (T : Tx K mg base) (ha : EA K ta σ G H wd) : EA K (tFld K ta "parts") σ G H wd.p := fun Q q => ha _ fun v G2 H2 s ⟨p, dx, r, e1, e2, e3⟩ =>
  ⟨p, CW K, dx, _, _, e1, s.gh _ _ e2, T.clW, T.nW_parts, rfl, q _ G2 H2 s rfl⟩
theorem ea_ixN {l : List α} {i : Int} {j : Nat} (ha : EA K ta σ G H l) (hb : ∀ G2, Same G G2 → Ev K tb σ G2 i) (e : i = (j : Int)) (h : l[j]? = some x) : EA K (tOp (rIxL K) ta tb) σ G H x := fun Q q =>
  ha _ fun v G2 H2 s ⟨p, vs, e1, e2, e3⟩ => (hb G2 s.gg).at_ s.gh _ fun w G3 H3 s3 r3 => by
    obtain ⟨u, h1, h2⟩ := e3.get h
    exact ⟨p, vs, i, u, e1, r3, SqL.of (s3.gh _ _ (s3.gg _ _ e2)), by rw [e]; exact atI_nat h1, q u G3 H3 (s.trans s3) (Rep.mono s3.gg h2)⟩
theorem ea_3 {E : XK} {pre : α → β → γ → Prop} {f : α → β → γ → δ} (h1 : EA K ta σ G H x) (h2 : ∀ G2, Same G G2 → Ev K tb σ G2 y) (h3 : ∀ G2, Same G G2 → Ev K tc σ G2 z) (hp : pre x y z) : EA K (tCall (sp3 K pre f) [] E (tCons ta (tCons tb (tCons tc tNil)))) σ G H (f x y z) := fun Q q =>
  h1 _ fun v G2 H2 s r => (h2 G2 s.gg).at_ s.gh _ fun v2 G3 H3 s2 r2 => (h3 G3 (s.gg.trans s2.gg)).at_ s2.gh _ fun v3 G4 H4 s3 r3 =>
    ⟨G4, v, v2, v3, x, y, z, rfl, s3.gh, Rep.mono (s2.gg.trans s3.gg) r, Rep.mono s3.gg r2, r3, hp, fun w G' H' s' r' => q w G' H' (((s.trans s2).trans s3).trans s') r'⟩
end
section
variable {P : Program} {w : World} {K : PySem.W.Frag} {mg : Str → Option Value} {base : Heap}
/-- the grains laid on so far -/
structure TkI (K : PySem.W.Frag) (G H : Hp) (wd : Wd) (U : List Nat) (st : Fl) (row s m : Nat) (i : Nat) (G' H' : Hp) (st' : Fl) : Prop where
  s_ : Stp K G (mns H st.adr) G' H'
  f : FA K G' H' wd U st'
  n : Nw H st st'
  F : st'.F = st.F
  wt : ∀ b, waitS wd b st'.sz + keptS b st'.kp = waitS wd b st.sz + keptS b st.kp + m * own wd b row s + m * wsum wd b ((goes wd row s).take i)
  ly : ∀ q r, Lies st' q r → Lies st q r ∨ ∃ x ∈ goes wd row s, x.b = q ∧ x.a = r
  ke : ∀ q, q ∈ st'.keys → q ∈ st.keys ∨ ∃ x ∈ goes wd row s, x.b = q
theorem c_Flow_take_all (h : HasM K (CF K) d_Flow_take_all) (T : Tx K mg base) (c_goes_on : Cal P w K mg base "goes_on" 2 ["works", "row", "size"] (spGoes K)) (c_Flow_put : CalM P w K mg base (He.ma K (CF K) "put") 1 ["self", "row", "size", "many"] (spPut K)) :
    CalM P w K mg base (He.ma K (CF K) "take_all") 3 ["self", "row", "size", "many"] (spTake K) := by
  refine h.cal sc_Flow_take_all (fun _ _ _ _ _ _ us hl => match us, hl with | [_, _, _, _], _ => rfl) (fun vs H Q E h => ?_) (fun f cdv A outer s0 H vs Q E hr h => ?_)
  · obtain ⟨_, _, _, _, _, _, _, rfl, _⟩ := h
    rfl
  · have hu := hu_of hr
    obtain ⟨G, wd, U, st, row, s, m, rfl, fa, un, g, hrow, hs, q⟩ := h
    refine ⟨_, (pss_cons (ps_asg (pe_op op_add (pe_ix (ixL K) (fldK K (pv 0)) (pv 1) (fun _ _ => rfl)) (pv 3)) (pg_sub (fldK K (pv 0)) (pv 1) set_list))
      (pss_cons (ps_set (i := 4) sc_Flow_take_all.nd rfl (.inl rfl) (pe_ix (ixL K) (fldK K (fldK K (pv 0))) (pv 1) (fun _ _ => rfl)))
      (pss_cons (ps_if (pt_cmpR op_eq (pe_ix (ixT K) (pv 4) pe_int (fun _ _ => rfl)) pe_str (nomark _)) (pss_cons (ps_set (i := 5) sc_Flow_take_all.nd rfl (.inl rfl) (pe_dget hu (fldK K (pv 0)) (pe_ix (ixT K) (pv 4) pe_int (fun _ _ => rfl)) (fun _ _ => rfl)))
      (pss_one (ps_dput hu (pv 5) (pv 2) (pe_op op_add (pe_dget2 hu (pv 5) (pv 2) pe_int ⟨rfl, rfl, rfl, rfl⟩) (pv 3)) rfl))) pss_nil)
      (pss_one (ps_for PassesOwn.never rfl (pi_list (pe_c c_goes_on (hr.mono (by decide)) (pa_cons (fldK K (pv 0)) (pa_cons (pv 1) (pa_cons (pv 2) pa_nil))))) (pg_tup rfl (pgs_cons (pg_name (i := 6) sc_Flow_take_all.nd rfl (.inl rfl)) (pgs_cons (pg_name (i := 7) sc_Flow_take_all.nd rfl (.inl rfl)) (pgs_cons (pg_name (i := 8) sc_Flow_take_all.nd rfl (.inl rfl)) pgs_nil)))) (pss_one (ps_expr (pe_mt T.clF T.mF_put c_Flow_put (hr.mono (by decide)) (pv 0) (pa_cons (pv 6) (pa_cons (pv 7) (pa_cons (pe_op op_mul (pv 8) (pv 3)) pa_nil))))))))))), ?_⟩
    obtain ⟨u1, u2⟩ := un.lt s hs
    have pok : 0 < wd.p ∧ wd.p < 1000 ∧ s < 2 ^ 60 := ⟨by have := g.p2; omega, by have := g.p9; omega, by omega⟩
    have hdl : row < st.dn.length := by rw [fa.ok.dl]; exact hrow
    obtain ⟨dv, hdv⟩ := fa.ok.di _ (List.getElem_mem hdl)
    -- done
    refine ⟨.ref st.F, rfl, st.F, CF K, st.dx, _, .ref st.Dn, rfl, fa.hF, T.clF, T.nF_done, rfl, .int (row : Int), rfl, st.Dn, st.dn, (row : Int), .int (dv : Int), rfl, rfl, SqL.of fa.hD, atI_nat (by rw [List.getElem?_eq_getElem hdl, hdv]), .int (m : Int), rfl, (dv : Int), (m : Int), rfl, rfl, ?_⟩
    refine ⟨.ref st.F, rfl, st.F, CF K, st.dx, _, .ref st.Dn, rfl, fa.hF, T.clF, T.nF_done, rfl, .int (row : Int), rfl, st.Dn, st.dn, (row : Int), row, rfl, rfl, fa.hD, ?_, ?_⟩
    · unfold ixN
      rw [if_pos (by omega), if_pos (by omega)] <;> rfl
    have ev : V.int ((dv : Int) + (m : Int)) = V.int ((dv + m : Nat) : Int) := by rw [Int.natCast_add]
    rw [show (fun i j : Int => V.int (i + j)) (dv : Int) (m : Int) = V.int ((dv + m : Nat) : Int) from ev]
    have s1 : Stp K G (mns H st.adr) G (upd H st.Dn (.lst (st.dn.set row (.int ((dv + m : Nat) : Int))))) := fa.base.put (mns_in st.mD) (fa.ga _ st.mD) fa.hD (fun _ z => by cases z) (fun _ z => by cases z)
    have fa1 := fa.done (m := dv + m) s1.gh
    generalize hst1 : doneSt st row (.int ((dv + m : Nat) : Int)) = st1 at fa1
    have a1 : st1.adr = st.adr := by rw [← hst1]; rfl
    have F1 : st1.F = st.F := by rw [← hst1]; rfl
    have z1 : st1.sz = st.sz := by rw [← hst1]; rfl
    have k1 : st1.kp = st.kp := by rw [← hst1]; rfl
    generalize (upd H st.Dn (.lst (st.dn.set row (.int ((dv + m : Nat) : Int))))) = H1 at s1 fa1
    have hrowE := List.getElem?_eq_getElem hrow
    -- told
    refine qA_set (K := K) (ea_ixN (ea_rows T (ea_works (st := st1) T (by rw [F1]; rfl) fa1)) (fun G2 s => ev_nI (ev_var (x := row) rfl)) rfl hrowE) fun v4 G2 H2 s2 r4 => ?_
    have fa2 := fa1.on s2
    have t2 := s1.trans s2
    have own0 : ∀ b, (∀ k, wd.rows[row]? ≠ some (.bin k)) → own wd b row s = 0 := fun b hn => by
      unfold own
      rw [if_neg (hn b)]
    have init : ∀ st2 G2 H2, Stp K G (mns H st.adr) G2 H2 → FA K G2 H2 wd U st2 → st2.F = st.F → st2.adr = st.adr → (∀ b, waitS wd b st2.sz + keptS b st2.kp = waitS wd b st.sz + keptS b st.kp + m * own wd b row s) → st2.sz = st.sz → TkI K G H wd U st row s m 0 G2 H2 st2 := fun st2 G2 H2 s f eF ea ew ez =>
      ⟨s, f, fun a ha => mns_in (by rw [← ea]; exact ha), eF, fun b => by rw [ew b]; rfl, fun q r hl => .inl (by
        obtain ⟨e, he, h⟩ := hl
        rw [ez] at he
        exact ⟨e, he, h⟩), fun q hq => .inl (by
        unfold Fl.keys at hq ⊢
        rw [ez] at hq
        exact hq)⟩
    -- the pieces
    have loop : ∀ st2 G2 H2 v5, TkI K G H wd U st row s m 0 G2 H2 st2 → tFor (iList K (tCall (spGoes K) [] E0 (tCons (tFld K (tVar 0) "works") (tCons (tVar 1) (tCons (tVar 2) tNil))))) (gTup K 3 (gCons (gName 6) (gCons (gName 7) (gCons (gName 8) gNil)))) (tDrop (tMeth (CF K) "put" (spPut K) [] E0 (tVar 0) (tCons (tVar 6) (tCons (tVar 7) (tCons (tOp (rI CMul fun i j => .int (i * j)) (tVar 8) (tVar 3)) tNil))))) { nx := fun _ H' => Q .non H', rt := Q } [some (.ref st.F), some (.int (row : Int)), some (.int (s : Int)), some (.int (m : Int)), some v4, v5, none, none, none] H2 := fun st2 G2 H2 v5 I => by
      refine (ea_3 (ea_works (st := st2) T (by rw [I.F]; rfl) I.f) (fun G2 s => ev_var (x := row) rfl) (fun G2 sg => ev_var (x := s) rfl) ⟨hrow, pok⟩) _ fun vl G3 H3 s3 r3 => ?_
      obtain ⟨a, vs, e1, e2, e3⟩ := r3
      refine ⟨a, e1, ⟨vs, SqL.of (s3.gh _ _ e2)⟩, for_list (xs := vs) (fun i σ' H' => ∃ a6 a7 a8 G' st', σ' = [some (.ref st.F), some (.int (row : Int)), some (.int (s : Int)), some (.int (m : Int)), some v4, v5, a6, a7, a8] ∧ Same G3 G' ∧ TkI K G H wd U st row s m i G' H' st') ?_ ?_ ?_ ?_⟩
      · exact ⟨none, none, none, G3, st2, rfl, Same.refl G3, ⟨I.s_.trans s3, I.f.on s3, I.n, I.F, I.wt, I.ly, I.ke⟩⟩
      · rintro i σ' H' _ ⟨_, _, _, G', st', _, sg, I⟩
        exact SqL.of (I.f.gh _ _ (sg _ _ e2))
      · rintro i v σ' H' hi ⟨a6, a7, a8, G', st', rfl, sg, I⟩
        obtain ⟨x, hx, rx⟩ := e3.getV hi
        have hxm := List.mem_of_getElem? hx
        obtain ⟨c1, c2, c3, c4⟩ := goes_c g u1 x hxm
        refine g_three (Rep.mono sg rx) I.f.gh fun v1 v2 v3 r1 r2 r3 => ?_
        obtain rfl : v1 = .int (x.a : Int) := r1
        obtain rfl : v2 = .int (x.b : Int) := r2
        obtain rfl : v3 = .int (x.c : Int) := r3
        refine ⟨.ref st.F, rfl, st.F, st'.dx, _, rfl, by rw [← I.F]; exact I.f.hF, rfl, .int (x.a : Int), rfl, .int (x.b : Int), rfl, .int (x.c : Int), rfl, .int (m : Int), rfl, (x.c : Int), (m : Int), rfl, rfl, cmul_of (by omega), G', wd, U, st', x.a, x.b, x.c * m, ?_, I.f, un, g.n12, c2, un.cl s hs row hrow x hxm, fun G5 H5 st5 s5 f5 n5 pr => ?_⟩
        · rw [I.F, Int.natCast_mul] <;> rfl
        · obtain ⟨s6, n6⟩ := fa.step I.f I.s_ I.n s5 n5
          refine ⟨_, _, _, G5, st5, rfl, sg.trans s5.gg, ⟨s6, f5, n6, pr.F.trans I.F, fun b => ?_, fun q r hl => ?_, fun q hq => ?_⟩⟩
          · have e1 := pr.wt b
            have e2 := pr.kp b
            have e3 := I.wt b
            rw [take_snoc hx, wsum_snoc, Nat.mul_add]
            have e4 : x.c * m * W wd b x.a x.b = m * (x.c * W wd b x.a x.b) := by
              rw [Nat.mul_comm x.c m, Nat.mul_assoc]
            omega
          · rcases pr.ly q r hl with h | ⟨h1, h2⟩
            · exact I.ly q r h
            · exact .inr ⟨x, hxm, h1.symm, h2.symm⟩
          · rcases pr.ke q hq with h | h
            · exact I.ke q h
            · exact .inr ⟨x, hxm, h.symm⟩
      · rintro σ' H' ⟨_, _, _, G', st', _, sg, I⟩
        rw [e3.len] at I
        refine q G' H' st' I.s_ I.f I.n ⟨I.F, fun b => ?_, I.ly, I.ke⟩
        have := I.wt b
        rw [List.take_length] at this
        rw [this, W_goes g u1, Nat.mul_add]
        omega
    generalize wd.rows[row] = rw at hrowE r4
    have wt0 : (∀ k, rw ≠ .bin k) → ∀ b, waitS wd b st1.sz + keptS b st1.kp = waitS wd b st.sz + keptS b st.kp + m * own wd b row s := fun hn b => by
      rw [z1, k1, own0 b fun k z => hn k (by rw [hrowE] at z; exact Option.some.inj z)] <;> rfl
    cases rw with
    | crush t =>
      refine q_when (K := K) s2.gh (et_t (ev_isB (ev_var r4))) (fun e => by cases e) (fun e G3 H3 s3 => ?_)
      exact loop st1 G3 H3 none (init st1 G3 H3 (t2.trans s3) (fa2.on s3) F1 a1 (wt0 fun k z => by cases z) z1)
    | mesh o u v =>
      refine q_when (K := K) s2.gh (et_t (ev_isB (ev_var r4))) (fun e => by cases e) (fun e G3 H3 s3 => ?_)
      exact loop st1 G3 H3 none (init st1 G3 H3 (t2.trans s3) (fa2.on s3) F1 a1 (wt0 fun k z => by cases z) z1)
    | bin k =>
      refine q_when (K := K) s2.gh (et_t (ev_isB (ev_var r4))) (fun e G3 H3 s3 => ?_) (fun e => by cases e)
      have fa3 := fa2.on s3
      have t3 := t2.trans s3
      have hk : k ∈ st1.kp.map (·.1) := fa3.ok.bb k (List.mem_of_getElem? hrowE)
      have l : ∃ B c, getN st1.kp k = some (B, c) := by
        cases gk : getN st1.kp k with
        | none => exact absurd hk (getN_none.mp gk)
        | some y => exact ⟨y.1, y.2, rfl⟩
      obtain ⟨B, c, l⟩ := l
      have hF3 : H3 st.F = some (.ins (CF K) st1.dx [("works", st1.vw), ("sizes", .ref st1.S), ("done", .ref st1.Dn), ("kept", .ref st1.Kq)]) := by
        have := fa3.hF
        rw [F1] at this
        exact this
      refine ⟨.ref st.F, rfl, st.F, CF K, st1.dx, _, .ref st1.Kq, rfl, hF3, T.clF, T.nF_kept, rfl, ?_⟩
      refine (ev_b1 (ev_var (Rep.mono s3.gg r4))).at_ s3.gh _ fun v5 G4 H4 s4 r5 => ?_
      obtain rfl : v5 = .int (k : Int) := r5
      have fa4 := fa3.on s4
      have t4 := t3.trans s4
      have hB : H4 B = some (.dK (enc encI c)) := fa4.hk _ (getN_mem l)
      refine ⟨st1.Kq, .ref B, rfl, ?_, ?_⟩
      · have := DGet.k (k := .inl (k : Int)) fa4.hK
        rw [valV_enc, l] at this
        exact this
      have cl : c.length ≤ 20000 := Nat.le_trans (len_U (l := c) (fa4.ok.bu _ (getN_mem l)).1 (fa4.ok.bu _ (getN_mem l)).2) un.ln
      refine ⟨.ref B, rfl, B, rfl, .inl ⟨_, .inl hB⟩, .int (s : Int), rfl, _, DGet.k (k := .inl (s : Int)) hB, .int (m : Int), rfl, ?_⟩
      rw [valV_enc]
      refine ⟨(((getN c s).getD 0 : Nat) : Int), (m : Int), ?_, rfl, .ref B, rfl, .int (s : Int), rfl, B, _, rfl, DPut.k (k := .inl (s : Int)) hB (sz_lt (by unfold enc; rw [List.length_map]; omega)), ?_⟩
      · cases getN c s <;> rfl
      have ep : putK (enc encI c) (.inl (s : Int)) (V.int ((((getN c s).getD 0 : Nat) : Int) + (m : Int))) = enc encI (addN c s m) := by
        rw [show V.int ((((getN c s).getD 0 : Nat) : Int) + (m : Int)) = encI ((getN c s).getD 0 + m) from by show V.int _ = V.int _; rw [Int.natCast_add], putK_enc] <;> rfl
      rw [show putK (enc encI c) (.inl (s : Int)) ((fun i j : Int => V.int (i + j)) (((getN c s).getD 0 : Nat) : Int) (m : Int)) = enc encI (addN c s m) from ep]
      have mB : B ∈ st1.adr := Fl.mk' (getN_mem l)
      have s5 : Stp K G (mns H st.adr) G4 (upd H4 B (.dK (enc encI (addN c s m)))) := t4.put (mns_in (by rw [← a1]; exact mB)) (fa4.ga _ mB) hB (fun _ z => by cases z) (fun _ z => by cases z)
      obtain ⟨fa5, a5⟩ := fa4.keep l hs s5.gh
      refine loop (keepSt st1 k B c s m) G4 _ (some (.ref B)) (init _ _ _ s5 fa5 F1 (a5.trans a1) (fun b => ?_) z1)
      have e1 := kept_add (b' := b) (s := s) (m := m) fa4.ok l
      show waitS wd b st1.sz + keptS b (keepSt st1 k B c s m).kp = _
      rw [e1, z1, k1]
      unfold own
      rw [hrowE]
      by_cases hb : k = b
      · rw [if_pos hb, if_pos (by rw [hb])]
        omega
      · rw [if_neg hb, if_neg (fun z => hb (by cases z; rfl))]
        omega
end
end Mw
namespace Mw
open PySem PySem.Spec PyProof.Rows L2
def popSt (st : Fl) (s : Nat) : Fl := { st with sz := delN st.sz s }
section
variable {K : PySem.W.Frag} {G H G' H' : Hp} {wd : Wd} {U : List Nat} {st : Fl}
theorem adr_pop {s : Nat} : ∀ a ∈ (popSt st s).adr, a ∈ st.adr := fun a ha => by
  rcases Fl.cases ha with e | e | e | e | ⟨x, hx, e⟩ | ⟨x, hx, e⟩
  · rw [e]; exact st.mF
  · rw [e]; exact st.mS
  · rw [e]; exact st.mD
  · rw [e]; exact st.mK
  · rw [← e]; exact Fl.ms (mem_delN.mp hx).1
  · rw [← e]; exact Fl.mk' hx
theorem FA.pop (f : FA K G H wd U st) {s : Nat} {L : Addr} {c : List (Nat × Nat)} (l : getN st.sz s = some (L, c)) (gh : Same G (upd H st.S (.dK (enc encR (delN st.sz s))))) :
    FA K G (upd H st.S (.dK (enc encR (delN st.sz s)))) wd U (popSt st s) ∧ L ∉ (popSt st s).adr ∧ (upd H st.S (.dK (enc encR (delN st.sz s)))) L = some (.dK (enc encI c)) := by
  have hm := getN_mem l
  have nd := f.nd
  unfold Fl.adr at nd
  simp only [List.nodup_cons, List.mem_cons, List.mem_append, not_or] at nd
  have ne : ∀ {a : Addr}, a ≠ st.S → (upd H st.S (.dK (enc encR (delN st.sz s)))) a = H a := fun h => upd_ne h
  have hs : ∀ e ∈ st.sz, e.2.1 ≠ st.S := fun e he z => nd.2.1.2.2.1 (by rw [← z]; exact List.mem_map_of_mem (f := (·.2.1)) he)
  have hk : ∀ e ∈ st.kp, e.2.1 ≠ st.S := fun e he z => nd.2.1.2.2.2 (by rw [← z]; exact List.mem_map_of_mem (f := (·.2.1)) he)
  have nz := (List.nodup_append.mp nd.2.2.2.2).1
  have dj := (List.nodup_append.mp nd.2.2.2.2).2.2
  have hLz : L ∈ st.sz.map (·.2.1) := List.mem_map_of_mem (f := (·.2.1)) hm
  have sub : ((delN st.sz s).map (·.2.1)).Sublist (st.sz.map (·.2.1)) := List.Sublist.map _ List.filter_sublist
  have ndp : (popSt st s).adr.Nodup := by
    refine List.Nodup.sublist ?_ f.nd
    exact ((((List.Sublist.append sub (List.Sublist.refl _)).cons₂ _).cons₂ _).cons₂ _).cons₂ _
  refine ⟨⟨gh, ?_, f.rw, upd_same, ?_, ?_, fun e he => ?_, fun e he => ?_, ndp, fun a ha => f.ga a (adr_pop a ha), ⟨nodup_delN f.ok.ks, fun e he => f.ok.ku e (mem_delN.mp he).1, f.ok.dl, f.ok.di, f.ok.bk, f.ok.bb, f.ok.bu, f.ok.bc⟩⟩, fun z => ?_, ?_⟩
  · exact (ne fun z => nd.1.1 z).trans f.hF
  · exact (ne fun z => nd.2.1.1 z.symm).trans f.hD
  · exact (ne fun z => nd.2.1.2.1 z.symm).trans f.hK
  · exact (ne (hs e (mem_delN.mp he).1)).trans (f.hs e (mem_delN.mp he).1)
  · exact (ne (hk e he)).trans (f.hk e he)
  · rcases Fl.cases z with e | e | e | e | ⟨x, hx, e⟩ | ⟨x, hx, e⟩
    · exact nd.1.2.2.2.1 (by rw [show st.F = L from e.symm]; exact hLz)
    · exact nd.2.1.2.2.1 (by rw [show st.S = L from e.symm]; exact hLz)
    · exact nd.2.2.1.2.1 (by rw [show st.Dn = L from e.symm]; exact hLz)
    · exact nd.2.2.2.1.1 (by rw [show st.Kq = L from e.symm]; exact hLz)
    · obtain ⟨h1, h2⟩ := mem_delN.mp hx
      obtain ⟨j, hj, ej⟩ := List.mem_iff_getElem.mp h1
      obtain ⟨j', hj', ej'⟩ := List.mem_iff_getElem.mp hm
      have hjj : j = j' := by
        refine (List.getElem_inj nz (h₀ := by rw [List.length_map]; exact hj) (h₁ := by rw [List.length_map]; exact hj')).mp ?_
        rw [List.getElem_map, List.getElem_map, ej, ej', e]
      subst hjj
      rw [ej] at ej'
      rw [ej'] at h2
      exact h2 rfl
    · exact dj _ hLz _ (List.mem_map_of_mem (f := (·.2.1)) hx) e.symm
  · exact (ne (hs _ hm)).trans (f.hs _ hm)
theorem Fl.key_iff {s : Nat} : s ∈ st.keys ↔ ∃ y, getN st.sz s = some y := by
  unfold Fl.keys
  cases g : getN st.sz s with
  | none => exact ⟨fun h => absurd h (getN_none.mp g), fun ⟨y, h⟩ => by cases h⟩
  | some y => exact ⟨fun _ => ⟨y, rfl⟩, fun _ => List.mem_map_of_mem (f := (·.1)) (getN_mem g)⟩
end
section
variable {K : PySem.W.Frag} {σ : L2.St} {G H : Hp} {t : TT} {D : Ends} {tu : TS} {te : TE} {α : Type} [Rep α]
theorem sA_while (W : Nat → L2.St → Hp → Prop) (m0 : Nat) (h0 : W m0 σ H)
    (hs : ∀ m σ' H', W m σ' H' → ∃ G' b, ETA K t σ' G' H' b ∧ (b = true → ∀ G2 H2, Stp K G' H' G2 H2 → tu { D with nx := fun σ2 H2 => ∃ m', m' < m ∧ W m' σ2 H2, ct := fun σ2 H2 => ∃ m', m' < m ∧ W m' σ2 H2, bk := D.nx } σ' H2) ∧
      (b = false → ∀ G2 H2, Stp K G' H' G2 H2 → D.nx σ' H2)) : tWhile t tu D σ H :=
  ⟨W, ⟨m0, h0⟩, fun m σ' H' w => by
    obtain ⟨G', b, ht, h1, h2⟩ := hs m σ' H' w
    refine ht _ fun G2 H2 s => ?_
    cases b with
    | true =>
      rw [if_pos rfl]
      exact ⟨_, fun σ2 H2 n => n, h1 rfl G2 H2 s⟩
    | false =>
      rw [if_neg (by decide)]
      exact h2 rfl G2 H2 s⟩
/-- list(dict) -/
theorem ea_listD {l : List (Nat × Nat)} {L : Addr} {i : Nat} (hi : σ[i]? = some (some (.ref L))) (hL : H L = some (.dK (enc encI l))) (gh : Same G H) : EA K (tCB rListD (tCons (tVar i) tNil)) σ G H (l.map (·.1)) := fun Q q =>
  ⟨.ref L, hi, L, _, rfl, hL, fun p hp => q (.ref p) _ _ (Stp.new gh hp) ⟨p, _, rfl, upd_same, by
    unfold enc
    rw [List.map_map]
    clear hL q
    induction l with
    | nil => exact .nil
    | cons x l ih => exact .cons rfl ih⟩⟩
end
/-- all of a size has gone on -/
structure GoR (wd : Wd) (st st' : Fl) (s : Nat) : Prop where
  F : st'.F = st.F
  wt : ∀ b, waitS wd b st'.sz + keptS b st'.kp = waitS wd b st.sz + keptS b st.kp
  out : s ∉ st'.keys
  ke : ∀ q, q ∈ st'.keys → q ∈ st.keys ∨ q < s
abbrev spGoS (K : PySem.W.Frag) : Sp := fun vs H Q _ => ∃ G wd U st, ∃ (s : Nat), vs = [.ref st.F, .int (s : Int)] ∧ FA K G H wd U st ∧ Uni wd U ∧ Good wd ∧ s ∈ U ∧
  ∀ G' H' st', Stp K G (mns H st.adr) G' H' → FA K G' H' wd U st' → Nw H st st' → GoR wd st st' s → Q .non H'
end Mw
namespace Mw
open PySem PySem.Spec PyProof.Rows L2
section
variable {P : Program} {w : World} {K : PySem.W.Frag} {mg : Str → Option Value} {base : Heap}
theorem c_Flow_go_size (h : HasM K (CF K) d_Flow_go_size) (T : Tx K mg base) (c_Flow_take_all : CalM P w K mg base (He.ma K (CF K) "take_all") 3 ["self", "row", "size", "many"] (spTake K)) :
    CalM P w K mg base (He.ma K (CF K) "go_size") 4 ["self", "size"] (spGoS K) := by
  refine h.cal sc_Flow_go_size (fun _ _ _ _ _ _ us hl => match us, hl with | [_, _], _ => rfl) (fun vs H Q E h => ?_) (fun f cdv A outer s0 H vs Q E hr h => ?_)
  · obtain ⟨_, _, _, _, _, rfl, _⟩ := h
    rfl
  · have hu := hu_of hr
    obtain ⟨G, wd, U, st, s, rfl, fa, un, g, hs, q⟩ := h
    refine ⟨_, (pss_one (ps_while PassesOwn.never (pt_cmp (pc_din hu (pv 1) (fldK K (pv 0)))) (pss_cons (ps_set (i := 2) sc_Flow_go_size.nd rfl (.inl rfl) (pe_dpop1 (fldK K (pv 0)) (pv 1) ⟨rfl, rfl, rfl, rfl⟩))
      (pss_one (ps_for PassesOwn.never rfl (pi_list (pe_callTy (call_list_dK rfl) (by rfl) T.b_list (by decide +kernel) (pa_cons (pv 2) pa_nil))) (pg_name (i := 3) sc_Flow_go_size.nd rfl (.inl rfl)) (pss_one (ps_expr (pe_mt T.clF T.mF_take_all c_Flow_take_all (hr.mono (by decide)) (pv 0) (pa_cons (pv 3) (pa_cons (pv 1) (pa_cons (pe_dget hu (pv 2) (pv 3) (fun _ _ => rfl)) pa_nil))))))))))), ?_⟩
    obtain ⟨u1, u2⟩ := un.lt s hs
    obtain ⟨rho, h15, hd⟩ := g.rk
    refine sA_while (K := K) (fun m σ' H' => ∃ B x2 x3 G' st', m = (if s ∈ st'.keys then B + 1 else 0) ∧ σ' = [some (.ref st.F), some (.int (s : Int)), x2, x3] ∧ Stp K G (mns H st.adr) G' H' ∧ FA K G' H' wd U st' ∧ Nw H st st' ∧ st'.F = st.F ∧
      (∀ b, waitS wd b st'.sz + keptS b st'.kp = waitS wd b st.sz + keptS b st.kp) ∧ (∀ q, q ∈ st'.keys → q ∈ st.keys ∨ q ≤ s) ∧ ∀ r, Lies st' s r → rho s r < B) _ ⟨16, none, none, G, st, rfl, rfl, fa.base, fa, fun a ha => mns_in ha, rfl, fun b => rfl, fun q hq => .inl hq, fun r _ => by have := h15 s r; omega⟩ ?_
    rintro m σ' H' ⟨B, x2, x3, G', st', rfl, rfl, t, fa', nw, eF, ewt, eke, erk⟩
    have hF' : H' st.F = some (.ins (CF K) st'.dx [("works", st'.vw), ("sizes", .ref st'.S), ("done", .ref st'.Dn), ("kept", .ref st'.Kq)]) := by
      rw [← eF]
      exact fa'.hF
    refine ⟨G', decide (s ∈ st'.keys), eta_b (fun Q q => ?_), fun e G2 H2 s2 => ?_, fun e G2 H2 s2 => ?_⟩
    · refine ⟨.int (s : Int), rfl, .ref st.F, rfl, st.F, CF K, st'.dx, _, .ref st'.S, rfl, hF', T.clF, T.nF_sizes, rfl, st'.S, _, rfl, DGet.k (k := .inl (s : Int)) fa'.hS, ?_⟩
      refine q _ G' H' (Stp.refl fa'.gh) ?_
      rw [valV_enc]
      by_cases hk : s ∈ st'.keys
      · obtain ⟨y, hy⟩ := Fl.key_iff.mp hk
        rw [hy, decide_eq_true hk] <;> rfl
      · rw [decide_eq_false hk]
        cases gy : getN st'.sz s with
        | none => rfl
        | some y => exact absurd (Fl.key_iff.mpr ⟨y, gy⟩) hk
    · have hk := of_decide_eq_true e
      rw [if_pos hk]
      obtain ⟨⟨L, c⟩, l⟩ := Fl.key_iff.mp hk
      have fa2 := fa'.on s2
      have t2 := t.trans s2
      have hF2 : H2 st.F = some (.ins (CF K) st'.dx [("works", st'.vw), ("sizes", .ref st'.S), ("done", .ref st'.Dn), ("kept", .ref st'.Kq)]) := by
        rw [← eF]
        exact fa2.hF
      refine ⟨.ref st.F, rfl, st.F, CF K, st'.dx, _, .ref st'.S, rfl, hF2, T.clF, T.nF_sizes, rfl, st'.S, rfl, .inl ⟨_, .inl fa2.hS⟩, .int (s : Int), rfl, _, .inl (s : Int), .ref L, fa2.hS, rfl, by rw [valV_enc, l]; rfl, ?_⟩
      rw [dropK_enc]
      have mS : st'.S ∈ st'.adr := st'.mS
      have s3 : Stp K G (mns H st.adr) G2 (upd H2 st'.S (.dK (enc encR (delN st'.sz s)))) := t2.put (nw _ mS) (fa2.ga _ mS) fa2.hS (fun _ z => by cases z) (fun _ z => by cases z)
      obtain ⟨fa3, nL, hL3⟩ := fa2.pop l s3.gh
      generalize hst3 : popSt st' s = st3 at fa3 nL
      have e3z : st3.sz = delN st'.sz s := by rw [← hst3]; rfl
      have e3k : st3.kp = st'.kp := by rw [← hst3]; rfl
      have e3F : st3.F = st.F := by rw [← hst3]; exact eF
      have nw3 : Nw H st st3 := fun a ha => nw a (adr_pop (s := s) a (by rw [hst3]; exact ha))
      have gL : G2 L = none := fa2.ga L (Fl.ms (getN_mem l))
      have hc := fa2.ok.ku _ (getN_mem l)
      generalize (upd H2 st'.S (.dK (enc encR (delN st'.sz s)))) = H3 at s3 fa3 hL3
      refine (ea_listD (K := K) (l := c) rfl hL3 fa3.gh) _ fun vl G4 H4 s4 r4 => ?_
      obtain ⟨a, vs, e1, e2, e3⟩ := r4
      have fa4 := fa3.on s4
      obtain ⟨gL4, hL4⟩ := s4.own gL hL3 (fun _ z => by cases z)
      have bL : mns H4 st3.adr L = some (.dK (enc encI c)) := by
        rw [mns_out nL]
        exact hL4
      refine ⟨a, e1, ⟨vs, SqL.of (s4.gh _ _ e2)⟩, for_list (xs := vs) (fun i σ' H' => ∃ x3 G' st5, σ' = [some (.ref st.F), some (.int (s : Int)), some (.ref L), x3] ∧ Same G4 G' ∧ Stp K G4 (mns H4 st3.adr) G' H' ∧ FA K G' H' wd U st5 ∧ Nw H4 st3 st5 ∧ st5.F = st.F ∧
        (∀ b, waitS wd b st5.sz + keptS b st5.kp = waitS wd b st3.sz + keptS b st3.kp + sumN (fun x => x.2 * W wd b x.1 s) (c.take i)) ∧ (∀ q, q ∈ st5.keys → q ∈ st3.keys ∨ (q ≤ s ∧ 0 < c.length)) ∧ ∀ r, Lies st5 s r → ∃ y ∈ c, ∃ x ∈ goes wd y.1 s, x.b = s ∧ x.a = r) ?_ ?_ ?_ ?_⟩
      · refine ⟨x3, G4, st3, rfl, Same.refl G4, fa4.base, fa4, fun a ha => mns_in ha, e3F, fun b => by rw [List.take_zero]; rfl, fun q hq => .inl hq, fun r hr => ?_⟩
        obtain ⟨e, he, e1, _⟩ := hr
        rw [e3z] at he
        exact absurd e1 (mem_delN.mp he).2
      · rintro i σ' H' _ ⟨_, G', st5, _, sg, s5, f5, _⟩
        exact SqL.of (f5.gh _ _ (sg _ _ e2))
      · rintro i v σ' H5 hi ⟨x3, G5, st5, rfl, sg, s5, f5, n5, eF5, w5, k5, r5⟩
        obtain ⟨y, hy, ry⟩ := e3.getV hi
        rw [List.getElem?_map] at hy
        cases hx : c[i]? with
        | none =>
          rw [hx] at hy
          cases hy
        | some x =>
          rw [hx] at hy
          have hy : x.1 = y := Option.some.inj hy
          obtain rfl : v = .int (y : Int) := ry
          subst hy
          have hxm := List.mem_of_getElem? hx
          have hrow := hc.2.2 x hxm
          obtain ⟨_, hL5⟩ := s5.own gL4 bL (fun _ z => by cases z)
          have hgx : getN c x.1 = some x.2 := getN_of hc.2.1 hxm
          refine ⟨.ref st.F, rfl, st.F, st5.dx, _, rfl, by rw [← eF5]; exact f5.hF, rfl, .int (x.1 : Int), rfl, .int (s : Int), rfl, .ref L, rfl, .int (x.1 : Int), rfl, L, .int (x.2 : Int), rfl, ?_, G5, wd, U, st5, x.1, s, x.2, by rw [eF5]; rfl, f5, un, g, hrow, hs, fun G6 H6 st6 s6 f6 n6 tr => ?_⟩
          · have := DGet.k (k := .inl (x.1 : Int)) hL5
            rw [valV_enc, hgx] at this
            exact this
          · obtain ⟨s7, n7⟩ := fa4.step f5 s5 n5 s6 n6
            refine ⟨_, G6, st6, rfl, sg.trans s6.gg, s7, f6, n7, tr.F.trans eF5, fun b => ?_, fun q hq => ?_, fun r hr => ?_⟩
            · have a1 := tr.wt b
              have a2 := w5 b
              rw [take_snoc hx, sumN_app]
              show _ = _ + (_ + sumN (fun x => x.2 * W wd b x.1 s) [x])
              have a3 : sumN (fun x => x.2 * W wd b x.1 s) [x] = x.2 * W wd b x.1 s := by
                unfold sumN
                simp
              omega
            · rcases tr.ke q hq with h | ⟨z, hz, h⟩
              · exact k5 q h
              · refine .inr ⟨?_, List.length_pos_of_mem hxm⟩
                have := (goes_c g u1 z hz).2.2.2
                omega
            · rcases tr.ly s r hr with h | ⟨z, hz, h1, h2⟩
              · exact r5 r h
              · exact ⟨x, hxm, z, hz, h1, h2⟩
      · rintro σ' H5 ⟨x3, G5, st5, rfl, sg, s5, f5, n5, eF5, w5, k5, r5⟩
        obtain ⟨s7, n7⟩ := fa.step fa4 (s3.trans s4) nw3 s5 n5
        have lenv : vs.length = c.length := by rw [e3.len, List.length_map]
        have keyB : s ∈ st5.keys → 0 < c.length := fun hk5 => by
          rcases k5 s hk5 with h | h
          · obtain ⟨y, hy⟩ := Fl.key_iff.mp h
            have := getN_mem hy
            rw [e3z] at this
            exact absurd rfl (mem_delN.mp this).2
          · exact h.2
        have rk : ∀ y ∈ c, rho s y.1 < B := fun y hy => erk y.1 ⟨_, getN_mem l, rfl, List.mem_map_of_mem (f := (·.1)) hy⟩
        refine ⟨_, ?_, B - 1, _, _, G5, st5, rfl, rfl, s7, f5, n7, eF5, fun b => ?_, fun q hq => ?_, fun r hr => ?_⟩
        · split
          · rename_i hk5
            have h0 := keyB hk5
            have := rk c[0] (List.getElem_mem h0)
            omega
          · omega
        · have a1 := w5 b
          rw [lenv, List.take_length, e3z, e3k] at a1
          have a2 := sum_del (fun e : Nat × Addr × List (Nat × Nat) => sumN (fun x => x.2 * W wd b x.1 e.1) e.2.2) fa2.ok.ks l
          have a2 : waitS wd b (delN st'.sz s) + sumN (fun x => x.2 * W wd b x.1 s) c = waitS wd b st'.sz := a2
          have a3 := ewt b
          omega
        · rcases k5 q hq with h | h
          · refine eke q ?_
            obtain ⟨y, hy⟩ := Fl.key_iff.mp h
            have := getN_mem hy
            rw [e3z] at this
            exact List.mem_map_of_mem (f := (·.1)) (mem_delN.mp this).1
          · exact .inr h.1
        · obtain ⟨y, hy, x, hx, h1, h2⟩ := r5 r hr
          have a1 := goes_rank g h15 hd u1 x hx
          rw [h1, h2] at a1
          have := rk y hy
          omega
    · have hk := of_decide_eq_false e
      have fa2 := fa'.on s2
      refine q G2 H2 st' (t.trans s2) fa2 nw ⟨eF, ewt, hk, fun q hq => ?_⟩
      rcases eke q hq with h | h
      · exact .inl h
      · refine .inr (Nat.lt_of_le_of_ne h fun z => hk (z ▸ hq))
end
end Mw
namespace Mw
open PySem PySem.Spec PyProof.Rows L2
/-- nothing lies any more -/
structure EndR (wd : Wd) (st st' : Fl) : Prop where
  F : st'.F = st.F
  wt : ∀ b, waitS wd b st'.sz + keptS b st'.kp = waitS wd b st.sz + keptS b st.kp
  out : st'.keys = []
abbrev spGo (K : PySem.W.Frag) : Sp := fun vs H Q _ => ∃ G wd U st, vs = [.ref st.F] ∧ FA K G H wd U st ∧ Uni wd U ∧ Good wd ∧
  ∀ G' H' st', Stp K G (mns H st.adr) G' H' → FA K G' H' wd U st' → Nw H st st' → EndR wd st st' → Q .non H'
section
variable {K : PySem.W.Frag} {mg : Str → Option Value} {base : Heap} {σ : L2.St} {G H G2 H2 : Hp} {ta tb tc : TE} {t u : TT} {wd : Wd}
theorem eta_or {a b : Bool} (h1 : ETA K t σ G H a) (h2 : a = false → ∀ G2 H2, Stp K G H G2 H2 → ETA K u σ G2 H2 b) : ETA K (tOr t u) σ G H (a || b) := fun Q q => h1 _ fun G2 H2 s => by
  cases a with
  | true =>
    show Q true H2
    exact q G2 H2 s
  | false =>
    show u σ H2 Q
    exact h2 rfl G2 H2 s Q fun G3 H3 s' => q G3 H3 (s.trans s')
theorem ea_gt {a b : Nat} (ha : EA K ta σ G H a) (hb : ∀ G2 H2, Stp K G H G2 H2 → EA K tb σ G2 H2 b) : EA K (tOp (rI0 fun i j => .bl (decide (j < i))) ta tb) σ G H (decide (b < a)) := ea_gtN ha hb
theorem ea_add {a b : Nat} (ha : EA K ta σ G H a) (hb : ∀ G2 H2, Stp K G H G2 H2 → EA K tb σ G2 H2 b) : EA K (tOp (rI0 fun i j => .int (i + j)) ta tb) σ G H (a + b) := fun Q q =>
  ha _ fun v G2 H2 s1 r1 => hb G2 H2 s1 _ fun w G3 H3 s2 r2 => ⟨a, b, r1, r2, q _ G3 H3 (s1.trans s2) (show V.int ((a : Int) + (b : Int)) = V.int ((a + b : Nat) : Int) by rw [Int.natCast_add])⟩
theorem ea_div {a b : Nat} (ha : EA K ta σ G H a) (hb : ∀ G2 H2, Stp K G H G2 H2 → EA K tb σ G2 H2 b) (h0 : 0 < b) (h1 : b < 1000) : EA K (tOp (rI CDiv fun i j => .int (i / j)) ta tb) σ G H (a / b) := fun Q q =>
  ha _ fun v G2 H2 s1 r1 => hb G2 H2 s1 _ fun w G3 H3 s2 r2 => ⟨a, b, r1, r2, ⟨by omega, by omega⟩, q _ G3 H3 (s1.trans s2) (show V.int ((a : Int) / (b : Int)) = V.int ((a / b : Nat) : Int) by rw [Int.natCast_ediv])⟩
theorem ea_maxN {ns : List Nat} {m : Nat} (ha : EA K ta σ G H ns) (hm : m ∈ ns) (hle : ∀ y ∈ ns, y ≤ m) : EA K (tCB (rMax K) (tCons ta tNil)) σ G H m := fun Q q => ha _ fun v G2 H2 s ⟨p, vs, e1, e2, e3⟩ =>
  ⟨p, ns.map fun n : Nat => (n : Int), by rw [e1], SqL.of (by rw [← nats_of e3]; exact s.gh _ _ e2), by rw [List.length_map]; exact List.length_pos_of_mem hm, fun m' h1 h2 => q _ G2 H2 s (by
    obtain ⟨n, hn, rfl⟩ := List.mem_map.mp h1
    have a1 := hle n hn
    have a2 := h2 (m : Int) (List.mem_map_of_mem hm)
    have e : n = m := by omega
    rw [e]
    rfl)⟩
theorem ea_eqN {a b : Nat} (ha : Ev K ta σ G a) (hb : Ev K tb σ G b) (gh : Same G H) : EA K (tOp rEq ta tb) σ G H (decide (a = b)) := (ev_eqN ha hb).at_ gh
/-- sorted(.., reverse=True) of numbers -/
theorem ea_sortRev {ns : List Nat} (ha : EA K ta σ G H ns) (Q : VK) (q : ∀ v G2 H2 ms, Stp K G H G2 H2 → rp K G2 v ms → List.Perm ms ns → Q v H2) : tCKw (rSortedKw K true [.bl true]) (tCons ta tNil) (tCons (tC (.bl true)) tNil) σ H Q :=
  ha _ fun v G2 H2 s ⟨p, vs, e1, e2, e3⟩ => by
    rw [nats_of e3] at e2
    refine ⟨p, _, by rw [e1], rfl, SqL.of (s.gh _ _ e2), fun ns' d hp ho hd => ?_⟩
    have nn : ∀ m ∈ ns', ∃ n : Nat, m = (n : Int) := fun m hm => by
      obtain ⟨n, _, e⟩ := List.mem_map.mp (hp.mem_iff.mp hm)
      exact ⟨n, e.symm⟩
    have em : (ns'.map Int.toNat).map (fun n : Nat => (n : Int)) = ns' := by
      rw [List.map_map]
      conv => rhs; rw [← List.map_id ns']
      refine List.map_congr_left fun m hm => ?_
      obtain ⟨n, e⟩ := nn m hm
      rw [e]
      show ((((n : Nat) : Int).toNat : Nat) : Int) = (n : Int)
      rw [Int.toNat_natCast]
    have hpm : (ns'.map Int.toNat).Perm ns := by
      have h := hp.map Int.toNat
      rw [List.map_map, show (Int.toNat ∘ fun n : Nat => (n : Int)) = id from funext fun n => Int.toNat_natCast n, List.map_id] at h
      exact h
    refine q (.ref d) _ _ (ns'.map Int.toNat) (s.trans (Stp.new s.gh hd)) ⟨d, _, rfl, upd_same, ?_⟩ hpm
    clear hp hpm hd q ho
    induction ns' with
    | nil => exact .nil
    | cons m l ih =>
      obtain ⟨n, e⟩ := nn m List.mem_cons_self
      refine .cons ?_ (ih (fun x hx => nn x (List.mem_cons_of_mem _ hx)) (List.cons.inj em).2)
      rw [e]
      show V.int (n : Int) = V.int ((((n : Nat) : Int).toNat : Nat) : Int)
      rw [Int.toNat_natCast]
/-- a locked thing is unlocked -/
theorem Stp.unlock {S : Addr} {od : Obj} {u : HO} (gh : Same G H) (gS : G S = none) (hS : H S = some u) (nt : ∀ ps, u ≠ .tbl ps) (nx : ∀ f, u ≠ .ext f) (s : Stp K G (upd H S (.frz od u)) G2 H2) : Stp K G H G2 (upd H2 S u) ∧ G2 S = none := by
  obtain ⟨g2, h2⟩ := s.own gS upd_same (fun _ z => by cases z)
  refine ⟨⟨s.gg, fun b v e => ?_, ⟨fun b v e nv => ?_, fun b e => ?_, fun t => ?_⟩, fun a ha => ?_⟩, g2⟩
  · rw [upd_ne (ne_of_none e g2)]
    exact s.gh b v e
  · by_cases hb : b = S
    · rw [hb, upd_same, ← hS, ← hb]
      exact e
    · rw [upd_ne hb]
      exact s.hh.st b v (by rw [upd_ne hb]; exact e) nv
  · by_cases hb : b = S
    · rw [hb, upd_same] at e
      cases e
    · rw [upd_ne hb] at e
      have := s.hh.fr b e
      rw [upd_ne hb] at this
      exact this
  · have neP : ∀ {c : Addr} {x : HO}, H c = some x → (x ≠ u) → c ≠ S := fun e n z => n (by
      rw [z, hS] at e
      exact (Option.some.inj e).symm)
    have t1 : LamX.TabS (upd H S (.frz od u)) (ptOf K) lamQ := by
      obtain ⟨ps, h1, h2, h3⟩ := t
      refine ⟨ps, by rw [upd_ne (neP h1 fun z => nt ps z.symm)]; exact h1, h2, fun pos cv hc => ?_⟩
      obtain ⟨c, e1, e2⟩ := h3 pos cv hc
      exact ⟨c, e1, by rw [upd_ne (neP e2 fun z => nx _ z.symm)]; exact e2⟩
    obtain ⟨ps, h1, h2', h3⟩ := s.hh.tb t1
    refine ⟨ps, by rw [upd_ne fun z => by rw [z, h2] at h1; cases h1]; exact h1, h2', fun pos cv hc => ?_⟩
    obtain ⟨c, e1, e2⟩ := h3 pos cv hc
    exact ⟨c, e1, by rw [upd_ne fun z => by rw [z, h2] at e2; cases e2]; exact e2⟩
  · rcases s.nw a ha with h | h
    · exact .inl h
    · by_cases hb : a = S
      · rw [hb, upd_same] at h
        cases h
      · rw [upd_ne hb] at h
        exact .inr h
end
section
variable {P : Program} {w : World} {K : PySem.W.Frag} {mg : Str → Option Value} {base : Heap}
theorem c_Flow_go (h : HasM K (CF K) d_Flow_go) (T : Tx K mg base) (c_Flow_go_size : CalM P w K mg base (He.ma K (CF K) "go_size") 4 ["self", "size"] (spGoS K)) :
    CalM P w K mg base (He.ma K (CF K) "go") 5 ["self"] (spGo K) := by
  refine h.cal sc_Flow_go (fun _ _ _ _ _ _ us hl => match us, hl with | [_], _ => rfl) (fun vs H Q E h => ?_) (fun f cdv A outer s0 H vs Q E hr h => ?_)
  · obtain ⟨_, _, _, _, rfl, _⟩ := h
    rfl
  · have hu := hu_of hr
    obtain ⟨G, wd, U, st, rfl, fa, un, g, q⟩ := h
    refine ⟨_, (pss_one (ps_while PassesOwn.never (pt_cmpR op_gt (pe_callB call_lenD (by rfl) T.b_len PySem.boot_len (pa_cons (fldK K (pv 0)) pa_nil)) pe_int (nomark _)) (pss_cons (ps_set (i := 1) sc_Flow_go.nd rfl (.inr rfl) (pe_callB (maxK K) (by rfl) T.b_max (by decide +kernel) (pa_cons (pe_callTy (call_list_dK rfl) (by rfl) T.b_list (by decide +kernel) (pa_cons (fldK K (pv 0)) pa_nil)) pa_nil)))
      (pss_cons (ps_lock (ps_setLc (i := 3) (own := [("size", 2)]) (g := (gName 2)) rfl sc_Flow_go.nd  rfl rfl (sw_true rfl rfl rfl (by decide +kernel)) (pi_keys (fldK K (pv 0))) (blkOk_by (N := N_Flow_go) (sc := defScope s_Flow_go) (by decide +kernel)) (fun _ _ _ _ _ => (pg_name (i := 2) sc_Flow_go.nd rfl (Or.inl rfl))) (fun _ _ _ _ _ => pts_one (PW.pt (pw_or (pt_cmpR op_eq (pv 2) (pv 1) (nomark _)) (pw_or1 (pt_cmpR op_gt (pv 2) (pe_op op_add (pe_op op_fdiv (pv 1) (fldK K (fldK K (pv 0)))) pe_int) (nomark _)))))) (fun _ _ _ _ _ => (pv 2))))
      (pss_one (ps_for PassesOwn.never rfl (pi_list (pe_callBK (sortRevK K) (by rfl) T.b_sorted (by decide +kernel) (pa_cons (pv 3) pa_nil) (pk_cons pe_bl pk_nil))) (pg_name (i := 2) sc_Flow_go.nd rfl (.inl rfl)) (pss_one (ps_expr (pe_mt T.clF T.mF_go_size c_Flow_go_size (hr.mono (by decide)) (pv 0) (pa_cons (pv 2) pa_nil)))))))))), ?_⟩
    refine sA_while (K := K) (fun m σ' H' => ∃ x1 x2 x3 G' st', σ' = [some (.ref st.F), x1, x2, x3] ∧ Stp K G (mns H st.adr) G' H' ∧ FA K G' H' wd U st' ∧ Nw H st st' ∧ st'.F = st.F ∧
      (∀ b, waitS wd b st'.sz + keptS b st'.kp = waitS wd b st.sz + keptS b st.kp) ∧ ∀ q, q ∈ st'.keys → q < m) (2 ^ 60) ⟨none, none, none, G, st, rfl, fa.base, fa, fun a ha => mns_in ha, rfl, fun b => rfl, fun q hq => ?_⟩ ?_
    · obtain ⟨y, hy⟩ := Fl.key_iff.mp hq
      have := un.lt q (fa.ok.ku _ (getN_mem hy)).1
      omega
    rintro m σ' H' ⟨x1, x2, x3, G', st', rfl, t, fa', nw, eF, ewt, ekm⟩
    have hF' : H' st.F = some (.ins (CF K) st'.dx [("works", st'.vw), ("sizes", .ref st'.S), ("done", .ref st'.Dn), ("kept", .ref st'.Kq)]) := by
      rw [← eF]
      exact fa'.hF
    have lenk : (enc encR st'.sz).length = st'.sz.length := by
      unfold enc
      rw [List.length_map]
    refine ⟨G', decide (0 < st'.sz.length), eta_t (ea_gt (a := st'.sz.length) (fun Q q => ?_) fun G2 H2 s => (ev_n (n := 0)).at_ s.gh), fun e G2 H2 s2 => ?_, fun e G2 H2 s2 => ?_⟩
    · exact ⟨.ref st.F, rfl, st.F, CF K, st'.dx, _, .ref st'.S, rfl, hF', T.clF, T.nF_sizes, rfl, st'.S, _, rfl, fa'.hS, q _ G' H' (Stp.refl fa'.gh) (by rw [lenk]; rfl)⟩
    · have e := of_decide_eq_true e
      have fa2 := fa'.on s2
      have t2 := t.trans s2
      have ne : st'.keys ≠ [] := fun z => by
        unfold Fl.keys at z
        rw [List.map_eq_nil_iff.mp z] at e
        cases e
      have pos : ∀ k ∈ st'.keys, 1 ≤ k ∧ k + 1 < 2 ^ 60 := fun k hk => by
        obtain ⟨y, hy⟩ := Fl.key_iff.mp hk
        exact un.lt k (fa2.ok.ku _ (getN_mem hy)).1
      have mU : ∀ k ∈ st'.keys, k ∈ U := fun k hk => by
        obtain ⟨y, hy⟩ := Fl.key_iff.mp hk
        exact (fa2.ok.ku _ (getN_mem hy)).1
      have mt : maxl st'.keys ∈ st'.keys := by
        rcases List.mem_cons.mp (maxl_mem st'.keys) with h | h
        · obtain ⟨k, hk⟩ := List.exists_mem_of_ne_nil _ ne
          have := maxl_le hk
          have := pos k hk
          omega
        · exact h
      have mle : ∀ k ∈ st'.keys, k ≤ maxl st'.keys := fun k hk => maxl_le hk
      generalize hmax : maxl st'.keys = top at mt mle
      have hF2 : H2 st.F = some (.ins (CF K) st'.dx [("works", st'.vw), ("sizes", .ref st'.S), ("done", .ref st'.Dn), ("kept", .ref st'.Kq)]) := by
        rw [← eF]
        exact fa2.hF
      -- top
      refine qA_set (K := K) (ea_maxN (ns := st'.keys) (m := top) (fun Q q => ⟨.ref st.F, rfl, st.F, CF K, st'.dx, _, .ref st'.S, rfl, hF2, T.clF, T.nF_sizes, rfl, st'.S, _, rfl, fa2.hS, fun p hp => q (.ref p) _ _ (Stp.new fa2.gh hp) ⟨p, _, rfl, upd_same, by
        unfold enc Fl.keys
        rw [List.map_map]
        generalize st'.sz = l
        induction l with
        | nil => exact .nil
        | cons x l ih => exact .cons rfl ih⟩⟩) mt mle) fun v1 G3 H3 s3 r3 => ?_
      obtain rfl : v1 = .int (top : Int) := r3
      have fa3 := fa2.on s3
      have t3 := t2.trans s3
      -- great
      refine ⟨st'.S, .dK (enc encR st'.sz), fa3.hS, trivial, fun od => ?_⟩
      have nFS : st'.F ≠ st'.S := fun z => by
        have := fa3.hF
        rw [z, fa3.hS] at this
        cases this
      have ghL : Same G3 (upd H3 st'.S (.frz od (.dK (enc encR st'.sz)))) := fun b u e => by
        rw [upd_ne (ne_of_none e (fa3.ga _ st'.mS))]
        exact fa3.gh b u e
      have hFL : (upd H3 st'.S (.frz od (.dK (enc encR st'.sz)))) st.F = some (.ins (CF K) st'.dx [("works", st'.vw), ("sizes", .ref st'.S), ("done", .ref st'.Dn), ("kept", .ref st'.Kq)]) := by
        rw [← eF, upd_ne nFS]
        exact fa3.hF
      have gF3 : G3 st.F = none := by
        rw [← eF]
        exact fa3.ga _ st'.mF
      refine ⟨.ref st.F, rfl, st.F, CF K, st'.dx, _, .ref st'.S, rfl, hFL, T.clF, T.nF_sizes, rfl, st'.S, od, rfl, .inl ⟨_, upd_same, fun L hL => ?_⟩⟩
      generalize hHL : upd H3 st'.S (.frz od (.dK (enc encR st'.sz))) = HL at ghL hFL hL
      have hSL : HL st'.S = some (.frz od (.dK (enc encR st'.sz))) := by rw [← hHL, upd_same]
      refine lc_it walk_keys (fun i H' => Cw K G3 HL L (fm (st'.keys.take i) (fun k => decide (k = top) || decide (top / wd.p + 1 < k)) (fun k => k)) H') (Cw.nil ghL hL) (fun i H' _ cwi => ?_) (fun i x Hc Hc' hi cwi y => ?_) (fun Hc cwi => ?_)
      · obtain ⟨G', vs, s', _, _, _⟩ := cwi
        exact (s'.own (fa3.ga _ st'.mS) hSL (fun _ z => by cases z)).2
      · obtain ⟨rfl, k, v, hk, rfl⟩ := y
        have hks : st'.sz[i]? = some st'.sz[i] := List.getElem?_eq_getElem (by rw [← lenk]; exact hi)
        have ek : k = .inl ((st'.sz[i]'(by rw [← lenk]; exact hi)).1 : Int) := by
          unfold enc at hk
          rw [List.getElem?_map, hks] at hk
          exact (congrArg Prod.fst (Option.some.inj hk)).symm
        have hkk : st'.keys[i]? = some (st'.sz[i]'(by rw [← lenk]; exact hi)).1 := by
          unfold Fl.keys
          rw [List.getElem?_map, hks] <;> rfl
        generalize (st'.sz[i]'(by rw [← lenk]; exact hi)).1 = k0 at ek hkk
        subst ek
        refine ⟨rfl, ?_⟩
        have hlen : (fm (st'.keys.take i) (fun k => decide (k = top) || decide (top / wd.p + 1 < k)) (fun k => k)).length < 50000 := by
          have a1 := fm_len (st'.keys.take i) (fun k => decide (k = top) || decide (top / wd.p + 1 < k)) (fun k => k)
          have a2 := List.length_take_le' i st'.keys
          have a3 := len_U (l := st'.sz) fa3.ok.ks fun x hx => (fa3.ok.ku x hx).1
          have a4 : st'.keys.length = st'.sz.length := List.length_map _
          have a5 := un.ln
          omega
        refine Cw.turnA (x := k0) (b := decide (k0 = top) || decide (top / wd.p + 1 < k0)) cwi hL hlen (fun G1 H1 s1 => eta_or (eta_t (ea_eqN (ev_var (x := k0) rfl) (ev_var (x := top) rfl) s1.gh)) fun _ G4 H4 s4 => ?_) (fun hb G1 H1 s1 => (ev_var (x := k0) rfl).at_ s1.gh) fun H2' w2 => ?_
        · have s14 := s1.trans s4
          obtain ⟨_, hF4⟩ := s14.own gF3 hFL (fun _ z => by cases z)
          refine eta_t (ea_gt ((ev_var (x := k0) rfl).at_ s4.gh) fun G5 H5 s5 => ea_add (ea_div ((ev_var (x := top) rfl).at_ s5.gh) (fun G6 H6 s6 => ea_parts T (fun Q q => ?_)) (by have := g.p2; omega) (by have := g.p9; omega)) fun G6 H6 s6 => (ev_n (n := 1)).at_ s6.gh)
          obtain ⟨_, hF6⟩ := ((s14.trans s5).trans s6).own gF3 hFL (fun _ z => by cases z)
          exact ⟨.ref st.F, rfl, st.F, CF K, st'.dx, _, st'.vw, rfl, hF6, T.clF, T.nF_works, rfl, q _ G6 H6 (Stp.refl s6.gh) (Rep.mono ((s14.trans s5).trans s6).gg fa3.rw)⟩
        · show Cw K G3 HL L (fm (st'.keys.take (i + 1)) _ _) H2'
          rw [take_snoc hkk, fm_snoc]
          exact w2
      · have lk2 : st'.keys.take (enc encR st'.sz).length = st'.keys := by
          rw [lenk, show st'.sz.length = st'.keys.length from (List.length_map _).symm, List.take_length]
        rw [lk2] at cwi
        obtain ⟨G5, vs, s5, gL5, hL5, r5⟩ := cwi
        obtain ⟨_, hS5⟩ := s5.own (fa3.ga _ st'.mS) hSL (fun _ z => by cases z)
        refine ⟨hS5, ?_⟩
        rw [← hHL] at s5
        obtain ⟨s6, gS6⟩ := Stp.unlock fa3.gh (fa3.ga _ st'.mS) fa3.hS (fun _ z => by cases z) (fun _ z => by cases z) s5
        have nLS : L ≠ st'.S := fun z => by
          rw [z, hSL] at hL
          cases hL
        have hL3 : H3 L = none := by
          rw [← hHL, upd_ne nLS] at hL
          exact hL
        have hL6 : (upd Hc st'.S (.dK (enc encR st'.sz))) L = some (.lst vs) := by
          rw [upd_ne nLS]
          exact hL5
        have s7 := s6.frz hL3 gL5 hL6
        have rg : rp K (upd G5 L (.lst vs)) (.ref L) (fm st'.keys (fun k => decide (k = top) || decide (top / wd.p + 1 < k)) (fun k => k)) := ⟨L, vs, rfl, upd_same, r5.mp fun _ _ r => Rep.mono (same_new gL5) r⟩
        generalize upd G5 L (.lst vs) = G7 at s7 rg
        generalize upd Hc st'.S (.dK (enc encR st'.sz)) = H7 at s7
        have memg : ∀ k ∈ fm st'.keys (fun k => decide (k = top) || decide (top / wd.p + 1 < k)) (fun k => k), k ∈ st'.keys := fun k hk => by
          obtain ⟨x, h1, _, h3⟩ := mem_fm.mp hk
          rw [← h3]
          exact h1
        have memt : top ∈ fm st'.keys (fun k => decide (k = top) || decide (top / wd.p + 1 < k)) (fun k => k) := mem_fm.mpr ⟨top, mt, by rw [decide_eq_true rfl] <;> rfl, rfl⟩
        generalize fm st'.keys (fun k => decide (k = top) || decide (top / wd.p + 1 < k)) (fun k => k) = gl at rg memg memt
        have fa7 := fa3.on s7
        have t7 := t3.trans s7
        refine ea_sortRev (ns := gl) ((ev_var rg).at_ s7.gh) _ fun v8 G8 H8 ms s8 r8 pm => ?_
        have fa8 := fa7.on s8
        have t8 := t7.trans s8
        obtain ⟨a, vs8, e1, e2, e3⟩ := r8
        refine ⟨a, e1, ⟨vs8, SqL.of (s8.gh _ _ e2)⟩, for_list (xs := vs8) (fun i σ' H' => ∃ x2 G' st5, σ' = [some (.ref st.F), some (.int (top : Int)), x2, some (.ref L)] ∧ Same G8 G' ∧ Stp K G (mns H st.adr) G' H' ∧ FA K G' H' wd U st5 ∧ Nw H st st5 ∧ st5.F = st.F ∧
          (∀ b, waitS wd b st5.sz + keptS b st5.kp = waitS wd b st.sz + keptS b st.kp) ∧ (∀ q, q ∈ st5.keys → q ≤ top) ∧ (top ∈ ms.take i → top ∉ st5.keys)) ⟨x2, G8, st', rfl, Same.refl G8, t8, fa8, nw, eF, ewt, mle, fun z => by cases z⟩ ?_ ?_ ?_⟩
        · rintro i σ' H' _ ⟨_, G', st5, _, sg, s5, f5, _⟩
          exact SqL.of (f5.gh _ _ (sg _ _ e2))
        · rintro i v σ' H9 hi ⟨x2, G9, st5, rfl, sg, s9, f5, n5, eF5, w5, k5, o5⟩
          obtain ⟨k, hk, rk⟩ := e3.getV hi
          obtain rfl : v = .int (k : Int) := rk
          have hkm := memg k (pm.mem_iff.mp (List.mem_of_getElem? hk))
          refine ⟨.ref st.F, rfl, st.F, st5.dx, _, rfl, by rw [← eF5]; exact f5.hF, rfl, .int (k : Int), rfl, G9, wd, U, st5, k, by rw [eF5]; rfl, f5, un, g, mU k hkm, fun G10 H10 st6 s10 f6 n6 gr => ?_⟩
          obtain ⟨s11, n11⟩ := fa.step f5 s9 n5 s10 n6
          have hkt := mle k hkm
          refine ⟨_, G10, st6, rfl, sg.trans s10.gg, s11, f6, n11, gr.F.trans eF5, fun b => (gr.wt b).trans (w5 b), fun q hq => ?_, fun z hq => ?_⟩
          · rcases gr.ke q hq with h | h
            · exact k5 q h
            · omega
          · rw [take_snoc hk] at z
            rcases List.mem_append.mp z with z | z
            · rcases gr.ke top hq with h | h
              · exact o5 z h
              · omega
            · rw [List.mem_singleton.mp z] at hq
              exact gr.out hq
        · rintro σ' H9 ⟨x2, G9, st5, rfl, sg, s9, f5, n5, eF5, w5, k5, o5⟩
          rw [e3.len, List.take_length] at o5
          have hout := o5 (pm.mem_iff.mpr memt)
          refine ⟨top, ekm top mt, _, _, _, G9, st5, rfl, s9, f5, n5, eF5, w5, fun q hq => ?_⟩
          have := k5 q hq
          exact Nat.lt_of_le_of_ne this fun z => hout (z ▸ hq)
    · have e : st'.sz = [] := List.length_eq_zero_iff.mp (Nat.eq_zero_of_not_pos (of_decide_eq_false e))
      exact q G2 H2 st' (t.trans s2) (fa'.on s2) nw ⟨eF, ewt, by unfold Fl.keys; rw [e]; rfl⟩
end
end Mw
namespace Mw
open PySem PySem.Spec PyProof.Rows L2
/-- sorted -/
def srt (l : List Nat) : List Nat := l.mergeSort fun a b => decide (a ≤ b)
theorem srt_perm (l : List Nat) : (srt l).Perm l := List.mergeSort_perm l _
theorem srt_sorted (l : List Nat) : (srt l).Pairwise (· ≤ ·) := by
  refine (List.pairwise_mergeSort (le := fun a b : Nat => decide (a ≤ b)) (fun x y z h1 h2 => ?_) (fun x y => ?_) l).imp fun h => of_decide_eq_true h
  · have h1 := of_decide_eq_true h1
    have h2 := of_decide_eq_true h2
    exact decide_eq_true (by omega)
  · rcases Nat.le_total x y with h | h
    · rw [decide_eq_true h] <;> rfl
    · rw [decide_eq_true h, Bool.or_true]
section
variable {K : PySem.W.Frag} {σ : L2.St} {G H G2 H2 : Hp} {ta tb tc te : TE} {t u : TT} {α β : Type} [Rep α] [Rep β]
/-- sorted of numbers, at one heap -/
theorem ea_sortedF {ns : List Nat} (ha : EA K ta σ G H ns) : EA K (tCB (rSortedI K) (tCons ta tNil)) σ G H (srt ns) := fun Q q => ha _ fun v G2 H2 s ⟨p, vs, e1, e2, e3⟩ => by
  rw [nats_of e3] at e2
  refine ⟨p, _, by rw [e1], SqL.of (s.gh _ _ e2), fun ns' d hp ho hd => ?_⟩
  have nn : ∀ m ∈ ns', ∃ n : Nat, m = (n : Int) := fun m hm => by
    obtain ⟨n, _, e⟩ := List.mem_map.mp (hp.mem_iff.mp hm)
    exact ⟨n, e.symm⟩
  have hpm : (ns'.map Int.toNat).Perm ns := by
    have h := hp.map Int.toNat
    rw [List.map_map, show (Int.toNat ∘ fun n : Nat => (n : Int)) = id from funext fun n => Int.toNat_natCast n, List.map_id] at h
    exact h
  have es : srt ns = ns'.map Int.toNat := by
    refine List.Perm.eq_of_pairwise (le := (· ≤ ·)) (fun a b _ _ h1 h2 => Nat.le_antisymm h1 h2) (srt_sorted ns) (List.pairwise_map.mpr (ho.imp fun {a b} h => by omega)) ((srt_perm ns).trans hpm.symm)
  refine q (.ref d) _ _ (s.trans (Stp.new s.gh hd)) ⟨d, _, rfl, upd_same, ?_⟩
  rw [es]
  clear hp hpm hd q ho es
  induction ns' with
  | nil => exact .nil
  | cons m l ih =>
    obtain ⟨n, e⟩ := nn m List.mem_cons_self
    refine .cons ?_ (ih fun x hx => nn x (List.mem_cons_of_mem _ hx))
    rw [e]
    show V.int (n : Int) = V.int ((((n : Nat) : Int).toNat : Nat) : Int)
    rw [Int.toNat_natCast]
end
/-- what a lot weighs -/
def wtl (l : List (Nat × Nat)) : Nat := sumN (fun x => x.2 * x.1) l
theorem sum_perm {l m : List Nat} (f : Nat → Nat) (h : l.Perm m) : (l.map f).sum = (m.map f).sum := (h.map f).sum_nat
theorem wtl_rise {c : List (Nat × Nat)} (nd : (c.map (·.1)).Nodup) {ms : List Nat} (pm : ms.Perm (c.map (·.1))) : wtl (fm ms (fun k => decide (0 < (getN c k).getD 0)) fun k => (k, (getN c k).getD 0)) = wtl c := by
  have h1 : ∀ l : List Nat, wtl (fm l (fun k => decide (0 < (getN c k).getD 0)) fun k => (k, (getN c k).getD 0)) = (l.map fun k => (getN c k).getD 0 * k).sum := fun l => by
    induction l with
    | nil => rfl
    | cons k l ih =>
      unfold fm at ih ⊢
      rw [List.filter_cons]
      by_cases h : 0 < (getN c k).getD 0
      · rw [if_pos (decide_eq_true h), List.map_cons, List.map_cons, List.sum_cons, ← ih]
        unfold wtl
        rw [sumN_cons]
      · rw [if_neg (by rw [decide_eq_false h]; decide), List.map_cons, List.sum_cons, ih, show (getN c k).getD 0 = 0 by omega, Nat.zero_mul, Nat.zero_add]
  rw [h1, sum_perm _ pm, List.map_map]
  unfold wtl sumN
  congr 1
  refine List.map_congr_left fun x hx => ?_
  show (getN c x.1).getD 0 * x.1 = _
  rw [getN_of nd hx] <;> rfl
def risen (c : List (Nat × Nat)) : List (Nat × Nat) := fm (srt (c.map (·.1))) (fun k => decide (0 < (getN c k).getD 0)) fun k => (k, (getN c k).getD 0)
theorem wtl_risen {c : List (Nat × Nat)} (nd : (c.map (·.1)).Nodup) : wtl (risen c) = wtl c := wtl_rise nd (srt_perm _)
abbrev spRis (K : PySem.W.Frag) : Sp := fun vs H Q _ => ∃ G B c, vs = [.ref B] ∧ Same G H ∧ G B = none ∧ H B = some (.dK (enc encI c)) ∧ (c.map (·.1)).Nodup ∧ c.length ≤ 20000 ∧
  ∀ w G' H', Stp K G H G' H' → rp K G' w (risen c) → Q w H'
section
variable {P : Program} {w : World} {K : PySem.W.Frag} {mg : Str → Option Value} {base : Heap}
theorem c_rising (h : Has K mg "rising" d_rising) (T : Tx K mg base) : Cal P w K mg base "rising" 1 ["counted"] (spRis K) := by
  refine h.cal sc_rising (fun _ _ _ _ _ _ us hl => match us, hl with | [_], _ => rfl) (fun vs H Q E h => ?_) (fun f cdv A outer s0 H vs Q E hr h => ?_)
  · obtain ⟨_, _, _, rfl, _⟩ := h
    rfl
  · have hu := hu_of hr
    obtain ⟨G, B, c, rfl, gh, gB, hB, nd, hz, q⟩ := h
    refine ⟨_, (pss_one (ps_ret (pe_lc (own := [("size", 1)]) (g := (gName 1)) rfl sc_rising.nd (pi_list (pe_callB (sortK K) (by rfl) T.b_sorted (by decide +kernel) (pa_cons (pe_callTy (call_list_dK rfl) (by rfl) T.b_list (by decide +kernel) (pa_cons (pv 0) pa_nil)) pa_nil))) (blkOk_by (N := N_rising) (sc := defScope s_rising) (by decide +kernel)) (fun _ _ _ _ _ => (pg_name (i := 1) sc_rising.nd rfl (Or.inl rfl))) (fun _ _ _ _ _ => pts_one (pt_cmpR op_gt (pe_dget hu (pv 0) (pv 1) (fun _ _ => rfl)) pe_int (nomark _))) (fun _ _ _ _ _ => (pe_tup (pa_cons (pv 1) (pa_cons (pe_dget hu (pv 0) (pv 1) (fun _ _ => rfl)) pa_nil))))))), ?_⟩
    have get : ∀ {σ : L2.St} {G1 H1 : Hp} {k : Nat}, Stp K G H G1 H1 → σ[0]? = some (some (.ref B)) → σ[1]? = some (some (.int (k : Int))) → k ∈ c.map (·.1) → EA K (tDGet (tVar 0) (tVar 1)) σ G1 H1 ((getN c k).getD 0) := fun {σ G1 H1 k} s h0 h1 hk Q q => by
      obtain ⟨_, hB1⟩ := s.own gB hB (fun _ z => by cases z)
      refine ⟨.ref B, h0, .int (k : Int), h1, B, .int (((getN c k).getD 0 : Nat) : Int), rfl, ?_, q _ G1 H1 (Stp.refl s.gh) rfl⟩
      have := DGet.k (k := .inl (k : Int)) hB1
      rw [valV_enc] at this
      cases g : getN c k with
      | none => exact absurd hk (getN_none.mp g)
      | some y =>
        rw [g] at this
        exact this
    have mem : ∀ {i k : Nat}, (srt (c.map (·.1)))[i]? = some k → k ∈ c.map (·.1) := fun h => (srt_perm _).mem_iff.mp (List.mem_of_getElem? h)
    refine sA_ret (K := K) ((ewa_lcL (fun k => decide (0 < (getN c k).getD 0)) (fun k => (k, (getN c k).getD 0)) (ea_sortedF (ea_listD rfl hB gh)) (by rw [(srt_perm _).length_eq, List.length_map]; omega) (fun _ => rfl) (fun i k v G1 H1 s hk rk => ?_) (fun i k v G1 H1 s hk rk _ => ?_)).frz) fun v G2 H2 s r => q v G2 H2 s r
    · obtain rfl : v = .int (k : Int) := rk
      exact eta_t (ea_gtN (get s rfl rfl (mem hk)) fun G2 H2 s => (ev_n (n := 0)).at_ s.gh)
    · obtain rfl : v = .int (k : Int) := rk
      exact ea_t2 s.gh ((ev_var (x := k) rfl).at_ s.gh) fun G2 H2 s2 => get (s.trans s2) rfl rfl (mem hk)
end
end Mw
namespace Mw
open PySem PySem.Spec PyProof.Rows L2
def cont (kp : DD) (b : Nat) : List (Nat × Nat) := ((getN kp b).map (·.2)).getD []
def fbins (kp : DD) : List (Nat × List (Nat × Nat)) := (srt (kp.map (·.1))).map fun b => (b, risen (cont kp b))
theorem fbins_sum {wd : Wd} {U : List Nat} {st : Fl} (o : FlOk wd U st) (b : Nat) : sumN (fun x => if x.1 = b then wtl x.2 else 0) (fbins st.kp) = keptS b st.kp := by
  unfold fbins sumN keptS
  rw [List.map_map]
  have h : (fun x : Nat × List (Nat × Nat) => if x.1 = b then wtl x.2 else 0) ∘ (fun b => (b, risen (cont st.kp b))) = fun k => if k = b then wtl (risen (cont st.kp k)) else 0 := rfl
  rw [h, sum_perm _ (srt_perm _), List.map_map]
  unfold sumN
  congr 1
  refine List.map_congr_left fun e he => ?_
  show (if e.1 = b then wtl (risen (cont st.kp e.1)) else 0) = if e.1 = b then _ else 0
  have hc : cont st.kp e.1 = e.2.2 := by
    unfold cont
    rw [getN_of o.bk he] <;> rfl
  rw [hc, wtl_risen (o.bu e he).1] <;> rfl
theorem fbins_le {wd : Wd} {U : List Nat} {st : Fl} (g : Good wd) (o : FlOk wd U st) : ∀ x ∈ fbins st.kp, x.1 ≤ 5 := fun x hx => by
  obtain ⟨b, hb, rfl⟩ := List.mem_map.mp hx
  exact g.ok _ (o.bc b ((srt_perm _).mem_iff.mp hb))
abbrev spTold2 (K : PySem.W.Frag) : Sp := fun vs H Q _ => ∃ G wd U st, vs = [.ref st.F] ∧ FA K G H wd U st ∧ Uni wd U ∧ Good wd ∧
  ∀ w G' H' (dn : List Nat), Stp K G H G' H' → rp K G' w ((fbins st.kp, dn) : List (Nat × List (Nat × Nat)) × List Nat) → Q w H'
section
variable {P : Program} {w : World} {K : PySem.W.Frag} {mg : Str → Option Value} {base : Heap}
theorem c_Flow_told (h : HasM K (CF K) d_Flow_told) (T : Tx K mg base) (c_rising : Cal P w K mg base "rising" 1 ["counted"] (spRis K)) :
    CalM P w K mg base (He.ma K (CF K) "told") 2 ["self"] (spTold2 K) := by
  refine h.cal sc_Flow_told (fun _ _ _ _ _ _ us hl => match us, hl with | [_], _ => rfl) (fun vs H Q E h => ?_) (fun f cdv A outer s0 H vs Q E hr h => ?_)
  · obtain ⟨_, _, _, _, rfl, _⟩ := h
    rfl
  · have hu := hu_of hr
    obtain ⟨G, wd, U, st, rfl, fa, un, g, q⟩ := h
    refine ⟨_, (pss_cons (ps_setLc (i := 1) (own := [("number", 2)]) (g := (gName 2)) (tt := tYes) rfl sc_Flow_told.nd  rfl rfl (sw_true rfl rfl rfl (by decide +kernel)) (pi_list (pe_callB (sortK K) (by rfl) T.b_sorted (by decide +kernel) (pa_cons (pe_callTy (call_list_dK rfl) (by rfl) T.b_list (by decide +kernel) (pa_cons (fldK K (pv 0)) pa_nil)) pa_nil))) (blkOk_by (N := N_Flow_told) (sc := defScope s_Flow_told) (by decide +kernel)) (fun _ _ _ _ _ => (pg_name (i := 2) sc_Flow_told.nd rfl (Or.inl rfl))) (fun _ _ _ _ _ => pts_nil) (fun _ _ _ _ _ => (pe_tup (pa_cons (pv 2) (pa_cons (pe_c c_rising (hr.mono (by decide)) (pa_cons (pe_dget hu (fldK K (pv 0)) (pv 2) (fun _ _ => rfl)) pa_nil)) pa_nil)))))
      (pss_one (ps_ret (pe_tup (pa_cons (pv 1) (pa_cons (pe_callTy (listK K) (by rfl) T.b_list (by decide +kernel) (pa_cons (fldK K (pv 0)) pa_nil)) pa_nil)))))), ?_⟩
    have mem : ∀ {i k : Nat}, (srt (st.kp.map (·.1)))[i]? = some k → k ∈ st.kp.map (·.1) := fun h => (srt_perm _).mem_iff.mp (List.mem_of_getElem? h)
    have lenk : (srt (st.kp.map (·.1))).length < 50000 := by
      rw [(srt_perm _).length_eq]
      have := nodup_le fa.ok.bk (m := List.range 6) fun b hb => List.mem_range.mpr (by
        have : b ≤ 5 := g.ok _ (fa.ok.bc b hb)
        omega)
      rw [List.length_range] at this
      omega
    refine qA_set (K := K) ((ewa_lcL (fun _ => true) (fun b => (b, risen (cont st.kp b))) (ea_sortedF (ns := st.kp.map (·.1)) (fun Q q => ⟨.ref st.F, rfl, st.F, CF K, st.dx, _, .ref st.Kq, rfl, fa.hF, T.clF, T.nF_kept, rfl, st.Kq, _, rfl, fa.hK, fun p hp => q (.ref p) _ _ (Stp.new fa.gh hp) ⟨p, _, rfl, upd_same, by
        unfold enc
        rw [List.map_map]
        generalize st.kp = l
        induction l with
        | nil => exact .nil
        | cons x l ih => exact .cons rfl ih⟩⟩)) lenk (fun _ => rfl) (fun i k v G1 H1 s hk rk => eta_yes s.gh) (fun i k v G1 H1 s hk rk _ => ?_)).frz) fun v1 G2 H2 s2 r2 => ?_
    · obtain rfl : v = .int (k : Int) := rk
      refine ea_t2 s.gh ((ev_var (x := k) rfl).at_ s.gh) fun G2 H2 s2 => fun Q q => ?_
      have fa2 := fa.on (s.trans s2)
      have hk2 := mem hk
      cases gk : getN st.kp k with
      | none => exact absurd hk2 (getN_none.mp gk)
      | some y =>
        have hy := getN_mem gk
        have hB := fa2.hk _ hy
        have ec : cont st.kp k = y.2 := by
          unfold cont
          rw [gk] <;> rfl
        refine ⟨.ref st.F, rfl, st.F, CF K, st.dx, _, .ref st.Kq, rfl, fa2.hF, T.clF, T.nF_kept, rfl, .int (k : Int), rfl, st.Kq, .ref y.1, rfl, ?_, G2, y.1, y.2, rfl, fa2.gh, fa2.ga _ (Fl.mk' hy), hB, (fa2.ok.bu _ hy).1, Nat.le_trans (len_U (l := y.2) (fa2.ok.bu _ hy).1 (fa2.ok.bu _ hy).2) un.ln, fun w G' H' s' r' => ?_⟩
        · have := DGet.k (k := .inl (k : Int)) fa2.hK
          rw [valV_enc, gk] at this
          exact this
        · rw [ec] at q
          exact q w G' H' s' r'
    · rw [fm_yes] at r2
      have fa2 := fa.on s2
      have dn : ∃ dn : List Nat, st.dn = dn.map encI := by
        have := fa2.ok.di
        generalize st.dn = l at this
        induction l with
        | nil => exact ⟨[], rfl⟩
        | cons v l ih =>
          obtain ⟨n, e⟩ := this v List.mem_cons_self
          obtain ⟨dn, e2⟩ := ih fun x hx => this x (List.mem_cons_of_mem _ hx)
          exact ⟨n :: dn, by rw [e, e2]; rfl⟩
      obtain ⟨dn, edn⟩ := dn
      refine sA_ret (K := K) (ea_t2 (x := fbins st.kp) (y := dn) s2.gh ((ev_var r2).at_ s2.gh) fun G3 H3 s3 => fun Q q => ?_) fun w G3 H3 s3 r3 => q w G3 H3 dn (s2.trans s3) r3
      have fa3 := fa2.on s3
      refine ⟨.ref st.F, rfl, st.F, CF K, st.dx, _, .ref st.Dn, rfl, fa3.hF, T.clF, T.nF_done, rfl, st.Dn, _, rfl, .inl (SqL.of fa3.hD), fun p hp => q (.ref p) _ _ (Stp.new fa3.gh hp) ⟨p, _, rfl, upd_same, ?_⟩⟩
      rw [edn]
      clear q edn
      induction dn with
      | nil => exact .nil
      | cons x l ih => exact .cons rfl ih
end
end Mw
namespace Mw
open PySem PySem.Spec PyProof.Rows L2
/-- the numbers of the bins -/
def binNo : Row → Nat
  | .bin b => b
  | _ => 0
def binsOf (l : List Row) : List Nat := fm l Row.isB binNo
theorem mem_binsOf {l : List Row} {b : Nat} : b ∈ binsOf l ↔ Row.bin b ∈ l := by
  unfold binsOf
  rw [mem_fm]
  constructor
  · rintro ⟨r, h1, h2, h3⟩
    cases r with
    | bin k =>
      have h3 : k = b := h3
      exact h3 ▸ h1
    | mesh o u v => cases h2
    | crush t => cases h2
  · intro h
    exact ⟨_, h, rfl, rfl⟩
/-- later ones in the place of earlier ones -/
def mergeN (l : List (Nat × Addr)) : List (Nat × Addr) := l.foldl (fun d x => setN d x.1 x.2) []
theorem merge_enc (l : List (Nat × Addr)) : mergeK [] (enc V.ref l) = enc V.ref (mergeN l) := by
  have h : ∀ (l acc : List (Nat × Addr)), mergeK (enc V.ref acc) (enc V.ref l) = enc V.ref (l.foldl (fun d x => setN d x.1 x.2) acc) := fun l => by
    induction l with
    | nil => exact fun acc => rfl
    | cons x l ih =>
      intro acc
      have e : putK (enc V.ref acc) (.inl (x.1 : Int)) (V.ref x.2) = enc V.ref (setN acc x.1 x.2) := putK_enc V.ref x.1 x.2 acc
      show mergeK (putK (enc V.ref acc) (.inl (x.1 : Int)) (V.ref x.2)) (enc V.ref l) = _
      rw [e]
      exact ih (setN acc x.1 x.2)
  exact h l []
theorem mergeN_spec (l : List (Nat × Addr)) : ((mergeN l).map (·.1)).Nodup ∧ (∀ x ∈ mergeN l, x ∈ l) ∧ ∀ b, b ∈ (mergeN l).map (·.1) ↔ b ∈ l.map (·.1) := by
  have h : ∀ (l acc : List (Nat × Addr)), (acc.map (·.1)).Nodup → ((l.foldl (fun d x => setN d x.1 x.2) acc).map (·.1)).Nodup ∧ (∀ x ∈ l.foldl (fun d x => setN d x.1 x.2) acc, x ∈ acc ∨ x ∈ l) ∧ ∀ b, b ∈ (l.foldl (fun d x => setN d x.1 x.2) acc).map (·.1) ↔ b ∈ acc.map (·.1) ∨ b ∈ l.map (·.1) := fun l => by
    induction l with
    | nil => exact fun acc h => ⟨h, fun x hx => .inl hx, fun b => by simp⟩
    | cons y l ih =>
      intro acc h
      obtain ⟨h1, h2, h3⟩ := ih (setN acc y.1 y.2) (nodup_setN h)
      refine ⟨h1, fun x hx => ?_, fun b => ?_⟩
      · rcases h2 x hx with z | z
        · rcases mem_setN.mp z with z | z
          · exact .inl z.1
          · exact .inr (by rw [z]; exact List.mem_cons_self)
        · exact .inr (List.mem_cons_of_mem _ z)
      · show b ∈ (l.foldl (fun d x => setN d x.1 x.2) (setN acc y.1 y.2)).map (·.1) ↔ _
        rw [h3 b, mem_key_setN, List.map_cons, List.mem_cons, or_assoc]
  obtain ⟨h1, h2, h3⟩ := h l [] List.nodup_nil
  exact ⟨h1, fun x hx => (h2 x hx).elim (fun z => by cases z) id, fun b => by rw [show mergeN l = l.foldl (fun d x => setN d x.1 x.2) [] from rfl, h3 b]; simp⟩
theorem inj_snd {l : List (Nat × Addr)} (nd : (l.map (·.2)).Nodup) {x y : Nat × Addr} (hx : x ∈ l) (hy : y ∈ l) (e : x.2 = y.2) : x = y := by
  obtain ⟨i, hi, ei⟩ := List.mem_iff_getElem.mp hx
  obtain ⟨j, hj, ej⟩ := List.mem_iff_getElem.mp hy
  have hij : i = j := by
    refine (List.getElem_inj nd (h₀ := by rw [List.length_map]; exact hi) (h₁ := by rw [List.length_map]; exact hj)).mp ?_
    rw [List.getElem_map, List.getElem_map, ei, ej, e]
  subst hij
  rw [← ei, ej]
theorem nodup_snd {bs : List (Nat × Addr)} (nd : (bs.map (·.2)).Nodup) : ∀ {l : List (Nat × Addr)}, (l.map (·.1)).Nodup → (∀ x ∈ l, x ∈ bs) → (l.map (·.2)).Nodup
  | [], _, _ => List.nodup_nil
  | x :: l, h, hs => by
    obtain ⟨h1, h2⟩ := List.nodup_cons.mp h
    refine List.nodup_cons.mpr ⟨fun z => ?_, nodup_snd nd h2 fun y hy => hs y (List.mem_cons_of_mem _ hy)⟩
    obtain ⟨y, hy, e⟩ := List.mem_map.mp z
    have := inj_snd nd (hs y (List.mem_cons_of_mem _ hy)) (hs x List.mem_cons_self) e
    exact h1 (by show x.1 ∈ _; rw [← this]; exact List.mem_map_of_mem (f := (·.1)) hy)
/-- the tables of the bins -/
def kpOf (l : List (Nat × Addr)) : DD := (mergeN l).map fun x => (x.1, x.2, [])
theorem enc_kpOf (l : List (Nat × Addr)) : enc encR (kpOf l) = enc V.ref (mergeN l) := by
  unfold kpOf enc
  rw [List.map_map] <;> rfl
theorem kept_kpOf (b : Nat) (l : List (Nat × Addr)) : keptS b (kpOf l) = 0 := by
  unfold keptS kpOf
  generalize mergeN l = m
  induction m with
  | nil => rfl
  | cons x m ih =>
    rw [List.map_cons, sumN_cons, ih]
    show (if x.1 = b then 0 else 0) + 0 = 0
    split <;> rfl
abbrev spFInit (K : PySem.W.Frag) : Sp := fun vs H Q _ => ∃ G H0 x dx v2 wd U, vs = [.ref x, v2] ∧ Same G H0 ∧ H0 x = none ∧ H0 dx = none ∧ dx ≠ x ∧ H = upd (upd H0 dx (.own x)) x (.ins (CF K) dx []) ∧ rp K G v2 (wd : Wd) ∧ Uni wd U ∧ Good wd ∧
  ∀ G' H' st, Stp K G H0 G' H' → FA K G' H' wd U st → st.F = x → (∀ a ∈ st.adr, H0 a = none) → st.sz = [] → (∀ b, keptS b st.kp = 0) → Q .non H'
end Mw
namespace Mw
open PySem PySem.Spec PyProof.Rows L2
theorem q_fldW {K : PySem.W.Frag} {σ : L2.St} {G H : Hp} {te : TE} {α : Type} [Rep α] {l : List α} {D : Ends} {tz : TS} {f : Str} {i : Nat} {p C dx : Addr} {fs : List (Str × V)} (hi : σ[i]? = some (some (.ref p))) (gp : G p = none) (hp : H p = some (.ins C dx fs)) (c : Cls K C) (n : NoAttr K C f) (hl : fs.length < 1000) (gh : Same G H) (h : EvW K te σ G l)
    (k : ∀ L vs G2 H2, Stp K G H G2 H2 → H L = none → G2 L = none → H2 L = some (.lst vs) → All2 (rp K G2) vs l → H2 p = some (.ins C dx fs) → G2 p = none → tz D σ (upd H2 p (.ins C dx (putF f (.ref L) fs)))) : tSeq (sFld K (tVar i) te f) tz D σ H :=
  h.at_ gh _ fun L vs G2 H2 s nL gL hL r => by
    obtain ⟨e1, e2⟩ := s.own gp hp (fun _ z => by cases z)
    exact ⟨.ref p, hi, p, C, dx, fs, rfl, e2, c, n, hl, k L vs G2 H2 s nL gL hL r e2 e1⟩
theorem pmap {α β : Type} {R S : α → β → Prop} (h : ∀ a b, R a b → S a b) : ∀ {l : List α} {m : List β}, Paired R l m → Paired S l m
  | _, _, .nil => .nil
  | _, _, .cons r t => .cons (h _ _ r) (pmap h t)
theorem papp {α β : Type} {R : α → β → Prop} : ∀ {l l' : List α} {m m' : List β}, Paired R l m → Paired R l' m' → Paired R (l ++ l') (m ++ m')
  | _, _, _, _, .nil, s => s
  | _, _, _, _, .cons r t, s => .cons r (papp t s)
section
variable {P : Program} {w : World} {K : PySem.W.Frag} {mg : Str → Option Value} {base : Heap}
theorem c_Flow_init (h : HasM K (CF K) d_Flow_init) (T : Tx K mg base) : CalM P w K mg base (He.ma K (CF K) "__init__") 1 ["self", "works"] (spFInit K) := by
  refine h.cal sc_Flow_init (fun _ _ _ _ _ _ us hl => match us, hl with | [_, _], _ => rfl) (fun vs H Q E h => ?_) (fun f cdv A outer s0 H vs Q E hr h => ?_)
  · obtain ⟨_, _, _, _, _, _, _, rfl, _⟩ := h
    rfl
  · have hu := hu_of hr
    obtain ⟨G, H0, x, dx, v2, wd, U, rfl, gh0, nx, nd, ne, rfl, r2, un, g, q⟩ := h
    refine ⟨_, (pss_cons (ps_fld (pv 0) (pv 1) rfl)
      (pss_cons (ps_fld (pv 0) pe_dnewK rfl)
      (pss_cons (ps_fld (pv 0) (pe_lc (own := [("row", 2)]) (g := (gName 2)) (tt := tYes) rfl sc_Flow_init.nd (pi_list (fldK K (pv 1))) (blkOk_by (N := N_Flow_init) (sc := defScope s_Flow_init) (by decide +kernel)) (fun _ _ _ _ _ => (pg_name (i := 2) sc_Flow_init.nd rfl (Or.inl rfl))) (fun _ _ _ _ _ => pts_nil) (fun _ _ _ _ _ => pe_int)) rfl)
      (pss_one (ps_fld (pv 0) (pe_callTy (dictK K) (by rfl) T.b_dict (by decide +kernel) (pa_cons (pe_lc (own := [("row", 2)]) (g := (gName 2)) rfl sc_Flow_init.nd (pi_list (fldK K (pv 1))) (blkOk_by (N := N_Flow_init) (sc := defScope s_Flow_init) (by decide +kernel)) (fun _ _ _ _ _ => (pg_name (i := 2) sc_Flow_init.nd rfl (Or.inl rfl))) (fun _ _ _ _ _ => pts_one (pt_cmpR op_eq (pe_ix (ixT K) (pv 2) pe_int (fun _ _ => rfl)) pe_str (nomark _))) (fun _ _ _ _ _ => (pe_tup (pa_cons (pe_ix (ixT K) (pv 2) pe_int (fun _ _ => rfl)) (pa_cons pe_dnewK pa_nil))))) pa_nil)) rfl))))), ?_⟩
    have n12 := g.n12
    have nx1 : upd H0 dx (.own x) x = none := by
      rw [upd_ne ne.symm]
      exact nx
    have s0 : Stp K G H0 G (upd (upd H0 dx (.own x)) x (.ins (CF K) dx [])) := (Stp.raw gh0 nd).trans (Stp.raw (gh0.trans (same_new nd)) nx1)
    have gx : G x = none := gh0.free nx
    -- works
    refine q_fld (K := K) rfl gx upd_same T.clF T.nF_works (by decide) s0.gh (ev_var (x := wd) r2) fun v1 G1 H1 s1 r1 e1 g1 => ?_
    have t1 : Stp K G H0 G1 (upd H1 x (.ins (CF K) dx [("works", v1)])) := (s0.trans s1).put nx g1 e1 (fun _ z => by cases z) (fun _ z => by cases z)
    generalize hX1 : upd H1 x (.ins (CF K) dx [("works", v1)]) = X1 at t1
    have hx1 : X1 x = some (.ins (CF K) dx [("works", v1)]) := by rw [← hX1, upd_same]
    show tSeq _ _ _ _ (upd H1 x (.ins (CF K) dx [("works", v1)]))
    rw [hX1]
    -- sizes
    refine fun S hS => ⟨.ref x, rfl, x, CF K, dx, _, rfl, by rw [upd_ne (ne_of_none hx1 hS)]; exact hx1, T.clF, T.nF_sizes, (by show 1 < 1000; decide), ?_⟩
    have nxS : x ≠ S := ne_of_none hx1 hS
    have t2 : Stp K G H0 G1 (upd (upd X1 S (.dK [])) x (.ins (CF K) dx [("works", v1), ("sizes", .ref S)])) := (t1.trans (Stp.raw (o := .dK []) t1.gh hS)).put (u := .ins (CF K) dx [("works", v1)]) nx g1 (by rw [upd_ne nxS]; exact hx1) (fun _ z => by cases z) (fun _ z => by cases z)
    have gS : G1 S = none := t1.gh.free hS
    have S0 : H0 S = none := t1.free hS
    generalize hX2 : upd (upd X1 S (.dK [])) x (.ins (CF K) dx [("works", v1), ("sizes", .ref S)]) = X2 at t2
    have hx2 : X2 x = some (.ins (CF K) dx [("works", v1), ("sizes", .ref S)]) := by rw [← hX2, upd_same]
    have hS2 : X2 S = some (.dK []) := by rw [← hX2, upd_ne nxS.symm, upd_same]
    show tSeq _ _ _ _ (upd (upd X1 S (.dK [])) x (.ins (CF K) dx [("works", v1), ("sizes", .ref S)]))
    rw [hX2]
    -- done
    refine q_fldW (K := K) (l := fm wd.rows (fun _ => true) fun _ => (0 : Nat)) rfl g1 hx2 T.clF T.nF_done (by show 2 < 1000; decide) t2.gh (ew_lcL (fun _ => true) (fun _ : Row => (0 : Nat)) (ev_rows T (ev_var (Rep.mono t1.gg r2))) (by omega) (fun _ => rfl) (fun i x v G1 _ _ _ => et_yes) (fun i x v G1 _ _ _ _ => ev_n (n := 0))) fun Dn dvs G3 H3 s3 nDn gDn hDn rD hx3 gx3 => ?_
    obtain ⟨gS3, hS3⟩ := s3.own gS hS2 (fun _ z => by cases z)
    have nxD : x ≠ Dn := ne_of_none hx2 nDn
    have nSD : S ≠ Dn := ne_of_none hS2 nDn
    have gx3' := gx3
    have t3 : Stp K G H0 G3 (upd H3 x (.ins (CF K) dx [("works", v1), ("sizes", .ref S), ("done", .ref Dn)])) := (t2.trans s3).put nx gx3 hx3 (fun _ z => by cases z) (fun _ z => by cases z)
    have D0 : H0 Dn = none := t2.free nDn
    generalize hX3 : upd H3 x (.ins (CF K) dx [("works", v1), ("sizes", .ref S), ("done", .ref Dn)]) = X3 at t3
    have hx4 : X3 x = some (.ins (CF K) dx [("works", v1), ("sizes", .ref S), ("done", .ref Dn)]) := by rw [← hX3, upd_same]
    have hS4 : X3 S = some (.dK []) := by rw [← hX3, upd_ne nxS.symm]; exact hS3
    have hD4 : X3 Dn = some (.lst dvs) := by rw [← hX3, upd_ne nxD.symm]; exact hDn
    show sFld _ _ _ _ _ _ (upd H3 x (.ins (CF K) dx [("works", v1), ("sizes", .ref S), ("done", .ref Dn)]))
    rw [hX3]
    -- kept
    obtain ⟨pw, dw, qw, rfl, ew1, a, ws, e1, e2, e3⟩ := Rep.mono t3.gg r2
    cases e1
    refine ⟨.ref pw, rfl, pw, CW K, dw, _, .ref qw, rfl, t3.gh _ _ ew1, T.clW, T.nW_rows, rfl, ?_⟩
    have s5 : Stp K G3 X3 G3 X3 := Stp.refl t3.gh
    refine ⟨qw, rfl, ⟨ws, SqL.of (t3.gh _ _ e2)⟩, fun L hL => ?_⟩
    refine lc_list (xs := ws) (fun i H' => ∃ G' vs bs, Stp K G3 X3 G' H' ∧ G' L = none ∧ H' L = some (.lst (vs.map V.ref)) ∧ Paired (fun p kv => G' p = some (.tup [kV kv.1, kv.2])) vs (enc V.ref bs) ∧ (bs.map (·.2)).Nodup ∧ (∀ e ∈ bs, G' e.2 = none ∧ H' e.2 = some (.dK []) ∧ X3 e.2 = none ∧ e.2 ≠ L) ∧ bs.map (·.1) = binsOf (wd.rows.take i))
      ⟨G3, [], [], Stp.raw s5.gh hL, s5.gh.free hL, upd_same, .nil, List.nodup_nil, (fun e h => by cases h), rfl⟩ (fun i H' _ ⟨G', vs, bs, s', _⟩ => SqL.of (s'.gh _ _ (s'.gg _ _ e2))) (fun i v H' hi cw => ⟨rfl, ?_⟩) (fun H' cw => ?_)
    · obtain ⟨r, hr', rr⟩ := e3.getV hi
      obtain ⟨G', vs, bs, s', gL, hL', pr, ndb, ob, kb⟩ := cw
      have rr' := Rep.mono s'.gg rr
      have tk : binsOf (wd.rows.take (i + 1)) = if r.isB = true then binsOf (wd.rows.take i) ++ [binNo r] else binsOf (wd.rows.take i) := by
        unfold binsOf
        rw [take_snoc hr', fm_snoc]
      have hsm : vs.length ≤ 12 := by
        have e1 : vs.length = (enc V.ref bs).length := Paired.length pr
        have e2 : (enc V.ref bs).length = (bs.map (·.1)).length := by
          unfold enc
          rw [List.length_map, List.length_map]
        rw [e1, e2, kb]
        have a1 := fm_len (wd.rows.take i) Row.isB binNo
        have a2 := List.length_take_le' i wd.rows
        unfold binsOf
        omega
      refine (et_t (ev_isB (ev_var (i := 2) (σ := (wipe (start N_Flow_init [V.ref x, V.ref pw]) (List.map (fun x => x.snd) [((Str.ofString "row"), 2)])).set 2 (some v)) rr'))).at_ s'.gh _ fun G6 H6 s6 => ?_
      obtain ⟨gL6, hL6⟩ := s6.ownL gL hL'
      have pr6 : Paired (fun p kv => G6 p = some (.tup [kV kv.1, kv.2])) vs (enc V.ref bs) := pmap (fun p kv h => s6.gg _ _ h) pr
      have ob6 : ∀ e ∈ bs, G6 e.2 = none ∧ H6 e.2 = some (.dK []) ∧ X3 e.2 = none ∧ e.2 ≠ L := fun e he => by
        obtain ⟨o1, o2, o3, o4⟩ := ob e he
        obtain ⟨p1, p2⟩ := s6.own o1 o2 (fun _ z => by cases z)
        exact ⟨p1, p2, o3, o4⟩
      cases r with
      | mesh o u v => exact ⟨G6, vs, bs, s'.trans s6, gL6, hL6, pr6, ndb, ob6, by rw [kb, tk] <;> rfl⟩
      | crush t => exact ⟨G6, vs, bs, s'.trans s6, gL6, hL6, pr6, ndb, ob6, by rw [kb, tk] <;> rfl⟩
      | bin k =>
        refine (ev_b1 (ev_var (i := 2) (σ := (wipe (start N_Flow_init [V.ref x, V.ref pw]) (List.map (fun x => x.snd) [((Str.ofString "row"), 2)])).set 2 (some v)) (Rep.mono s6.gg rr'))).at_ s6.gh _ fun vk G7 H7 s7 rk => ?_
        obtain rfl : vk = .int (k : Int) := rk
        refine fun B hB => ⟨sz_of (by show 2 ≤ 100000; decide), fun p hp => ?_⟩
        have t7 := (s'.trans s6).trans s7
        obtain ⟨gL7, hL7⟩ := s7.ownL gL6 hL6
        have s8 : Stp K G7 H7 G7 (upd H7 B (.dK [])) := Stp.raw s7.gh hB
        obtain ⟨gL8, hL8⟩ := s8.ownL gL7 hL7
        have gB : G7 B = none := s7.gh.free hB
        have s9 : Stp K G7 (upd H7 B (.dK [])) (upd G7 p (.tup [.int (k : Int), .ref B])) (upd (upd H7 B (.dK [])) p (.tup [.int (k : Int), .ref B])) := Stp.new s8.gh hp
        obtain ⟨gL9, hL9⟩ := s9.ownL gL8 hL8
        obtain ⟨gB9, hB9⟩ := s9.own gB upd_same (fun _ z => by cases z)
        have t9 := (t7.trans s8).trans s9
        have nBL : B ≠ L := fun z => by
          rw [z, hL7] at hB
          cases hB
        have npL : p ≠ L := fun z => by
          rw [z, hL8] at hp
          cases hp
        have B3 : X3 B = none := t7.free hB
        refine ⟨vs.map V.ref, hL9, sz_lt (by rw [List.length_map]; omega), ?_⟩
        refine ⟨upd G7 p (.tup [.int (k : Int), .ref B]), vs ++ [p], bs ++ [(k, B)], t9.putL hL gL9 hL9, gL9, by rw [upd_same, List.map_append]; rfl, ?_, ?_, fun e he => ?_, ?_⟩
        · unfold enc
          rw [List.map_append]
          refine papp (pmap (fun p kv h => s9.gg _ _ (s7.gg _ _ h)) pr6) (.cons ?_ .nil)
          rw [upd_same] <;> rfl
        · rw [List.map_append]
          refine List.nodup_append.mpr ⟨ndb, by simp, fun a ha b hb z => ?_⟩
          obtain ⟨e, he, ee⟩ := List.mem_map.mp ha
          have hb : b = B := by simpa using hb
          have := (ob6 e he).2.1
          have h7 := (s7.own (ob6 e he).1 this (fun _ z => by cases z)).2
          rw [ee, z, hb, hB] at h7
          cases h7
        · rcases List.mem_append.mp he with he | he
          · obtain ⟨o1, o2, o3, o4⟩ := ob6 e he
            obtain ⟨p1, p2⟩ := ((s7.trans s8).trans s9).own o1 o2 (fun _ z => by cases z)
            exact ⟨p1, by rw [upd_ne o4]; exact p2, o3, o4⟩
          · rw [List.mem_singleton.mp he]
            exact ⟨gB9, by rw [upd_ne nBL]; exact hB9, B3, nBL⟩
        · rw [List.map_append, kb, tk] <;> rfl
    · obtain ⟨G', vs, bs, s', gL, hL', pr, ndb, ob, kb⟩ := cw
      have elen : ws.length = wd.rows.length := e3.len
      rw [elen, List.take_length] at kb
      refine ⟨L, vs, enc V.ref bs, rfl, SqL.of hL', pmap (fun p kv h => SqT.of (s'.gh _ _ h)) pr, fun Kq hKq => ?_⟩
      obtain ⟨gx5, hx5⟩ := s'.own gx3' hx4 (fun _ z => by cases z)
      obtain ⟨gS5, hS5⟩ := s'.own gS3 hS4 (fun _ z => by cases z)
      obtain ⟨gD5, hD5⟩ := s'.own gDn hD4 (fun _ z => by cases z)
      have nxK : x ≠ Kq := ne_of_none hx5 hKq
      have nSK : S ≠ Kq := ne_of_none hS5 hKq
      have nDK : Dn ≠ Kq := ne_of_none hD5 hKq
      refine ⟨.ref x, rfl, x, CF K, dx, _, rfl, by rw [upd_ne nxK]; exact hx5, T.clF, T.nF_kept, (by show 3 < 1000; decide), ?_⟩
      have t5 := t3.trans s'
      have t6 : Stp K G H0 G' (upd (upd H' Kq (.dK (mergeK [] (enc V.ref bs)))) x (.ins (CF K) dx [("works", v1), ("sizes", .ref S), ("done", .ref Dn), ("kept", .ref Kq)])) := (t5.trans (Stp.raw (o := .dK (mergeK [] (enc V.ref bs))) t5.gh hKq)).put (u := .ins (CF K) dx [("works", v1), ("sizes", .ref S), ("done", .ref Dn)]) nx gx5 (by rw [upd_ne nxK]; exact hx5) (fun _ z => by cases z) (fun _ z => by cases z)
      obtain ⟨m1, m2, m3⟩ := mergeN_spec bs
      have gK5 : G' Kq = none := t5.gh.free hKq
      have K0 : H0 Kq = none := t5.free hKq
      have kpm : ∀ e ∈ kpOf bs, ∃ y ∈ bs, e = (y.1, y.2, []) := fun e he => by
        obtain ⟨y, hy, rfl⟩ := List.mem_map.mp he
        exact ⟨y, m2 y hy, rfl⟩
      have kpa : ∀ B ∈ (kpOf bs).map (·.2.1), ∃ e ∈ bs, e.2 = B := fun B hB => by
        obtain ⟨e, he, rfl⟩ := List.mem_map.mp hB
        obtain ⟨y, hy, rfl⟩ := kpm e he
        exact ⟨y, hy, rfl⟩
      have nBx : ∀ {B : Addr}, B ∈ (kpOf bs).map (·.2.1) → B ≠ x ∧ B ≠ S ∧ B ≠ Dn ∧ B ≠ Kq := fun {B} hB => by
        obtain ⟨e, he, rfl⟩ := kpa B hB
        obtain ⟨o1, o2, o3, o4⟩ := ob e he
        refine ⟨(ne_of_none hx4 o3).symm, (ne_of_none hS4 o3).symm, (ne_of_none hD4 o3).symm, ne_of_none o2 hKq⟩
      have keys : (kpOf bs).map (·.1) = (mergeN bs).map (·.1) := by
        unfold kpOf
        rw [List.map_map] <;> rfl
      have adrs : (kpOf bs).map (·.2.1) = (mergeN bs).map (·.2) := by
        unfold kpOf
        rw [List.map_map] <;> rfl
      refine q G' _ ⟨x, dx, v1, S, Dn, Kq, [], dvs, kpOf bs⟩ t6 ⟨t6.gh, upd_same, ?_, ?_, ?_, ?_, (fun e he => by cases he), fun e he => ?_, ?_, fun a ha => ?_, ⟨List.nodup_nil, (fun e he => by cases he), ?_, fun v hv => ?_, ?_, fun b hb => ?_, fun e he => ?_, fun b hb => ?_⟩⟩ rfl (fun a ha => ?_) rfl fun b => kept_kpOf b bs
      · exact Rep.mono (s3.gg.trans s'.gg) r1
      · show (upd (upd H' Kq _) x _) S = _
        rw [upd_ne nxS.symm, upd_ne nSK]
        exact hS5
      · show (upd (upd H' Kq _) x _) Dn = _
        rw [upd_ne nxD.symm, upd_ne nDK]
        exact hD5
      · show (upd (upd H' Kq _) x _) Kq = some (.dK (enc encR (kpOf bs)))
        rw [upd_ne nxK.symm, upd_same, merge_enc, enc_kpOf]
      · obtain ⟨b1, b2, b3, b4⟩ := nBx (List.mem_map_of_mem (f := (·.2.1)) he)
        obtain ⟨y, hy, rfl⟩ := kpm e he
        show (upd (upd H' Kq _) x _) y.2 = _
        rw [upd_ne b1, upd_ne b4]
        exact (ob y hy).2.1
      · show (x :: S :: Dn :: Kq :: ([] ++ (kpOf bs).map (·.2.1))).Nodup
        have nd5 : ((kpOf bs).map (·.2.1)).Nodup := by
          rw [adrs]
          exact nodup_snd ndb m1 m2
        simp only [List.nil_append, List.nodup_cons, List.mem_cons, not_or]
        exact ⟨⟨nxS, nxD, nxK, fun z => (nBx z).1 rfl⟩, ⟨nSD, nSK, fun z => (nBx z).2.1 rfl⟩, ⟨nDK, fun z => (nBx z).2.2.1 rfl⟩, fun z => (nBx z).2.2.2 rfl, nd5⟩
      · rcases Fl.cases ha with e | e | e | e | ⟨y, hy, e⟩ | ⟨y, hy, e⟩
        · rw [e]; exact gx5
        · rw [e]; exact gS5
        · rw [e]; exact gD5
        · rw [e]; exact gK5
        · cases hy
        · obtain ⟨z, hz, rfl⟩ := kpm y hy
          rw [← e]
          exact (ob z hz).1
      · show dvs.length = _
        rw [rD.len, fm_yes, List.length_map]
      · obtain ⟨i, hi, ei⟩ := List.mem_iff_getElem.mp hv
        obtain ⟨n, hn, rn⟩ := rD.getV (List.getElem?_eq_getElem hi)
        exact ⟨n, by rw [← ei]; exact rn⟩
      · show ((kpOf bs).map (·.1)).Nodup
        rw [keys]
        exact m1
      · show b ∈ (kpOf bs).map (·.1)
        rw [keys, m3 b, kb]
        exact mem_binsOf.mpr hb
      · obtain ⟨y, hy, rfl⟩ := kpm e he
        exact ⟨List.nodup_nil, fun x hx => by cases hx⟩
      · have hb : b ∈ (kpOf bs).map (·.1) := hb
        rw [keys, m3 b, kb] at hb
        exact mem_binsOf.mp hb
      · rcases Fl.cases ha with e | e | e | e | ⟨y, hy, e⟩ | ⟨y, hy, e⟩
        · rw [e]; exact nx
        · rw [e]; exact S0
        · rw [e]; exact D0
        · rw [e]; exact K0
        · cases hy
        · obtain ⟨z, hz, rfl⟩ := kpm y hy
          rw [← e]
          exact t3.free (ob z hz).2.2.1
end
end Mw
namespace Mw
/-- all sizes that come of a lot's -/
def uniL (p : Nat) (ss : List Nat) : List Nat := (ss.flatMap fun S => (List.range 61).flatMap fun j => [S / p ^ j, S / p ^ j + 1]).filter fun s => decide (1 ≤ s)
theorem mem_uniL {p : Nat} {ss : List Nat} {s : Nat} : s ∈ uniL p ss ↔ 1 ≤ s ∧ ∃ S ∈ ss, Lv p S s := by
  unfold uniL
  rw [List.mem_filter, decide_eq_true_eq, List.mem_flatMap]
  constructor
  · rintro ⟨⟨S, hS, h⟩, h1⟩
    obtain ⟨j, hj, h2⟩ := List.mem_flatMap.mp h
    refine ⟨h1, S, hS, j, by have := List.mem_range.mp hj; omega, ?_⟩
    rcases List.mem_cons.mp h2 with h3 | h3
    · exact .inl h3
    · exact .inr (List.mem_singleton.mp h3)
  · rintro ⟨h1, S, hS, j, hj, h2⟩
    refine ⟨⟨S, hS, List.mem_flatMap.mpr ⟨j, List.mem_range.mpr (by omega), ?_⟩⟩, h1⟩
    rcases h2 with h2 | h2
    · rw [h2]
      exact List.mem_cons_self
    · rw [h2]
      exact List.mem_cons_of_mem _ List.mem_cons_self
theorem len_uniL (p : Nat) (ss : List Nat) : (uniL p ss).length ≤ ss.length * 122 := by
  unfold uniL
  refine Nat.le_trans (List.length_filter_le _ _) ?_
  rw [len_flat _ 122 (fun S => by rw [len_flat _ 2 (fun _ => rfl), List.length_range])]
  exact Nat.le_refl _
end Mw
namespace Mw
open PySem PySem.Spec PyProof.Rows L2
theorem uni_ok {wd : Wd} (g : Good wd) {ss : List Nat} (hl : ss.length ≤ 100) (hs : ∀ S ∈ ss, S + 2 < 2 ^ 60) : Uni wd (uniL wd.p ss) := by
  refine ⟨fun s h => ?_, fun s h r hr x hx => ?_, ?_⟩
  · obtain ⟨h1, S, hS, h2⟩ := mem_uniL.mp h
    have := h2.le
    have := hs S hS
    omega
  · obtain ⟨h1, S, hS, h2⟩ := mem_uniL.mp h
    have := hs S hS
    exact mem_uniL.mpr ⟨(goes_c g h1 x hx).2.2.1, S, hS, goes_Lv g h1 (by omega) h2 x hx⟩
  · have := len_uniL wd.p ss
    omega
theorem self_uni {p : Nat} {ss : List Nat} {s : Nat} (h1 : 1 ≤ s) (h : s ∈ ss) : s ∈ uniL p ss := mem_uniL.mpr ⟨h1, s, h, Lv.self p s⟩
theorem FA.stepB {K : PySem.W.Frag} {G0 H0 G H G2 H2 : Hp} {wd : Wd} {U : List Nat} {st st2 : Fl} (f : FA K G H wd U st) (s : Stp K G0 H0 G H) (h : ∀ a ∈ st.adr, H0 a = none) (s' : Stp K G (mns H st.adr) G2 H2) (n' : Nw H st st2) : Stp K G0 H0 G2 H2 ∧ ∀ a ∈ st2.adr, H0 a = none := by
  refine ⟨(f.min s h).trans s', fun a ha => ?_⟩
  rcases n'.at_ ha with z | z
  · exact h a z
  · exact s.free z
theorem fbins_in {wd : Wd} {U : List Nat} {st : Fl} (o : FlOk wd U st) : ∀ x ∈ fbins st.kp, ∀ y ∈ x.2, y.1 ∈ U := fun x hx y hy => by
  obtain ⟨b, hb, rfl⟩ := List.mem_map.mp hx
  obtain ⟨k, h1, _, rfl⟩ := mem_fm.mp hy
  have h1 := (srt_perm _).mem_iff.mp h1
  show k ∈ U
  unfold cont at h1
  cases e : getN st.kp b with
  | none =>
    rw [e] at h1
    cases h1
  | some z =>
    rw [e] at h1
    have h1 : k ∈ z.2.map (·.1) := h1
    obtain ⟨y2, hy2, e2⟩ := List.mem_map.mp h1
    rw [← e2]
    exact (o.bu _ (getN_mem e)).2 y2 hy2
theorem fbins_len {wd : Wd} {U : List Nat} {st : Fl} (o : FlOk wd U st) : ∀ x ∈ fbins st.kp, x.2.length ≤ U.length := fun x hx => by
  obtain ⟨b, hb, rfl⟩ := List.mem_map.mp hx
  refine Nat.le_trans (fm_len _ _ _) ?_
  rw [(srt_perm _).length_eq, List.length_map]
  unfold cont
  cases e : getN st.kp b with
  | none => exact Nat.zero_le _
  | some z => exact len_U (l := z.2) (o.bu _ (getN_mem e)).1 (o.bu _ (getN_mem e)).2
def lotOk (lot : List (Nat × Nat)) : Prop := lot.length ≤ 100 ∧ ∀ x ∈ lot, 1 ≤ x.1 ∧ x.1 + 2 < 2 ^ 60
def binW (b : Nat) (bins : List (Nat × List (Nat × Nat))) : Nat := sumN (fun x => if x.1 = b then wtl x.2 else 0) bins
abbrev Wk (wd : Wd) (lot : List (Nat × Nat)) (bins : List (Nat × List (Nat × Nat))) : Prop := (∀ x ∈ bins, x.1 ≤ 5 ∧ x.2.length ≤ 20000 ∧ ∀ y ∈ x.2, y.1 < 2 ^ 60) ∧ ∀ b, binW b bins = wtot wd b lot
abbrev spLaidOn (K : PySem.W.Frag) : Sp := fun vs H Q _ => ∃ G v1 v3, ∃ (wd : Wd), ∃ (lot : List (Nat × Nat)), vs = [v1, .int 0, v3] ∧ Same G H ∧ rp K G v1 wd ∧ rp K G v3 lot ∧ Good wd ∧ lotOk lot ∧
  ∀ w G' H' bins (dn : List Nat), Stp K G H G' H' → rp K G' w ((bins, dn) : List (Nat × List (Nat × Nat)) × List Nat) → Wk wd lot bins → Q w H'
abbrev spWorked (K : PySem.W.Frag) : Sp := fun vs H Q _ => ∃ G v1 v2, ∃ (wd : Wd), ∃ (lot : List (Nat × Nat)), vs = [v1, v2] ∧ Same G H ∧ rp K G v1 wd ∧ rp K G v2 lot ∧ Good wd ∧ lotOk lot ∧
  ∀ w G' H' bins (dn : List Nat), Stp K G H G' H' → rp K G' w ((bins, dn) : List (Nat × List (Nat × Nat)) × List Nat) → Wk wd lot bins → Q w H'
section
variable {P : Program} {w : World} {K : PySem.W.Frag} {mg : Str → Option Value} {base : Heap}
theorem c_laid_on (h : Has K mg "laid_on" d_laid_on) (T : Tx K mg base) (c_ring_of : Cal P w K mg base "ring_of" 5 ["works"] (spRingOf K)) (c_Flow_init : CalM P w K mg base (He.ma K (CF K) "__init__") 1 ["self", "works"] (spFInit K))
    (c_Flow_put : CalM P w K mg base (He.ma K (CF K) "put") 1 ["self", "row", "size", "many"] (spPut K)) (c_Flow_go : CalM P w K mg base (He.ma K (CF K) "go") 5 ["self"] (spGo K)) (c_Flow_told : CalM P w K mg base (He.ma K (CF K) "told") 2 ["self"] (spTold2 K)) :
    Cal P w K mg base "laid_on" 6 ["works", "row", "lot"] (spLaidOn K) := by
  refine h.cal sc_laid_on (fun _ _ _ _ _ _ us hl => match us, hl with | [_, _, _], _ => rfl) (fun vs H Q E h => ?_) (fun f cdv A outer s0 H vs Q E hr h => ?_)
  · obtain ⟨_, _, _, _, _, rfl, _⟩ := h
    rfl
  · obtain ⟨G, v1, v3, wd, lot, rfl, gh, r1, r3, g, ⟨hl, hlot⟩, q⟩ := h
    refine ⟨_, (pss_cons (ps_if (pt_cmpR op_notN (pe_c c_ring_of (hr.mono (by decide)) (pa_cons (pv 0) pa_nil)) pe_non (nomark _)) (pss_one ps_never) pss_nil)
      (pss_cons (ps_set (i := 3) sc_laid_on.nd rfl (.inl rfl) (pe_mkC T.mkF T.mgF c_Flow_init (hr.mono (by decide)) (pa_cons (pv 0) pa_nil)))
      (pss_cons (ps_for PassesOwn.never rfl (pi_list (pv 2)) (pg_tup rfl (pgs_cons (pg_name (i := 4) sc_laid_on.nd rfl (.inl rfl)) (pgs_cons (pg_name (i := 5) sc_laid_on.nd rfl (.inl rfl)) pgs_nil))) (pss_one (ps_expr (pe_mt T.clF T.mF_put c_Flow_put (hr.mono (by decide)) (pv 3) (pa_cons (pv 1) (pa_cons (pv 4) (pa_cons (pv 5) pa_nil)))))))
      (pss_cons (ps_expr (pe_mt0 T.clF T.mF_go c_Flow_go (hr.mono (by decide)) (pv 3)))
      (pss_one (ps_ret (pe_mt0 T.clF T.mF_told c_Flow_told (hr.mono (by decide)) (pv 3)))))))), ?_⟩
    refine q_when (K := K) gh (et_as (et_t (ev_notN (ev_1 (ev_var r1) g))) (c := false) rfl) (fun e => by cases e) (fun _ G2 H2 s2 => ?_)
    have un := uni_ok g (ss := lot.map (·.1)) (by rw [List.length_map]; exact hl) fun S hS => by
      obtain ⟨x, hx, rfl⟩ := List.mem_map.mp hS
      exact (hlot x hx).2
    have hU : ∀ x ∈ lot, x.1 ∈ uniL wd.p (lot.map (·.1)) := fun x hx => self_uni (hlot x hx).1 (List.mem_map_of_mem (f := (·.1)) hx)
    refine ⟨v1, rfl, fun x dx nx nd ne => ⟨G2, H2, x, dx, v1, wd, uniL wd.p (lot.map (·.1)), rfl, s2.gh, nx, nd, ne, rfl, Rep.mono s2.gg r1, un, g, fun G3 H3 st s3 fa3 eF new ez ek => ⟨rfl, ?_⟩⟩⟩
    subst eF
    refine q_for (K := K) fa3.gh (ev_var (Rep.mono (s2.gg.trans s3.gg) r3)) fun G4 H4 s4 _ => ⟨fun i σ' H' => ∃ a4 a5 G' st', σ' = [some v1, some (.int 0), some v3, some (.ref st.F), a4, a5] ∧ Same G4 G' ∧ Stp K G2 H2 G' H' ∧ FA K G' H' wd (uniL wd.p (lot.map (·.1))) st' ∧ (∀ a ∈ st'.adr, H2 a = none) ∧ st'.F = st.F ∧ ∀ b, waitS wd b st'.sz + keptS b st'.kp = wtot wd b (lot.take i),
      ⟨none, none, G4, st, rfl, Same.refl G4, s3.trans s4, fa3.on s4, new, rfl, fun b => by rw [ez, ek b]; rfl⟩, ?_, ?_, ?_⟩
    · rintro i σ' H' ⟨_, _, G', st', _, sg, _, f, _⟩
      exact sg.trans f.gh
    · rintro i y v σ' H' hi ry ⟨a4, a5, G', st', rfl, sg, s5, f5, n5, eF5, w5⟩
      refine g_pair (Rep.mono sg ry) f5.gh fun b1 b2 rb1 rb2 => ?_
      obtain rfl : b1 = .int (y.1 : Int) := rb1
      obtain rfl : b2 = .int (y.2 : Int) := rb2
      have hy := List.mem_of_getElem? hi
      refine ⟨.ref st.F, rfl, st.F, st'.dx, _, rfl, by rw [← eF5]; exact f5.hF, rfl, .int 0, rfl, .int (y.1 : Int), rfl, .int (y.2 : Int), rfl, G', wd, _, st', 0, y.1, y.2, by rw [eF5]; rfl, f5, un, g.n12, g.n1, hU y hy, fun G6 H6 st6 s6 f6 n6 pr => ?_⟩
      obtain ⟨s7, n7⟩ := f5.stepB s5 n5 s6 n6
      refine ⟨_, _, G6, st6, rfl, sg.trans s6.gg, s7, f6, n7, pr.F.trans eF5, fun b => ?_⟩
      have a1 := pr.wt b
      have a2 := pr.kp b
      have a3 := w5 b
      rw [take_snoc hi, wtot_snoc]
      omega
    · rintro σ' H' ⟨a4, a5, G', st', rfl, sg, s5, f5, n5, eF5, w5⟩
      rw [List.take_length] at w5
      refine ⟨.ref st.F, rfl, st.F, st'.dx, _, rfl, by rw [← eF5]; exact f5.hF, rfl, G', wd, _, st', by rw [eF5]; rfl, f5, un, g, fun G6 H6 st6 s6 f6 n6 er => ?_⟩
      obtain ⟨s7, n7⟩ := f5.stepB s5 n5 s6 n6
      have eF6 : st6.F = st.F := er.F.trans eF5
      refine ⟨.ref st.F, rfl, st.F, st6.dx, _, rfl, by rw [← eF6]; exact f6.hF, rfl, G6, wd, _, st6, by rw [eF6]; rfl, f6, un, g, fun w G8 H8 dn s8 r8 => ?_⟩
      refine q w G8 H8 _ dn ((s2.trans s7).trans s8) r8 ⟨fun x hx => ⟨fbins_le g f6.ok x hx, Nat.le_trans (fbins_len f6.ok x hx) un.ln, fun y hy => by have := (un.lt _ (fbins_in f6.ok x hx y hy)).2; omega⟩, fun b => ?_⟩
      have a1 := er.wt b
      have a2 := w5 b
      have a3 : waitS wd b st6.sz = 0 := by
        have : st6.sz = [] := List.map_eq_nil_iff.mp er.out
        rw [this] <;> rfl
      show sumN _ (fbins st6.kp) = _
      rw [fbins_sum f6.ok b]
      omega
theorem c_worked (h : Has K mg "worked" d_worked) (T : Tx K mg base) (c_laid_on : Cal P w K mg base "laid_on" 6 ["works", "row", "lot"] (spLaidOn K)) : Cal P w K mg base "worked" 7 ["works", "lot"] (spWorked K) := by
  refine h.cal sc_worked (fun _ _ _ _ _ _ us hl => match us, hl with | [_, _], _ => rfl) (fun vs H Q E h => ?_) (fun f cdv A outer s0 H vs Q E hr h => ?_)
  · obtain ⟨_, _, _, _, _, rfl, _⟩ := h
    rfl
  · obtain ⟨G, v1, v2, wd, lot, rfl, gh, r1, r2, g, ho, q⟩ := h
    refine ⟨_, (pss_one (ps_ret (pe_c c_laid_on (hr.mono (by decide)) (pa_cons (pv 0) (pa_cons pe_int (pa_cons (pv 1) pa_nil)))))), ?_⟩
    exact ⟨v1, rfl, v2, rfl, G, v1, v2, wd, lot, rfl, gh, r1, r2, g, ho, fun w G' H' bins dn s r k => q w G' H' bins dn s r k⟩
end
end Mw
/-! The law's works: ranks. -/
namespace Mw
def wdR (rows : List Row) : Wd := ⟨2, rows⟩
theorem whole_rows (p : Nat) (rows : List Row) (row s : Nat) : whole ⟨p, rows⟩ row s = whole (wdR rows) row s := rfl
/-- a rank that falls on whole steps -/
def Rk (rows : List Row) (m : Nat) : Prop := ∃ rho : Nat → Nat → Nat, (∀ s row, rho s row ≤ m) ∧ ∀ s row t, 1 ≤ s → whole (wdR rows) row s = some t → rho s t < rho s row
/-- k whole steps -/
def itw (rows : List Row) (s : Nat) : Nat → Nat → Option Nat
  | 0, row => some row
  | k + 1, row => match whole (wdR rows) row s with
    | some t => itw rows s k t
    | none => none
/-- how many whole steps there are -/
def dist (rows : List Row) (s : Nat) : Nat → Nat → Nat
  | 0, _ => 0
  | k + 1, row => match whole (wdR rows) row s with
    | some t => dist rows s k t + 1
    | none => 0
theorem dist_le (rows : List Row) (s : Nat) : ∀ k row, dist rows s k row ≤ k
  | 0, _ => Nat.le_refl _
  | k + 1, row => by
    unfold dist
    split
    · exact Nat.succ_le_succ (dist_le rows s k _)
    · exact Nat.zero_le _
theorem dist_more (rows : List Row) (s : Nat) : ∀ k row, itw rows s (k + 1) row = none → dist rows s k row = dist rows s (k + 1) row
  | 0, row, h => by
    unfold itw at h
    unfold dist
    cases e : whole (wdR rows) row s with
    | none => rfl
    | some t =>
      rw [e] at h
      cases h
  | k + 1, row, h => by
    have h' : (match whole (wdR rows) row s with | some t => itw rows s (k + 1) t | none => none) = none := h
    show (match whole (wdR rows) row s with | some t => dist rows s k t + 1 | none => 0) = (match whole (wdR rows) row s with | some t => dist rows s (k + 1) t + 1 | none => 0)
    cases e : whole (wdR rows) row s with
    | none => rfl
    | some t =>
      rw [e] at h'
      show dist rows s k t + 1 = dist rows s (k + 1) t + 1
      rw [dist_more rows s k t h']
def alikeS (rows : List Row) (s q : Nat) : Prop := ∀ row, whole (wdR rows) row s = whole (wdR rows) row q
/-- a tested size for each size -/
def sizesT (rows : List Row) : List Nat := 1 :: (opens (wdR rows) ++ (opens (wdR rows)).map (· + 1))
theorem alike_of {rows : List Row} {s q : Nat} (h1 : s = 1 ↔ q = 1) (h : ∀ o ∈ opens (wdR rows), s ≤ o ↔ q ≤ o) : alikeS rows s q := fun row => by
  unfold whole
  cases e : (wdR rows).rows[row]? with
  | none => rfl
  | some r =>
    cases r with
    | mesh o u v =>
      have ho : o ∈ opens (wdR rows) := opens_mem e
      show some (if s ≤ o then u else v) = some (if q ≤ o then u else v)
      by_cases hs : s ≤ o
      · rw [if_pos hs, if_pos ((h o ho).mp hs)]
      · rw [if_neg hs, if_neg fun z => hs ((h o ho).mpr z)]
    | crush t =>
      show (if s = 1 then some t else none) = if q = 1 then some t else none
      by_cases hs : s = 1
      · rw [if_pos hs, if_pos (h1.mp hs)]
      · rw [if_neg hs, if_neg fun z => hs (h1.mpr z)]
    | bin b => rfl
theorem least_ge : ∀ (l : List Nat) (s : Nat), (∀ o ∈ l, o < s) ∨ ∃ o ∈ l, s ≤ o ∧ ∀ o' ∈ l, s ≤ o' → o ≤ o'
  | [], _ => .inl fun o h => by cases h
  | x :: l, s => by
    rcases least_ge l s with h | ⟨o, h1, h2, h3⟩
    · by_cases hx : s ≤ x
      · refine .inr ⟨x, List.mem_cons_self, hx, fun o' ho' hs => ?_⟩
        rcases List.mem_cons.mp ho' with e | e
        · rw [e]
          exact Nat.le_refl _
        · have := h o' e
          omega
      · refine .inl fun o ho => ?_
        rcases List.mem_cons.mp ho with e | e
        · rw [e]
          omega
        · exact h o e
    · by_cases hx : s ≤ x ∧ x ≤ o
      · refine .inr ⟨x, List.mem_cons_self, hx.1, fun o' ho' hs => ?_⟩
        rcases List.mem_cons.mp ho' with e | e
        · rw [e]
          exact Nat.le_refl _
        · exact Nat.le_trans hx.2 (h3 o' e hs)
      · refine .inr ⟨o, List.mem_cons_of_mem _ h1, h2, fun o' ho' hs => ?_⟩
        rcases List.mem_cons.mp ho' with e | e
        · rw [e] at hs ⊢
          omega
        · exact h3 o' e hs
theorem max_ge : ∀ (l : List Nat), l = [] ∨ ∃ o ∈ l, ∀ o' ∈ l, o' ≤ o
  | [] => .inl rfl
  | x :: l => by
    rcases max_ge l with h | ⟨o, h1, h2⟩
    · subst h
      exact .inr ⟨x, List.mem_cons_self, fun o' h => by rw [List.mem_singleton.mp h]; exact Nat.le_refl _⟩
    · by_cases hx : o ≤ x
      · refine .inr ⟨x, List.mem_cons_self, fun o' h => ?_⟩
        rcases List.mem_cons.mp h with e | e
        · rw [e]
          exact Nat.le_refl _
        · exact Nat.le_trans (h2 o' e) hx
      · refine .inr ⟨o, List.mem_cons_of_mem _ h1, fun o' h => ?_⟩
        rcases List.mem_cons.mp h with e | e
        · rw [e]
          omega
        · exact h2 o' e
theorem tested (rows : List Row) (h1 : ∀ o ∈ opens (wdR rows), 1 ≤ o) (s : Nat) (hs : 1 ≤ s) : (∃ q ∈ sizesT rows, alikeS rows s q) ∨ ∀ row, whole (wdR rows) row s = none := by
  by_cases e1 : s = 1
  · exact .inl ⟨1, List.mem_cons_self, by rw [e1]; exact fun _ => rfl⟩
  · rcases least_ge (opens (wdR rows)) s with h | ⟨o, o1, o2, o3⟩
    · rcases max_ge (opens (wdR rows)) with z | ⟨o, o1, o2⟩
      · refine .inr fun row => ?_
        unfold whole
        cases e : (wdR rows).rows[row]? with
        | none => rfl
        | some r =>
          cases r with
          | mesh o u v =>
            have : o ∈ opens (wdR rows) := opens_mem e
            rw [z] at this
            cases this
          | crush t => exact if_neg e1
          | bin b => rfl
      · refine .inl ⟨o + 1, List.mem_cons_of_mem _ (List.mem_append_right _ (List.mem_map_of_mem o1)), alike_of ⟨fun z => absurd z e1, fun z => ?_⟩ fun o' ho' => ⟨fun z => ?_, fun z => ?_⟩⟩
        · have := h1 o o1
          omega
        · have := h o' ho'
          omega
        · have := o2 o' ho'
          omega
    · refine .inl ⟨o, List.mem_cons_of_mem _ (List.mem_append_left _ o1), alike_of ⟨fun z => absurd z e1, fun z => by omega⟩ fun o' ho' => ⟨fun z => o3 o' ho' z, fun z => by omega⟩⟩
/-- what ends soon at the tested sizes has a rank -/
theorem rk_of {rows : List Row} {k : Nat} (ho : ∀ o ∈ opens (wdR rows), 1 ≤ o) (h : ∀ s ∈ sizesT rows, ∀ row, itw rows s (k + 1) row = none) : Rk rows k := by
  refine ⟨fun s row => dist rows s k row, fun s row => dist_le rows s k row, fun s row t hs hw => ?_⟩
  rcases tested rows ho s hs with ⟨q, hq, al⟩ | z
  · have dq : ∀ m r, dist rows s m r = dist rows q m r := fun m => by
      induction m with
      | zero => exact fun _ => rfl
      | succ m ih =>
        intro r
        unfold dist
        rw [al r]
        cases whole (wdR rows) r q with
        | none => rfl
        | some t => exact congrArg (· + 1) (ih t)
    show dist rows s k t < dist rows s k row
    rw [dq, dq]
    rw [al row] at hw
    have h2 := dist_more rows q k row (h q hq row)
    rw [h2]
    show dist rows q k t < (match whole (wdR rows) row q with | some t => dist rows q k t + 1 | none => 0)
    rw [hw]
    exact Nat.lt_succ_self _
  · rw [z row] at hw
    cases hw
/-- no row: no step -/
theorem itw_out {rows : List Row} {s k row : Nat} (h : rows.length ≤ row) : itw rows s (k + 1) row = none := by
  unfold itw
  have : whole (wdR rows) row s = none := by
    unfold whole
    rw [show (wdR rows).rows[row]? = none from List.getElem?_eq_none h]
  rw [this]
/-- rows that only lead on -/
def Fwd (rows : List Row) : Prop := ∀ s row t, whole (wdR rows) row s = some t → row < t
theorem rk_fwd {rows : List Row} (f : Fwd rows) (hok : ∀ r ∈ rows, okR rows.length r) : Rk rows rows.length := by
  refine ⟨fun s row => rows.length - row, fun s row => Nat.sub_le _ _, fun s row t _ hw => ?_⟩
  have h1 := f s row t hw
  have h2 : row < rows.length := by
    apply Classical.byContradiction
    intro z
    unfold whole at hw
    rw [show (wdR rows).rows[row]? = none from List.getElem?_eq_none (by show rows.length ≤ row; omega)] at hw
    cases hw
  show rows.length - t < rows.length - row
  omega
theorem Rk.mono {rows : List Row} {m n : Nat} (h : Rk rows m) (hn : m ≤ n) : Rk rows n := by
  obtain ⟨rho, h1, h2⟩ := h
  exact ⟨rho, fun s row => Nat.le_trans (h1 s row) hn, h2⟩
/-- how many crushers -/
def crN (rows : List Row) : Nat := (rows.filter Row.isC).length
theorem cr_eq (rows : List Row) : ∀ (p : Nat), (crushes ⟨p, rows⟩).length = crN rows := fun p => by
  unfold crushes crN fm
  rw [List.map_id']
  have h : rows = (List.range rows.length).map fun i => rows.getD i (.bin 0) := by
    refine List.ext_getElem? fun i => ?_
    rw [List.getElem?_map]
    by_cases hi : i < rows.length
    · rw [List.getElem?_range hi, List.getElem?_eq_getElem hi]
      show _ = some (rows.getD i (.bin 0))
      rw [List.getD_eq_getElem?_getD, List.getElem?_eq_getElem hi] <;> rfl
    · rw [List.getElem?_eq_none (by omega), List.getElem?_eq_none (by rw [List.length_range]; omega)] <;> rfl
  conv => rhs; rw [h]
  rw [List.filter_map, List.length_map] <;> rfl
/-- what the law's rows are -/
structure RowsOk (rows : List Row) (n m c : Nat) : Prop where
  n1 : 1 ≤ rows.length
  nn : rows.length ≤ n
  ok : ∀ r ∈ rows, okR rows.length r
  op : ∀ o ∈ opens (wdR rows), 1 ≤ o ∧ o ≤ 5
  rk : Rk rows m
  cr : crN rows ≤ c
theorem RowsOk.good {rows : List Row} {n m c p : Nat} (r : RowsOk rows n m c) (hp : 2 ≤ p ∧ p ≤ 9) (hn : n ≤ 12) (hm : m ≤ 15) : Good ⟨p, rows⟩ := by
  obtain ⟨rho, h1, h2⟩ := r.rk
  exact ⟨hp.1, hp.2, r.n1, Nat.le_trans r.nn hn, r.ok, rho, fun s row => Nat.le_trans (h1 s row) hm, fun s row t hs hw => h2 s row t hs hw⟩
theorem two_of {r1 r2 : List Row} {n m c m' p : Nat} (a : RowsOk r1 n m 2) (b : RowsOk r2 n m' 3) (hp : 2 ≤ p ∧ p ≤ 5) (hn : n ≤ 12) (hm : m ≤ 15) (hm' : m' ≤ 15) : Two ⟨p, r1⟩ ⟨p, r2⟩ := by
  have c1 := cr_eq r1 p
  have c2 := cr_eq r2 p
  have a1 := a.cr
  have b1 := b.cr
  refine ⟨a.good ⟨hp.1, by omega⟩ hn hm, b.good ⟨hp.1, by omega⟩ hn hm', rfl, hp.2, ?_, by omega, by omega, by omega⟩
  rcases List.mem_cons.mp (maxl_mem (opens ⟨p, r1⟩ ++ opens ⟨p, r2⟩)) with h | h
  · show maxl _ ≤ 5
    omega
  · rcases List.mem_append.mp h with h | h
    · exact (a.op _ h).2
    · exact (b.op _ h).2
end Mw
namespace Mw
open PySem PySem.Spec PyProof.Rows L2
/-- a row as law_row makes it -/
def genR (many most : Nat) : Row → Prop
  | .mesh o u v => 1 ≤ o ∧ o ≤ most ∧ u < many ∧ v < many
  | .crush t => t < many
  | .bin b => b ≤ 5
abbrev spCell (K : PySem.W.Frag) : Sp := spE2 K (fun (z : Scr) (k : Nat) => k < 1000) fun _ _ (_ : Nat) => True
abbrev spRow (K : PySem.W.Frag) : Sp := spE3 K (fun (cell many most : Nat) => 1 ≤ many ∧ many < 1000 ∧ 1 ≤ most ∧ most < 1000) fun _ many most (r : Row) => genR many most r
abbrev spEnd (K : PySem.W.Frag) : Sp := spE3 K (fun (rows : List Row) (row s : Nat) => row < rows.length ∧ rows.length ≤ 20 ∧ ∀ r ∈ rows, okR rows.length r) fun rows row s (o : Option Nat) => o.isNone = (itw rows s (rows.length + 1) row).isSome
section
variable {K : PySem.W.Frag} {σ : L2.St} {G H : Hp} {ta tb tc te : TE} {α β γ δ : Type} [Rep α] [Rep β] [Rep γ] [Rep δ] {D : Ends} {tz tu : TS}
theorem ev_ten {j : Int} (n : Nat) (e : j = (n : Int)) (hn : n ≤ 1000) : Ev K (tOp (rI CPow fun i j => .int (i ^ j.toNat)) (tC (.int 10)) (tC (.int j))) σ G (10 ^ n) := ev_nN (ev_pow (ev_i (i := 10)) (ev_i (i := j)) ⟨by omega, by omega, by decide⟩) (by
  rw [e, Int.toNat_natCast, Int.natCast_pow] <;> rfl)
theorem EvE.at_ {P : α → Prop} (h : EvE K te σ G P) (gh : Same G H) : EEA K te σ G H P := fun Q q => h G H (Same.refl G) gh Q q
end
section
variable {P : Program} {w : World} {K : PySem.W.Frag} {mg : Str → Option Value} {base : Heap}
theorem c_law_cell (h : Has K mg "_law_cell" d_law_cell) (T : Tx K mg base) : Cal P w K mg base "_law_cell" 1 ["script", "k"] (spCell K) := by
  refine h.cal sc_law_cell (fun _ _ _ _ _ _ us hl => match us, hl with | [_, _], _ => rfl) (fun vs H Q E h => ?_) (fun f cdv A outer s0 H vs Q E hr h => ?_)
  · obtain ⟨_, _, _, _, _, rfl, _⟩ := h
    rfl
  · obtain ⟨G, v1, v2, z, k, rfl, gh, r1, r2, hk, q⟩ := h
    refine ⟨_, (pss_cons (ps_if (pt_cmpR op_lt (pv 1) (pe_callB (lenK K) (by rfl) T.b_len PySem.boot_len (pa_cons (pv 0) pa_nil)) (nomark _)) (pss_one (ps_ret (pe_op op_mod (pe_ix (ixL K) (pv 0) (pv 1) (fun _ _ => rfl)) (pe_op op_pow pe_int pe_int)))) pss_nil)
      (pss_cons (ps_set (i := 2) sc_law_cell.nd rfl (.inl rfl) pe_int)
      (pss_cons (ps_if (pt_cmpR op_gt (pe_callB (lenK K) (by rfl) T.b_len PySem.boot_len (pa_cons (pv 0) pa_nil)) pe_int (nomark _)) (pss_one (ps_set (i := 2) sc_law_cell.nd rfl (.inl rfl) (pe_op op_mod (pe_ix (ixL K) (pv 0) pe_int (fun _ _ => rfl)) (pe_op op_pow pe_int pe_int)))) pss_nil)
      (pss_cons (ps_set (i := 3) sc_law_cell.nd rfl (.inl rfl) (pe_op op_mod (pe_op op_mul (pe_op op_add (pe_op op_add (pv 2) (pe_op op_mul pe_int (pv 1))) pe_int) pe_int) pe_int))
      (pss_cons (ps_set (i := 3) sc_law_cell.nd rfl (.inl rfl) (pe_op op_mod (pe_op op_mul (pv 3) (pv 3)) pe_int))
      (pss_cons (ps_set (i := 3) sc_law_cell.nd rfl (.inl rfl) (pe_op op_mod (pe_op op_mul (pe_op op_add (pv 3) (pe_op op_mul pe_int (pv 1))) pe_int) pe_int))
      (pss_one (ps_ret (pe_op op_fdiv (pe_op op_mul (pv 3) (pv 3)) pe_int))))))))), ?_⟩
    obtain rfl : v2 = .int (k : Int) := r2
    have nat : ∀ {i : Int} {G' : Hp} {v : V}, 0 ≤ i → rp K G' v i → ∃ n : Nat, i = (n : Int) ∧ rp K G' v n := fun {i G' v} h r => ⟨i.toNat, by omega, by
      have e : i = (i.toNat : Int) := by omega
      rw [e] at r
      exact r⟩
    have tail : ∀ (first : Nat) G4 H4, Stp K G H G4 H4 → tSeq (tAsg (tOp (rI (fun _ j => 0 < j) fun i j => .int (i % j)) (tOp (rI CMul fun i j => .int (i * j)) (tOp (rI0 fun i j => .int (i + j)) (tOp (rI0 fun i j => .int (i + j)) (tVar 2) (tOp (rI CMul fun i j => .int (i * j)) (tC (.int 977)) (tVar 1))) (tC (.int 1))) (tC (.int 48271))) (tC (.int 2147483647))) (gName 3))
        (tSeq (tAsg (tOp (rI (fun _ j => 0 < j) fun i j => .int (i % j)) (tOp (rI CMul fun i j => .int (i * j)) (tVar 3) (tVar 3)) (tC (.int 1000000007))) (gName 3))
        (tSeq (tAsg (tOp (rI (fun _ j => 0 < j) fun i j => .int (i % j)) (tOp (rI CMul fun i j => .int (i * j)) (tOp (rI0 fun i j => .int (i + j)) (tVar 3) (tOp (rI CMul fun i j => .int (i * j)) (tC (.int 69621)) (tVar 1))) (tC (.int 40692))) (tC (.int 998244353))) (gName 3))
        (tRet (tOp (rI CDiv fun i j => .int (i / j)) (tOp (rI CMul fun i j => .int (i * j)) (tVar 3) (tVar 3)) (tC (.int 64)))))) { nx := fun _ H' => Q .non H', rt := Q } [some v1, some (.int (k : Int)), some (.int (first : Int)), none] H4 := fun first G4 H4 t4 => by
      refine q_set (K := K) t4.gh (ev_modN (ev_mulN (ev_addN (ev_addN (ev_var (x := first) rfl) (ev_mulN (ev_n (n := 977)) (ev_var (x := k) rfl) (cmul_of (by decide)))) (ev_n (n := 1))) (ev_n (n := 48271)) (.inr (by decide))) (ev_n (n := 2147483647)) (by decide)) fun v5 G5 H5 s5 r5 => ?_
      have l5 := Nat.mod_lt ((first + 977 * k + 1) * 48271) (show 0 < 2147483647 by decide)
      generalize (first + 977 * k + 1) * 48271 % 2147483647 = a at r5 l5
      obtain rfl : v5 = .int (a : Int) := r5
      refine q_set (K := K) s5.gh (ev_modN (ev_mulN (ev_var (x := a) rfl) (ev_var (x := a) rfl) (cmul_of (by omega))) (ev_n (n := 1000000007)) (by decide)) fun v6 G6 H6 s6 r6 => ?_
      have l6 := Nat.mod_lt (a * a) (show 0 < 1000000007 by decide)
      generalize a * a % 1000000007 = b at r6 l6
      obtain rfl : v6 = .int (b : Int) := r6
      refine q_set (K := K) s6.gh (ev_modN (ev_mulN (ev_addN (ev_var (x := b) rfl) (ev_mulN (ev_n (n := 69621)) (ev_var (x := k) rfl) (cmul_of (by decide)))) (ev_n (n := 40692)) (.inr (by decide))) (ev_n (n := 998244353)) (by decide)) fun v7 G7 H7 s7 r7 => ?_
      have l7 := Nat.mod_lt ((b + 69621 * k) * 40692) (show 0 < 998244353 by decide)
      generalize (b + 69621 * k) * 40692 % 998244353 = c at r7 l7
      obtain rfl : v7 = .int (c : Int) := r7
      exact s_ret (K := K) s7.gh (ev_divN (ev_mulN (ev_var (x := c) rfl) (ev_var (x := c) rfl) (cmul_of (by omega))) (ev_n (n := 64)) (by decide) (by decide)) fun w G8 H8 s8 r8 => q w G8 H8 _ ((((t4.trans s5).trans s6).trans s7).trans s8) r8 True.intro
    refine q_when (K := K) gh (et_t (ev_ltN (ev_var (x := k) rfl) (ev_lenS (ev_var r1)))) (fun e G2 H2 s2 => ?_) (fun e G2 H2 s2 => ?_)
    · have e := of_decide_eq_true e
      refine s_ret (K := K) s2.gh (ev_mod (ev_ixS (ev_var (Rep.mono s2.gg r1)) (ev_nI (ev_var (x := k) rfl)) rfl (List.getElem?_eq_getElem e)) (ev_nI (ev_ten 60 rfl (by decide))) (by decide)) fun w G7 H7 s7 r7 => ?_
      obtain ⟨n, _, r⟩ := nat (Int.emod_nonneg _ (by decide)) r7
      exact q w G7 H7 n (s2.trans s7) r True.intro
    · refine q_set (K := K) s2.gh (ev_n (n := 0)) fun v G3 H3 s3 r3 => ?_
      obtain rfl : v = .int ((0 : Nat) : Int) := r3
      have t3 := s2.trans s3
      refine q_if (K := K) (b := decide (0 < z.ns.length)) s3.gh (et_t (ev_gtN (ev_lenS (ev_var (Rep.mono t3.gg r1))) (ev_n (n := 0)))) (fun e G4 H4 s4 => ?_) (fun e G4 H4 s4 => ?_)
      · have e := of_decide_eq_true e
        refine s_set (K := K) s4.gh (ev_mod (ev_ixS (ev_var (Rep.mono (t3.trans s4).gg r1)) (ev_i (i := 0)) (j := 0) rfl (List.getElem?_eq_getElem e)) (ev_nI (ev_ten 60 rfl (by decide))) (by decide)) fun v5 G5 H5 s5 r5 => ?_
        obtain ⟨n, _, r5⟩ := nat (Int.emod_nonneg _ (by decide)) r5
        obtain rfl : v5 = .int (n : Int) := r5
        exact tail n G5 H5 ((t3.trans s4).trans s5)
      · exact tail 0 G4 H4 (t3.trans s4)
end
end Mw
namespace Mw
open PySem PySem.Spec PyProof.Rows L2
/-- rows that make a works -/
def okRs (rows : List Row) : Prop := 1 ≤ rows.length ∧ rows.length ≤ 12 ∧ ∀ r ∈ rows, okR rows.length r
abbrev spStuck (K : PySem.W.Frag) : Sp := spE1 K okRs fun rows (b : Bool) => b = false → Rk rows rows.length
theorem s_whenE {K : PySem.W.Frag} {σ : L2.St} {G H : Hp} {te : TE} {tu tw : TS} {D : Ends} {Pb : Bool → Prop} (gh : Same G H) (h : EvE K te σ G Pb) (h1 : Pb true → ∀ G2 H2, Stp K G H G2 H2 → tu D σ H2) (h2 : Pb false → ∀ G2 H2, Stp K G H G2 H2 → tw D σ H2) : tIfS (tTest te) tu tw D σ H := h G H (Same.refl G) gh _ fun v G2 H2 x s r p => ⟨x, r, by
  cases x with
  | true =>
    show tu D σ H2
    exact h1 p G2 H2 s
  | false =>
    show tw D σ H2
    exact h2 p G2 H2 s⟩
theorem q_whenE {K : PySem.W.Frag} {σ : L2.St} {G H : Hp} {te : TE} {tu tw tz : TS} {D : Ends} {Pb : Bool → Prop} (gh : Same G H) (h : EvE K te σ G Pb) (h1 : Pb true → ∀ G2 H2, Stp K G H G2 H2 → tu { D with nx := tz D } σ H2) (h2 : Pb false → ∀ G2 H2, Stp K G H G2 H2 → tw { D with nx := tz D } σ H2) : tSeq (tIfS (tTest te) tu tw) tz D σ H := s_whenE (D := { D with nx := tz D }) gh h h1 h2
theorem ev_isNE {α : Type} [Rep α] [NN α] {K : PySem.W.Frag} {σ : L2.St} {G : Hp} {ta : TE} {Pb : Option α → Prop} (ha : EvE K ta σ G Pb) : EvE K (tOp rIsN ta (tC .non)) σ G (fun b => ∃ o, Pb o ∧ b = o.isNone) := fun G1 H1 a b Q q => ha G1 H1 a b _ fun v G2 H2 x s r p => ⟨rfl, by
  rw [opt_dec r]
  exact q _ G2 H2 _ s rfl ⟨x, p, rfl⟩⟩
theorem sizesT_eq (rows : List Row) : [1] ++ opens (wdR rows) ++ fm (opens (wdR rows)) (fun _ => true) (fun n => n + 1) = sizesT rows := by
  unfold sizesT fm
  rw [List.filter_eq_self.mpr fun _ _ => rfl] <;> rfl
section
variable {P : Program} {w : World} {K : PySem.W.Frag} {mg : Str → Option Value} {base : Heap}
theorem c_law_row (h : Has K mg "_law_row" d_law_row) (T : Tx K mg base) : Cal P w K mg base "_law_row" 1 ["cell", "many", "most"] (spRow K) := by
  refine h.cal sc_law_row (fun _ _ _ _ _ _ us hl => match us, hl with | [_, _, _], _ => rfl) (fun vs H Q E h => ?_) (fun f cdv A outer s0 H vs Q E hr h => ?_)
  · obtain ⟨_, _, _, _, _, _, _, rfl, _⟩ := h
    rfl
  · obtain ⟨G, v1, v2, v3, cell, many, most, rfl, gh, r1, r2, r3, ⟨h1, h2, h3, h4⟩, q⟩ := h
    refine ⟨_, (pss_cons (ps_set (i := 3) sc_law_row.nd rfl (.inl rfl) (pe_op op_mod (pv 0) pe_int))
      (pss_cons (ps_set (i := 4) sc_law_row.nd rfl (.inl rfl) (pe_op op_fdiv (pv 0) pe_int))
      (pss_cons (ps_if (pt_cmpR op_eq (pv 3) pe_int (nomark _)) (pss_one (ps_ret (pe_tup (pa_cons pe_str (pa_cons (pe_op op_mod (pv 4) pe_int) pa_nil))))) pss_nil)
      (pss_cons (ps_if (pt_cmpR op_eq (pv 3) pe_int (nomark _)) (pss_one (ps_ret (pe_tup (pa_cons pe_str (pa_cons (pe_op op_mod (pv 4) (pv 1)) pa_nil))))) pss_nil)
      (pss_one (ps_ret (pe_tup (pa_cons pe_str (pa_cons (pe_op op_add pe_int (pe_op op_mod (pv 4) (pv 2))) (pa_cons (pe_op op_mod (pe_op op_fdiv (pv 4) pe_int) (pv 1)) (pa_cons (pe_op op_mod (pe_op op_fdiv (pv 4) pe_int) (pv 1)) pa_nil))))))))))), ?_⟩
    refine q_set (K := K) gh (ev_modN (ev_var r1) (ev_n (n := 4)) (by decide)) fun v4 G2 H2 s2 r4 => ?_
    obtain rfl : v4 = .int ((cell % 4 : Nat) : Int) := r4
    refine q_set (K := K) s2.gh (ev_divN (ev_var (Rep.mono s2.gg r1)) (ev_n (n := 4)) (by decide) (by decide)) fun v5 G3 H3 s3 r5 => ?_
    obtain rfl : v5 = .int ((cell / 4 : Nat) : Int) := r5
    generalize cell / 4 = rest
    have t3 := s2.trans s3
    refine q_when (K := K) s3.gh (et_t (ev_eqN (ev_var (x := cell % 4) rfl) (ev_n (n := 3)))) (fun e G4 H4 s4 => ?_) (fun e G4 H4 s4 => ?_)
    · exact s_ret (K := K) s4.gh (ev_mkB (ev_modN (ev_var (x := rest) rfl) (ev_n (n := 6)) (by decide))) fun w G5 H5 s5 r5 => q w G5 H5 _ ((t3.trans s4).trans s5) r5 (show rest % 6 ≤ 5 by omega)
    · have t4 := t3.trans s4
      refine q_when (K := K) s4.gh (et_t (ev_eqN (ev_var (x := cell % 4) rfl) (ev_n (n := 2)))) (fun e G5 H5 s5 => ?_) (fun e G5 H5 s5 => ?_)
      · exact s_ret (K := K) s5.gh (ev_mkC (ev_modN (ev_var (x := rest) rfl) (ev_var (Rep.mono (t4.trans s5).gg r2)) (by omega))) fun w G6 H6 s6 r6 => q w G6 H6 _ ((t4.trans s5).trans s6) r6 (Nat.mod_lt _ (by omega))
      · have t5 := t4.trans s5
        refine s_ret (K := K) s5.gh (ev_mkM (td := tC .non) (ev_addN (ev_n (n := 1)) (ev_modN (ev_var (x := rest) rfl) (ev_var (Rep.mono t5.gg r3)) (by omega))) (ev_modN (ev_divN (ev_var (x := rest) rfl) (ev_n (n := 20)) (by decide) (by decide)) (ev_var (Rep.mono t5.gg r2)) (by omega)) (ev_modN (ev_divN (ev_var (x := rest) rfl) (ev_n (n := 160)) (by decide) (by decide)) (ev_var (Rep.mono t5.gg r2)) (by omega))) fun w G6 H6 s6 r6 => q w G6 H6 _ (t5.trans s6) r6 ⟨by omega, ?_, Nat.mod_lt _ (by omega), Nat.mod_lt _ (by omega)⟩
        have := Nat.mod_lt rest (show 0 < most by omega)
        omega
theorem c_law_end (h : Has K mg "_law_end" d_law_end) (T : Tx K mg base) : Cal P w K mg base "_law_end" 1 ["rows", "row", "size"] (spEnd K) := by
  refine h.cal sc_law_end (fun _ _ _ _ _ _ us hl => match us, hl with | [_, _, _], _ => rfl) (fun vs H Q E h => ?_) (fun f cdv A outer s0 H vs Q E hr h => ?_)
  · obtain ⟨_, _, _, _, _, _, _, rfl, _⟩ := h
    rfl
  · obtain ⟨G, v1, v2, v3, rows, row, s, rfl, gh, r1, r2, r3, ⟨h0, hl, hok⟩, q⟩ := h
    refine ⟨_, (pss_cons (ps_for PassesOwn.never rfl (pi_range1 (by rfl) T.b_range (pa_cons (pe_op op_add (pe_callB (lenK K) (by rfl) T.b_len PySem.boot_len (pa_cons (pv 0) pa_nil)) pe_int) pa_nil)) (pg_name (i := 3) sc_law_end.nd rfl (.inl rfl)) (pss_cons (ps_set (i := 4) sc_law_end.nd rfl (.inl rfl) (pe_ix (ixL K) (pv 0) (pv 1) (fun _ _ => rfl)))
      (pss_one (ps_if (pt_cmpR op_eq (pe_ix (ixT K) (pv 4) pe_int (fun _ _ => rfl)) pe_str (nomark _)) (pss_one (ps_set (i := 1) sc_law_end.nd rfl (.inl rfl) (pe_ix (ixT K) (pv 4) (pe_op op_add pe_int (pe_callTy call_int1 (by rfl) T.b_int (by decide +kernel) (pa_cons (pe_cmpR op_gt (pv 2) (pe_ix (ixT K) (pv 4) pe_int (fun _ _ => rfl)) (nomark _)) pa_nil))) (fun _ _ => rfl)))) (pss_one (ps_if (PW.pt (pw_and (pt_cmpR op_eq (pe_ix (ixT K) (pv 4) pe_int (fun _ _ => rfl)) pe_str (nomark _)) (pw_and1 (pt_cmpR op_eq (pv 2) pe_int (nomark _))))) (pss_one (ps_set (i := 1) sc_law_end.nd rfl (.inl rfl) (pe_ix (ixT K) (pv 4) pe_int (fun _ _ => rfl)))) (pss_one (ps_ret (pv 1)))))))))
      (pss_one (ps_ret pe_non))), ?_⟩
    obtain rfl : v2 = .int (row : Int) := r2
    obtain rfl : v3 = .int (s : Int) := r3
    refine q_forR (K := K) (n := rows.length + 1) gh (ev_nI (ev_addN (ev_len (ev_var r1)) (ev_n (n := 1)))) rfl (by omega) fun G2 H2 s2 => ⟨fun i σ' H' => ∃ (r : Nat), ∃ a b G', σ' = [some v1, some (.int (r : Int)), some (.int (s : Int)), a, b] ∧ Stp K G H G' H' ∧ r < rows.length ∧ i ≤ rows.length + 1 ∧ itw rows s (rows.length + 1) row = itw rows s (rows.length + 1 - i) r,
      ⟨row, none, none, G2, rfl, s2, h0, Nat.zero_le _, rfl⟩, ?_, ?_⟩
    · rintro i σ' H' hi ⟨r, a, b, G', rfl, st, hr', _, e⟩
      have e2 : rows.length + 1 - i = (rows.length - i) + 1 := by omega
      rw [e2] at e
      have hrow := List.getElem?_eq_getElem hr'
      generalize rows[r] = rw at hrow
      have okr := hok _ (List.mem_of_getElem? hrow)
      refine q_set (K := K) st.gh (ev_ixN (ev_var (Rep.mono st.gg r1)) (ev_nI (ev_var (x := r) rfl)) rfl hrow) fun v5 G3 H3 s3 r5 => ?_
      have t3 := st.trans s3
      cases rw with
      | mesh o u v =>
        refine s_if (K := K) s3.gh (et_t (ev_isM (ev_var r5))) (fun _ G4 H4 s4 => ?_) (fun z => by cases z)
        have hw : whole (wdR rows) r s = some (if s ≤ o then u else v) := by
          unfold whole
          rw [show (wdR rows).rows[r]? = _ from hrow]
        have hn : (if s ≤ o then u else v) < rows.length := by
          obtain ⟨_, _, o1, o2⟩ := okr
          split
          · exact o1
          · exact o2
        have r54 := Rep.mono s4.gg r5
        refine s_set (K := K) (x := if s ≤ o then u else v) s4.gh (ev_arg (k := if s ≤ o then 1 else 2) (ev_var r54) (ev_add (ev_i (i := 2)) (ev_intB (ev_gtN (ev_var (x := s) rfl) (ev_m1 (ev_var r54))))) ?_ ?_) fun v6 G5 H5 s5 r6 => ?_
        · by_cases hs : s ≤ o
          · rw [if_pos hs, decide_eq_false (by omega)] <;> rfl
          · rw [if_neg hs, decide_eq_true (by omega)] <;> rfl
        · by_cases hs : s ≤ o
          · rw [if_pos hs, if_pos hs] <;> rfl
          · rw [if_neg hs, if_neg hs] <;> rfl
        · obtain rfl : v6 = .int ((if s ≤ o then u else v : Nat) : Int) := r6
          refine ⟨_, _, _, G5, rfl, (t3.trans s4).trans s5, hn, by omega, ?_⟩
          rw [e, show rows.length + 1 - (i + 1) = rows.length - i by omega]
          show (match whole (wdR rows) r s with | some t => itw rows s (rows.length - i) t | none => none) = _
          rw [hw]
      | crush t =>
        refine s_if (K := K) s3.gh (et_t (ev_isM (ev_var r5))) (fun z => by cases z) (fun _ G4 H4 s4 => ?_)
        have r54 := Rep.mono s4.gg r5
        refine s_if (K := K) s4.gh (et_and (et_t (ev_isC (ev_var r54))) fun _ => et_t (ev_eqN (ev_var (x := s) rfl) (ev_n (n := 1)))) (fun z G5 H5 s5 => ?_) (fun z G5 H5 s5 => ?_)
        · have z : s = 1 := by simpa [Row.isC] using z
          refine s_set (K := K) s5.gh (ev_c1 (ev_var (Rep.mono s5.gg r54))) fun v6 G6 H6 s6 r6 => ?_
          obtain rfl : v6 = .int (t : Int) := r6
          refine ⟨_, _, _, G6, rfl, ((t3.trans s4).trans s5).trans s6, okr, by omega, ?_⟩
          have hw : whole (wdR rows) r s = some t := by
            unfold whole
            rw [show (wdR rows).rows[r]? = _ from hrow]
            exact if_pos z
          rw [e, show rows.length + 1 - (i + 1) = rows.length - i by omega]
          show (match whole (wdR rows) r s with | some t => itw rows s (rows.length - i) t | none => none) = _
          rw [hw]
        · have z : ¬ s = 1 := by simpa [Row.isC] using z
          have hw : whole (wdR rows) r s = none := by
            unfold whole
            rw [show (wdR rows).rows[r]? = _ from hrow]
            exact if_neg z
          refine s_ret (K := K) s5.gh (ev_some (ev_var (x := r) rfl)) fun w G6 H6 s6 r6 => q w G6 H6 (some r) (((t3.trans s4).trans s5).trans s6) r6 ?_
          dsimp only
          rw [e]
          show false = (match whole (wdR rows) r s with | some t => itw rows s (rows.length - i) t | none => none).isSome
          rw [hw] <;> rfl
      | bin k =>
        refine s_if (K := K) s3.gh (et_t (ev_isM (ev_var r5))) (fun z => by cases z) (fun _ G4 H4 s4 => ?_)
        have r54 := Rep.mono s4.gg r5
        refine s_if (K := K) s4.gh (et_as (et_and (b := true) (et_t (ev_isC (ev_var r54))) fun z => by cases z) (c := false) rfl) (fun z => by cases z) (fun z G5 H5 s5 => ?_)
        have hw : whole (wdR rows) r s = none := by
          unfold whole
          rw [show (wdR rows).rows[r]? = _ from hrow]
        refine s_ret (K := K) s5.gh (ev_some (ev_var (x := r) rfl)) fun w G6 H6 s6 r6 => q w G6 H6 (some r) (((t3.trans s4).trans s5).trans s6) r6 ?_
        dsimp only
        rw [e]
        show false = (match whole (wdR rows) r s with | some t => itw rows s (rows.length - i) t | none => none).isSome
        rw [hw] <;> rfl
    · rintro σ' H' ⟨r, a, b, G', rfl, st, hr', _, e⟩
      refine s_ret (K := K) st.gh (ev_non (α := Nat)) fun w G6 H6 s6 r6 => q w G6 H6 none (st.trans s6) r6 ?_
      dsimp only
      rw [e, Nat.sub_self] <;> rfl
theorem c_law_stuck (h : Has K mg "_law_stuck" d_law_stuck) (T : Tx K mg base) (c_law_end : Cal P w K mg base "_law_end" 1 ["rows", "row", "size"] (spEnd K)) : Cal P w K mg base "_law_stuck" 2 ["rows"] (spStuck K) := by
  refine h.cal sc_law_stuck (fun _ _ _ _ _ _ us hl => match us, hl with | [_], _ => rfl) (fun vs H Q E h => ?_) (fun f cdv A outer s0 H vs Q E hr h => ?_)
  · obtain ⟨_, _, _, rfl, _⟩ := h
    rfl
  · obtain ⟨G, v1, rows, rfl, gh, r1, ⟨n1, n12, hok⟩, q⟩ := h
    refine ⟨_, (pss_cons (ps_setLc (i := 2) (own := [("row", 1)]) (g := (gName 1)) rfl sc_law_stuck.nd  rfl rfl (sw_true rfl rfl rfl (by decide +kernel)) (pi_list (pv 0)) (blkOk_by (N := N_law_stuck) (sc := defScope s_law_stuck) (by decide +kernel)) (fun _ _ _ _ _ => (pg_name (i := 1) sc_law_stuck.nd rfl (Or.inl rfl))) (fun _ _ _ _ _ => pts_one (pt_cmpR op_eq (pe_ix (ixT K) (pv 1) pe_int (fun _ _ => rfl)) pe_str (nomark _))) (fun _ _ _ _ _ => (pe_ix (ixT K) (pv 1) pe_int (fun _ _ => rfl))))
      (pss_cons (ps_for PassesOwn.never rfl (pi_list (pe_op op_cat (pe_op op_cat (pe_lst (pa_cons pe_int pa_nil)) (pv 2)) (pe_lc (own := [("opening", 4)]) (g := (gName 4)) (tt := tYes) rfl sc_law_stuck.nd (pi_list (pv 2)) (blkOk_by (N := N_law_stuck) (sc := defScope s_law_stuck) (by decide +kernel)) (fun _ _ _ _ _ => (pg_name (i := 4) sc_law_stuck.nd rfl (Or.inl rfl))) (fun _ _ _ _ _ => pts_nil) (fun _ _ _ _ _ => (pe_op op_add (pv 4) pe_int))))) (pg_name (i := 3) sc_law_stuck.nd rfl (.inl rfl)) (pss_one (ps_for PassesOwn.never rfl (pi_range1 (by rfl) T.b_range (pa_cons (pe_callB (lenK K) (by rfl) T.b_len PySem.boot_len (pa_cons (pv 0) pa_nil)) pa_nil)) (pg_name (i := 1) sc_law_stuck.nd rfl (.inl rfl)) (pss_one (ps_if (pt_cmpR op_isN (pe_c c_law_end (hr.mono (by decide)) (pa_cons (pv 0) (pa_cons (pv 1) (pa_cons (pv 3) pa_nil)))) pe_non (nomark _)) (pss_one (ps_ret pe_bl)) pss_nil)))))
      (pss_one (ps_ret pe_bl)))), ?_⟩
    have hol : (opens (wdR rows)).length ≤ rows.length := opens_len (wdR rows)
    refine q_set (K := K) gh (ev_lcL Row.isM Row.opening (ev_var r1) (by omega) (fun _ => rfl) (fun i r v G1 _ _ rv => et_t (ev_isM (ev_var rv))) (fun i r v G1 _ _ rv hp => ev_opening (ev_var rv) hp)) fun v2 G2 H2 st r2 => ?_
    have r2 : rp K G2 v2 (opens (wdR rows)) := r2
    refine q_for (K := K) st.gh (ev_as (ev_cat (ev_cat (ev_lst (el_cons (ev_n (n := 1)) el_nil) (by simp)) (ev_var r2) (by simp; omega))
      (ev_lcL (fun _ => true) (fun n : Nat => n + 1) (ev_var r2) (by omega) (fun _ => rfl) (fun i n v G1 _ _ rv => et_yes) (fun i n v G1 _ _ rv hp => ev_addN (ev_var rv) (ev_n (n := 1)))) (by
        have := fm_len (opens (wdR rows)) (fun _ => true) (fun n => n + 1)
        simp
        omega)) (sizesT_eq rows)) fun G3 H3 s3 _ => ⟨fun i σ' H' => ∃ a b G', σ' = [some v1, a, some v2, b, none] ∧ Same G3 G' ∧ Stp K G H G' H' ∧ ∀ j, j < i → ∀ s, (sizesT rows)[j]? = some s → ∀ row, row < rows.length → itw rows s (rows.length + 1) row = none,
        ⟨none, none, G3, rfl, Same.refl G3, st.trans s3, fun j hj => by omega⟩, ?_, ?_, ?_⟩
    · rintro i σ' H' ⟨_, _, G', _, g3, st', _⟩
      exact g3.trans st'.gh
    · rintro i s v σ' H' hs rv ⟨a, b, G', rfl, g3, st', e⟩
      obtain rfl : v = .int (s : Int) := rv
      refine s_forR (K := K) (n := rows.length) st'.gh (ev_nI (ev_len (ev_var (Rep.mono st'.gg r1)))) rfl (by omega) fun G4 H4 s4 => ⟨fun k σ' H' => ∃ a G5, σ' = [some v1, a, some v2, some (.int (s : Int)), none] ∧ Same G3 G5 ∧ Stp K G H G5 H' ∧ ∀ row, row < k → itw rows s (rows.length + 1) row = none,
        ⟨a, G4, rfl, g3.trans s4.gg, st'.trans s4, fun row hr => by omega⟩, ?_, ?_⟩
      · rintro k σ' H' hk ⟨a', G5, rfl, g5, s5, e5⟩
        refine s_whenE (K := K) s5.gh (ev_isNE (ev_E3 (ev_var (Rep.mono s5.gg r1)) (ev_var (x := k) rfl) (ev_var (x := s) rfl) ⟨hk, by omega, hok⟩)) (fun hb G6 H6 s6 => ?_) (fun hb G6 H6 s6 => ?_)
        · exact s_ret (K := K) s6.gh (ev_b (b := true)) fun w G7 H7 s7 r7 => q w G7 H7 true ((s5.trans s6).trans s7) r7 (fun z => by cases z)
        · obtain ⟨o, ho, eo⟩ := hb
          have ho : o.isNone = (itw rows s (rows.length + 1) k).isSome := ho
          refine ⟨_, G6, rfl, g5.trans s6.gg, s5.trans s6, fun row hr => ?_⟩
          by_cases hrk : row < k
          · exact e5 row hrk
          · obtain rfl : row = k := by omega
            rw [← eo] at ho
            cases h : itw rows s (rows.length + 1) row with
            | none => rfl
            | some x =>
              rw [h] at ho
              cases ho
      · rintro σ' H' ⟨a', G5, rfl, g5, s5, e5⟩
        refine ⟨a', _, G5, rfl, g5, s5, fun j hj s' hs' row hr => ?_⟩
        by_cases hji : j < i
        · exact e j hji s' hs' row hr
        · obtain rfl : j = i := by omega
          rw [hs] at hs'
          cases hs'
          exact e5 row hr
    · rintro σ' H' ⟨a, b, G', rfl, _, st', e⟩
      refine s_ret (K := K) st'.gh (ev_b (b := false)) fun w G7 H7 s7 r7 => q w G7 H7 false (st'.trans s7) r7 fun _ => ?_
      refine rk_of (fun o ho => ?_) fun s hs row => ?_
      · obtain ⟨r, h1, h2, h3⟩ := mem_fm.mp ho
        have := hok r h1
        cases r with
        | mesh o' u v =>
          have e3 : o' = o := h3
          rw [← e3]
          exact this.1
        | crush t => cases h2
        | bin b => cases h2
      · by_cases hr : row < rows.length
        · obtain ⟨j, hj⟩ := List.getElem?_of_mem hs
          refine e j ?_ s hj row hr
          exact (List.getElem?_eq_some_iff.mp hj).1
        · exact itw_out (by omega)
end
end Mw
/-! The law's works: rows made again. -/
namespace Mw
theorem mapIdx_map {α β : Type} (g : α → β) : ∀ (l : List α) (f : Nat → α → α), (∀ k r, r ∈ l → g (f k r) = g r) → (l.mapIdx f).map g = l.map g
  | [], _, _ => rfl
  | a :: l, f, h => by
    rw [List.mapIdx_cons, List.map_cons, List.map_cons, h 0 a List.mem_cons_self, mapIdx_map g l (fun k => f (k + 1)) fun k r hr => h (k + 1) r (List.mem_cons_of_mem _ hr)]
theorem crN_map (rows : List Row) : crN rows = ((rows.map Row.isC).filter id).length := by
  unfold crN
  rw [List.filter_map, List.length_map] <;> rfl
theorem crN_congr {r1 r2 : List Row} (h : r1.map Row.isC = r2.map Row.isC) : crN r1 = crN r2 := by rw [crN_map, crN_map, h]
/-- the opening of a mesh -/
def mo : Row → Option Nat
  | .mesh o _ _ => some o
  | _ => none
theorem mem_opens {rows : List Row} {o : Nat} : o ∈ opens (wdR rows) ↔ ∃ r ∈ rows, mo r = some o := by
  refine mem_fm.trans ⟨fun ⟨r, h1, h2, h3⟩ => ⟨r, h1, ?_⟩, fun ⟨r, h1, h2⟩ => ⟨r, h1, ?_⟩⟩
  · cases r with
    | mesh o' u v => exact congrArg some h3
    | crush t => cases h2
    | bin b => cases h2
  · cases r with
    | mesh o' u v => exact ⟨rfl, Option.some.inj h2⟩
    | crush t => cases h2
    | bin b => cases h2
def fwdR (n k : Nat) : Row → Row
  | .mesh o u v => .mesh o (k + 1 + u % (n - 1 - k)) (k + 1 + v % (n - 1 - k))
  | .crush t => .crush (k + 1 + t % (n - 1 - k))
  | .bin b => .bin b
def fwd (rows : List Row) : List Row := rows.mapIdx fun k r => fwdR rows.length k r
theorem fwd_len (rows : List Row) : (fwd rows).length = rows.length := List.length_mapIdx
theorem fwd_at {rows : List Row} {k : Nat} {r : Row} (h : rows[k]? = some r) : (fwd rows)[k]? = some (fwdR rows.length k r) := by
  unfold fwd
  rw [List.getElem?_mapIdx, h] <;> rfl
theorem fwd_ex {rows : List Row} {k : Nat} {r : Row} (h : (fwd rows)[k]? = some r) : ∃ r0, rows[k]? = some r0 ∧ r = fwdR rows.length k r0 := by
  unfold fwd at h
  rw [List.getElem?_mapIdx] at h
  cases e : rows[k]? with
  | none =>
    rw [e] at h
    cases h
  | some r0 =>
    rw [e] at h
    exact ⟨r0, rfl, (Option.some.inj h).symm⟩
theorem fwd_cr (rows : List Row) : crN (fwd rows) = crN rows := crN_congr (mapIdx_map _ _ _ fun k r _ => by cases r <;> rfl)
theorem fwd_op {rows : List Row} {o : Nat} (h : o ∈ opens (wdR (fwd rows))) : o ∈ opens (wdR rows) := by
  obtain ⟨r, h1, h2⟩ := mem_opens.mp h
  obtain ⟨k, hk⟩ := List.getElem?_of_mem h1
  obtain ⟨r0, e1, rfl⟩ := fwd_ex hk
  refine mem_opens.mpr ⟨r0, List.mem_of_getElem? e1, ?_⟩
  rw [← h2]
  cases r0 <;> rfl
/-- the last row is a bin -/
def lastB (rows : List Row) : Prop := ∃ b, rows[rows.length - 1]? = some (.bin b)
theorem last_no {rows : List Row} {k : Nat} {r : Row} (hl : lastB rows) (h : rows[k]? = some r) (hb : r.isB = false) : 0 < rows.length - 1 - k := by
  have hk := (List.getElem?_eq_some_iff.mp h).1
  apply Classical.byContradiction
  intro z
  have e : k = rows.length - 1 := by omega
  obtain ⟨b, e2⟩ := hl
  rw [← e, h] at e2
  cases e2
  cases hb
theorem fwd_ok {rows : List Row} (hl : lastB rows) (h : ∀ r ∈ rows, okR rows.length r) : ∀ r ∈ fwd rows, okR (fwd rows).length r := by
  intro r hr
  rw [fwd_len]
  obtain ⟨k, hk⟩ := List.getElem?_of_mem hr
  obtain ⟨r0, e1, rfl⟩ := fwd_ex hk
  have ok := h r0 (List.mem_of_getElem? e1)
  cases r0 with
  | mesh o u v =>
    have p := last_no hl e1 rfl
    have l1 := Nat.mod_lt u p
    have l2 := Nat.mod_lt v p
    exact ⟨ok.1, ok.2.1, by omega, by omega⟩
  | crush t =>
    have p := last_no hl e1 rfl
    have l1 := Nat.mod_lt t p
    show k + 1 + _ < _
    omega
  | bin b => exact ok
theorem fwd_fwd {rows : List Row} : Fwd (fwd rows) := by
  intro s row t h
  unfold whole at h
  cases e : (wdR (fwd rows)).rows[row]? with
  | none =>
    rw [e] at h
    cases h
  | some r =>
    rw [e] at h
    obtain ⟨r0, e1, rfl⟩ := fwd_ex e
    cases r0 with
    | mesh o u v =>
      have h : some (if s ≤ o then row + 1 + u % (rows.length - 1 - row) else row + 1 + v % (rows.length - 1 - row)) = some t := h
      have h := Option.some.inj h
      split at h <;> omega
    | crush q =>
      have h : (if s = 1 then some (row + 1 + q % (rows.length - 1 - row)) else none) = some t := h
      split at h
      · have h := Option.some.inj h
        omega
      · cases h
    | bin b => cases h
theorem fwd_rows {rows : List Row} {n m c : Nat} (hl : lastB rows) (h1 : 1 ≤ rows.length) (hn : rows.length ≤ n) (hm : rows.length ≤ m) (hok : ∀ r ∈ rows, okR rows.length r) (ho : ∀ o ∈ opens (wdR rows), 1 ≤ o ∧ o ≤ 5) (hc : crN rows ≤ c) : RowsOk (fwd rows) n m c :=
  ⟨by rw [fwd_len]; exact h1, by rw [fwd_len]; exact hn, fwd_ok hl hok, fun o h => ho o (fwd_op h), (rk_fwd fwd_fwd (fwd_ok hl hok)).mono (by rw [fwd_len]; exact hm), by rw [fwd_cr]; exact hc⟩
end Mw
namespace Mw
open PySem PySem.Spec PyProof.Rows L2
abbrev spForward (K : PySem.W.Frag) : Sp := sp1 K (fun rows => okRs rows ∧ lastB rows) fwd
section
variable {P : Program} {w : World} {K : PySem.W.Frag} {mg : Str → Option Value} {base : Heap}
theorem c_law_forward (h : Has K mg "_law_forward" d_law_forward) (T : Tx K mg base) : Cal P w K mg base "_law_forward" 1 ["rows"] (spForward K) := by
  refine h.cal sc_law_forward (fun _ _ _ _ _ _ us hl => match us, hl with | [_], _ => rfl) (fun vs H Q E h => ?_) (fun f cdv A outer s0 H vs Q E hr h => ?_)
  · obtain ⟨_, _, _, rfl, _⟩ := h
    rfl
  · obtain ⟨G, v1, rows, rfl, gh, r1, ⟨⟨n1, n12, hok⟩, hl⟩, q⟩ := h
    refine ⟨_, (pss_cons (ps_set (i := 1) sc_law_forward.nd rfl (.inl rfl) (pe_lst pa_nil))
      (pss_cons (ps_for PassesOwn.never rfl (pi_range1 (by rfl) T.b_range (pa_cons (pe_callB (lenK K) (by rfl) T.b_len PySem.boot_len (pa_cons (pv 0) pa_nil)) pa_nil)) (pg_name (i := 2) sc_law_forward.nd rfl (.inl rfl)) (pss_cons (ps_set (i := 3) sc_law_forward.nd rfl (.inl rfl) (pe_ix (ixL K) (pv 0) (pv 2) (fun _ _ => rfl)))
      (pss_cons (ps_set (i := 4) sc_law_forward.nd rfl (.inl rfl) (pe_op op_sub (pe_op op_sub (pe_callB (lenK K) (by rfl) T.b_len PySem.boot_len (pa_cons (pv 0) pa_nil)) pe_int) (pv 2)))
      (pss_cons (ps_if (pt_cmpR op_eq (pe_ix (ixT K) (pv 3) pe_int (fun _ _ => rfl)) pe_str (nomark _)) (pss_one (ps_set (i := 3) sc_law_forward.nd rfl (.inl rfl) (pe_tup (pa_cons pe_str (pa_cons (pe_ix (ixT K) (pv 3) pe_int (fun _ _ => rfl)) (pa_cons (pe_op op_add (pe_op op_add (pv 2) pe_int) (pe_op op_mod (pe_ix (ixT K) (pv 3) pe_int (fun _ _ => rfl)) (pv 4))) (pa_cons (pe_op op_add (pe_op op_add (pv 2) pe_int) (pe_op op_mod (pe_ix (ixT K) (pv 3) pe_int (fun _ _ => rfl)) (pv 4))) pa_nil))))))) (pss_one (ps_if (pt_cmpR op_eq (pe_ix (ixT K) (pv 3) pe_int (fun _ _ => rfl)) pe_str (nomark _)) (pss_one (ps_set (i := 3) sc_law_forward.nd rfl (.inl rfl) (pe_tup (pa_cons pe_str (pa_cons (pe_op op_add (pe_op op_add (pv 2) pe_int) (pe_op op_mod (pe_ix (ixT K) (pv 3) pe_int (fun _ _ => rfl)) (pv 4))) pa_nil))))) pss_nil)))
      (pss_one (ps_expr (pe_bm PySem.F.plainAttrs_list PySem.F.slot_list_append PySem.F.type_list_append mt_append (pv 1) (pa_cons (pv 3) pa_nil))))))))
      (pss_one (ps_ret (pv 1))))), ?_⟩
    refine q_new fun L nL => ?_
    refine q_forR (K := K) (n := rows.length) (Stp.raw (K := K) (o := .lst []) gh nL).gh (ev_nI (ev_len (ev_var r1))) rfl (by omega) fun G2 H2 s2 => ⟨fun i σ' H' => ∃ a b c G' vs, σ' = [some v1, some (.ref L), a, b, c] ∧ Stp K G H G' H' ∧ G' L = none ∧ H' L = some (.lst vs) ∧ All2 (rp K G') vs ((fwd rows).take i), ?_, ?_, ?_⟩
    · obtain ⟨g2, h2⟩ := s2.ownL (gh.free nL) upd_same
      exact ⟨none, none, none, G2, [], rfl, (Stp.raw gh nL).trans s2, g2, h2, .nil⟩
    · rintro i σ' H' hi ⟨a, b, c, G', vs, rfl, st, gL, hL, rv⟩
      have hrow := List.getElem?_eq_getElem hi
      generalize rows[i] = rw at hrow
      have okr := hok _ (List.mem_of_getElem? hrow)
      have lenv : vs.length ≤ 12 := by
        rw [rv.len, List.length_take, fwd_len]
        omega
      refine q_set (K := K) st.gh (ev_ixN (ev_var (Rep.mono st.gg r1)) (ev_nI (ev_var (x := i) rfl)) rfl hrow) fun v4 G3 H3 s3 r4 => ?_
      have t3 := st.trans s3
      refine q_set (K := K) s3.gh (ev_subN (ev_subN (ev_len (ev_var (Rep.mono t3.gg r1))) (ev_n (n := 1)) (by omega)) (ev_var (x := i) rfl) (by omega)) fun v5 G4 H4 s4 r5 => ?_
      obtain rfl : v5 = .int ((rows.length - 1 - i : Nat) : Int) := r5
      have t4 := t3.trans s4
      have fin : ∀ v5 G5 H5, Stp K G' H' G5 H5 → rp K G5 v5 (fwdR rows.length i rw) → tDrop (tBM K "list" rAppend (tVar 1) (tCons (tVar 3) tNil)) { nx := fun σ' H' => ∃ a b c G' vs, σ' = [some v1, some (.ref L), a, b, c] ∧ Stp K G H G' H' ∧ G' L = none ∧ H' L = some (.lst vs) ∧ All2 (rp K G') vs ((fwd rows).take (i + 1)), ct := fun σ' H' => ∃ a b c G' vs, σ' = [some v1, some (.ref L), a, b, c] ∧ Stp K G H G' H' ∧ G' L = none ∧ H' L = some (.lst vs) ∧ All2 (rp K G') vs ((fwd rows).take (i + 1)), bk := tRet (tVar 1) { nx := fun _ H' => Q .non H', rt := Q }, rt := Q } [some v1, some (.ref L), some (.int (i : Int)), some v5, some (.int ((rows.length - 1 - i : Nat) : Int))] H5 := fun v5 G5 H5 s5 r5 => by
        obtain ⟨g5, h5⟩ := s5.ownL gL hL
        refine s_app (K := K) rfl g5 h5 (by omega) s5.gh (ev_var r5) fun v6 G6 H6 s6 r6 e6 g6 => ?_
        refine ⟨_, _, _, G6, _, rfl, ((st.trans s5).trans s6).putL nL g6 e6, g6, upd_same, ?_⟩
        rw [take_snoc (fwd_at hrow)]
        exact (rv.mp fun _ _ r => Rep.mono (s5.gg.trans s6.gg) r).app (.one r6)
      have u4 := s3.trans s4
      have r44 := Rep.mono s4.gg r4
      cases rw with
      | mesh o u v =>
        have p := last_no hl hrow rfl
        refine q_if (K := K) s4.gh (et_t (ev_isM (ev_var r44))) (fun _ G5 H5 s5 => ?_) (fun z => by cases z)
        have r45 := Rep.mono s5.gg r44
        refine s_set (K := K) s5.gh (ev_mkM (td := tC .non) (ev_m1 (ev_var r45)) (ev_addN (ev_addN (ev_var (x := i) rfl) (ev_n (n := 1))) (ev_modN (ev_m2 (ev_var r45)) (ev_var (x := rows.length - 1 - i) rfl) p)) (ev_addN (ev_addN (ev_var (x := i) rfl) (ev_n (n := 1))) (ev_modN (ev_m3 (ev_var r45)) (ev_var (x := rows.length - 1 - i) rfl) p))) fun v6 G6 H6 s6 r6 => ?_
        exact fin v6 G6 H6 ((u4.trans s5).trans s6) r6
      | crush t =>
        have p := last_no hl hrow rfl
        refine q_if (K := K) s4.gh (et_t (ev_isM (ev_var r44))) (fun z => by cases z) (fun _ G5 H5 s5 => ?_)
        have r45 := Rep.mono s5.gg r44
        refine s_when (K := K) s5.gh (et_t (ev_isC (ev_var r45))) (fun _ G6 H6 s6 => ?_) (fun z => by cases z)
        have r46 := Rep.mono s6.gg r45
        refine s_set (K := K) s6.gh (ev_mkC (ev_addN (ev_addN (ev_var (x := i) rfl) (ev_n (n := 1))) (ev_modN (ev_c1 (ev_var r46)) (ev_var (x := rows.length - 1 - i) rfl) p))) fun v7 G7 H7 s7 r7 => ?_
        exact fin v7 G7 H7 (((u4.trans s5).trans s6).trans s7) r7
      | bin k =>
        refine q_if (K := K) s4.gh (et_t (ev_isM (ev_var r44))) (fun z => by cases z) (fun _ G5 H5 s5 => ?_)
        have r45 := Rep.mono s5.gg r44
        refine s_when (K := K) s5.gh (et_t (ev_isC (ev_var r45))) (fun z => by cases z) (fun _ G6 H6 s6 => ?_)
        exact fin v4 G6 H6 ((u4.trans s5).trans s6) (Rep.mono s6.gg r45)
    · rintro σ' H' ⟨a, b, c, G', vs, rfl, st, gL, hL, rv⟩
      rw [List.take_of_length_le (by rw [fwd_len]; exact Nat.le_refl _)] at rv
      exact ⟨.ref L, rfl, q _ _ H' (st.frz nL gL hL) ⟨L, vs, rfl, upd_same, rv.mp fun _ _ r => Rep.mono (same_new gL) r⟩⟩
end
end Mw
namespace Mw
open PySem PySem.Spec PyProof.Rows L2
section
variable {K : PySem.W.Frag} {σ : L2.St} {G H : Hp} {ta tb tc td te tf : TE} {t u : TT} {α β γ δ ε ζ : Type} [Rep α] [Rep β] [Rep γ] [Rep δ] [Rep ε] [Rep ζ] {x : α} {y : β} {z : γ} {D : Ends} {tz tu tw : TS}
theorem ewa_lcO {i0 j : Nat} {A : Addr} {ws : List V} {vs : List Nat} {l : List α} (p : α → Bool) (f : α → β) (hi : σ[i0]? = some (some (.ref A))) (gl : G A = none) (hl : H A = some (.lst ws)) (gh : Same G H) (e3 : All2 (rp K G) ws l) (hz : l.length < 50000) (hw : ∀ x, wipe ((wipe σ vs).set j (some x)) vs = wipe σ vs)
    (ht : ∀ (i : Nat) (x : α) v G1 H1, Stp K G H G1 H1 → l[i]? = some x → rp K G1 v x → ETA K t ((wipe σ vs).set j (some v)) G1 H1 (p x)) (he : ∀ (i : Nat) (x : α) v G1 H1, Stp K G H G1 H1 → l[i]? = some x → rp K G1 v x → p x = true → EA K te ((wipe σ vs).set j (some v)) G1 H1 (f x)) :
    EWA K (tLc (iList K (tVar i0)) (gName j) t te vs) σ G H (fm l p f) := fun Q q => by
  refine ⟨.ref A, hi, A, rfl, ⟨ws, SqL.of hl⟩, fun L hL => ?_⟩
  refine lc_list (xs := ws) (fun i H' => Cw K G H L (fm (l.take i) p f) H') (Cw.nil gh hL) (fun i H' _ w => ?_) (fun i v H' hi w => ⟨hw v, ?_⟩) (fun H' w => ?_)
  · obtain ⟨G', vs, s', _, _, _⟩ := w
    exact SqL.of (s'.ownL gl hl).2
  · obtain ⟨x, hx, rx⟩ := e3.getV hi
    have hlen : (fm (l.take i) p f).length < 50000 := Nat.lt_of_le_of_lt (fm_len _ _ _) (Nat.lt_of_le_of_lt (List.length_take_le _ _) (by
      have := (List.getElem?_eq_some_iff.mp hx).1
      omega))
    refine Cw.turnA w hL hlen (fun G2 H2 s2 => ht i x v G2 H2 s2 hx (Rep.mono s2.gg rx)) (fun hb G2 H2 s2 => he i x v G2 H2 s2 hx (Rep.mono s2.gg rx) hb) fun H2 w2 => ?_
    show Cw K G H L (fm (l.take (i + 1)) p f) H2
    rw [take_snoc hx, fm_snoc]
    exact w2
  · rw [e3.len, List.take_length] at w
    exact w.out hL fun L vs G2 H2 s2 n2 g2 h2 r2 => q L vs G2 H2 s2 n2 g2 h2 r2
theorem eta_and {a b : Bool} (h1 : ETA K t σ G H a) (h2 : a = true → ∀ G2 H2, Stp K G H G2 H2 → ETA K u σ G2 H2 b) : ETA K (tAnd t u) σ G H (a && b) := fun Q q => h1 _ fun G2 H2 s => by
  cases a with
  | true =>
    show u σ H2 Q
    exact h2 rfl G2 H2 s Q fun G3 H3 s' => q G3 H3 (s.trans s')
  | false =>
    show Q false H2
    exact q G2 H2 s
theorem ea_lenA {l : List α} (ha : EA K ta σ G H l) : EA K (tCB (rLn K) (tCons ta tNil)) σ G H l.length := fun Q q => ha _ fun v G2 H2 s ⟨p, vs, e1, e2, e3⟩ =>
  ⟨p, vs, by rw [e1], .inl (SqL.of (s.gh _ _ e2)), q _ G2 H2 s (by rw [e3.len] <;> rfl)⟩
theorem ea_geN {a b : Nat} (ha : EA K ta σ G H a) (hb : ∀ G2 H2, Stp K G H G2 H2 → EA K tb σ G2 H2 b) : EA K (tOp (rI0 fun i j => .bl (decide (j ≤ i))) ta tb) σ G H (decide (b ≤ a)) := fun Q q =>
  ha _ fun v G2 H2 s1 r1 => hb G2 H2 s1 _ fun w G3 H3 s2 r2 => ⟨a, b, r1, r2, by
    show Q (V.bl (decide ((b : Int) ≤ (a : Int)))) H3
    refine q _ G3 H3 (s1.trans s2) ?_
    rw [dec_le] <;> rfl⟩
def spE5 (K : PySem.W.Frag) (pre : α → β → γ → δ → ε → Prop) (R : α → β → γ → δ → ε → ζ → Prop) : Sp := fun vs H Q _ => ∃ G v1 v2 v3 v4 v5 x y z u t, vs = [v1, v2, v3, v4, v5] ∧ Same G H ∧ rp K G v1 x ∧ rp K G v2 y ∧ rp K G v3 z ∧ rp K G v4 u ∧ rp K G v5 t ∧ pre x y z u t ∧ ∀ w G' H' s, Stp K G H G' H' → rp K G' w s → R x y z u t s → Q w H'
theorem ev_E5 {E : XK} {pre : α → β → γ → δ → ε → Prop} {R : α → β → γ → δ → ε → ζ → Prop} {u : δ} {t : ε} (h1 : Ev K ta σ G x) (h2 : Ev K tb σ G y) (h3 : Ev K tc σ G z) (h4 : Ev K td σ G u) (h5 : Ev K tf σ G t) (hp : pre x y z u t) : EvE K (tCall (spE5 K pre R) [] E (tCons ta (tCons tb (tCons tc (tCons td (tCons tf tNil)))))) σ G (R x y z u t) := fun G1 H1 a b Q q =>
  h1 G1 H1 a b _ fun v G2 H2 s r => h2 G2 H2 (a.trans s.gg) s.gh _ fun v2 G3 H3 s2 r2 => h3 G3 H3 ((a.trans s.gg).trans s2.gg) s2.gh _ fun v3 G4 H4 s3 r3 => h4 G4 H4 (((a.trans s.gg).trans s2.gg).trans s3.gg) s3.gh _ fun v4 G5 H5 s4 r4 => h5 G5 H5 ((((a.trans s.gg).trans s2.gg).trans s3.gg).trans s4.gg) s4.gh _ fun v5 G6 H6 s5 r5 =>
    ⟨G6, v, v2, v3, v4, v5, x, y, z, u, t, rfl, s5.gh, Rep.mono (((s2.gg.trans s3.gg).trans s4.gg).trans s5.gg) r, Rep.mono ((s3.gg.trans s4.gg).trans s5.gg) r2, Rep.mono (s4.gg.trans s5.gg) r3, Rep.mono s5.gg r4, r5, hp, fun w G' H' s0 s' r' hu => q w G' H' s0 (((((s.trans s2).trans s3).trans s4).trans s5).trans s') r' hu⟩
theorem ev_modE {P : Nat → Prop} {b : Nat} (ha : EvE K ta σ G P) (hb : Ev K tb σ G b) (h : 0 < b) : EvE K (tOp (rI (fun _ j => 0 < j) fun i j => .int (i % j)) ta tb) σ G (fun n => ∃ a, P a ∧ n = a % b) := fun G1 H1 s1 s2 Q q =>
  ha G1 H1 s1 s2 _ fun v G2 H2 a s r pa => hb G2 H2 (s1.trans s.gg) s.gh _ fun w G3 H3 s' r' => ⟨(a : Int), (b : Int), r, r', by omega, by
    refine q _ G3 H3 (a % b) (s.trans s') ?_ ⟨a, pa, rfl⟩
    show V.int ((a : Int) % (b : Int)) = V.int ((a % b : Nat) : Int)
    rw [Int.natCast_emod]⟩
theorem ev_mkBE {P : Nat → Prop} (h1 : EvE K ta σ G P) : EvE K (tTup (tCons (tC (.str "bin")) (tCons ta tNil))) σ G (fun r => ∃ t, P t ∧ r = Row.bin t) := fun G1 H1 a b Q q =>
  h1 G1 H1 a b _ fun v G2 H2 t s r pt => by
    refine (ev_mkB (t := t) (ta := tC v) (σ := σ) (G := G2) (K := K) fun G3 H3 a3 b3 Q3 q3 => q3 v G3 H3 (Stp.refl b3) (Rep.mono a3 r)) G2 H2 (Same.refl G2) s.gh Q fun w G3 H3 s3 r3 => q w G3 H3 _ (s.trans s3) r3 ⟨t, pt, rfl⟩
theorem q_appE {i : Nat} {l : Addr} {xs : List V} {P : α → Prop} (hi : σ[i]? = some (some (.ref l))) (gl : G l = none) (hl : H l = some (.lst xs)) (hz : xs.length < 100000) (gh : Same G H) (h : EvE K te σ G P)
    (k : ∀ v G2 H2 x, Stp K G H G2 H2 → rp K G2 v x → P x → H2 l = some (.lst xs) → G2 l = none → tz D σ (upd H2 l (.lst (xs ++ [v])))) : tSeq (tDrop (tBM K "list" rAppend (tVar i) (tCons te tNil))) tz D σ H :=
  ⟨.ref l, hi, .inl ⟨rfl, xs, SqL.of hl⟩, h G H (Same.refl G) gh _ fun v G2 H2 x s r px => by
    obtain ⟨e1, e2⟩ := s.ownL gl hl
    exact ⟨l, xs, v, rfl, rfl, e2, sz_lt hz, k v G2 H2 x s r px e2 e1⟩⟩
/-- a call on what a call gives -/
theorem ev_E3E {E : XK} {P : α → Prop} {pre : α → β → γ → Prop} {R : α → β → γ → δ → Prop} (h1 : EvE K ta σ G P) (h2 : Ev K tb σ G y) (h3 : Ev K tc σ G z) (hp : ∀ x, P x → pre x y z) : EvE K (tCall (spE3 K pre R) [] E (tCons ta (tCons tb (tCons tc tNil)))) σ G (fun u => ∃ x, P x ∧ R x y z u) := fun G1 H1 a b Q q =>
  h1 G1 H1 a b _ fun v G2 H2 x s r px => h2 G2 H2 (a.trans s.gg) s.gh _ fun v2 G3 H3 s2 r2 => h3 G3 H3 ((a.trans s.gg).trans s2.gg) s2.gh _ fun v3 G4 H4 s3 r3 =>
    ⟨G4, v, v2, v3, x, y, z, rfl, s3.gh, Rep.mono (s2.gg.trans s3.gg) r, Rep.mono s3.gg r2, r3, hp x px, fun w G' H' u s' r' hu => q w G' H' u (((s.trans s2).trans s3).trans s') r' ⟨x, px, hu⟩⟩
end
theorem genR_ok {many most : Nat} (hm : most ≤ 4) {r : Row} (h : genR many most r) : okR many r := by
  cases r with
  | mesh o u v => exact ⟨h.1, by have := h.2.1; omega, h.2.2.1, h.2.2.2⟩
  | crush t => exact h
  | bin b => exact h
theorem crN_snoc (rows : List Row) (r : Row) : crN (rows ++ [r]) = crN rows + if r.isC then 1 else 0 := by
  unfold crN
  rw [List.filter_append, List.length_append, List.filter_cons]
  cases r.isC <;> rfl
abbrev spRows (K : PySem.W.Frag) : Sp := spE5 K (fun (z : Scr) (a many most cr : Nat) => a ≤ 100 ∧ 1 ≤ many ∧ many ≤ 6 ∧ 1 ≤ most ∧ most ≤ 4) fun _ _ _ _ cr rows => RowsOk rows 6 6 cr ∧ ∀ o ∈ opens (wdR rows), o ≤ 4
section
variable {P : Program} {w : World} {K : PySem.W.Frag} {mg : Str → Option Value} {base : Heap}
theorem c_law_rows (h : Has K mg "_law_rows" d_law_rows) (T : Tx K mg base) (c_law_cell : Cal P w K mg base "_law_cell" 1 ["script", "k"] (spCell K)) (c_law_row : Cal P w K mg base "_law_row" 1 ["cell", "many", "most"] (spRow K)) (c_law_stuck : Cal P w K mg base "_law_stuck" 2 ["rows"] (spStuck K)) (c_law_forward : Cal P w K mg base "_law_forward" 1 ["rows"] (spForward K)) : Cal P w K mg base "_law_rows" 3 ["script", "at", "many", "most", "crushers"] (spRows K) := by
  refine h.cal sc_law_rows (fun _ _ _ _ _ _ us hl => match us, hl with | [_, _, _, _, _], _ => rfl) (fun vs H Q E h => ?_) (fun f cdv A outer s0 H vs Q E hr h => ?_)
  · obtain ⟨_, _, _, _, _, _, _, _, _, _, _, rfl, _⟩ := h
    rfl
  · obtain ⟨G, v1, v2, v3, v4, v5, z, at0, many, most, cr, rfl, gh, r1, r2, r3, r4, r5, ⟨a1, m1, m6, o1, o4⟩, q⟩ := h
    refine ⟨_, (pss_cons (ps_set (i := 5) sc_law_rows.nd rfl (.inl rfl) (pe_lst pa_nil))
      (pss_cons (ps_for PassesOwn.never rfl (pi_range1 (by rfl) T.b_range (pa_cons (pe_op op_sub (pv 2) pe_int) pa_nil)) (pg_name (i := 6) sc_law_rows.nd rfl (.inl rfl)) (pss_cons (ps_set (i := 7) sc_law_rows.nd rfl (.inl rfl) (pe_c c_law_row (hr.mono (by decide)) (pa_cons (pe_c c_law_cell (hr.mono (by decide)) (pa_cons (pv 0) (pa_cons (pe_op op_add (pv 1) (pv 6)) pa_nil))) (pa_cons (pv 2) (pa_cons (pv 3) pa_nil)))))
      (pss_cons (ps_if (PW.pt (pw_and (pt_cmpR op_eq (pe_ix (ixT K) (pv 7) pe_int (fun _ _ => rfl)) pe_str (nomark _)) (pw_and1 (pt_cmpR op_ge (pe_callB (lenK K) (by rfl) T.b_len PySem.boot_len (pa_cons (pe_lc (own := [("one", 8)]) (g := (gName 8)) rfl sc_law_rows.nd (pi_list (pv 5)) (blkOk_by (N := N_law_rows) (sc := defScope s_law_rows) (by decide +kernel)) (fun _ _ _ _ _ => (pg_name (i := 8) sc_law_rows.nd rfl (Or.inl rfl))) (fun _ _ _ _ _ => pts_one (pt_cmpR op_eq (pe_ix (ixT K) (pv 8) pe_int (fun _ _ => rfl)) pe_str (nomark _))) (fun _ _ _ _ _ => (pv 8))) pa_nil)) (pv 4) (nomark _))))) (pss_one (ps_set (i := 7) sc_law_rows.nd rfl (.inl rfl) (pe_tup (pa_cons pe_str (pa_cons (pe_op op_mod (pe_ix (ixT K) (pv 7) pe_int (fun _ _ => rfl)) pe_int) pa_nil))))) pss_nil)
      (pss_one (ps_expr (pe_bm PySem.F.plainAttrs_list PySem.F.slot_list_append PySem.F.type_list_append mt_append (pv 5) (pa_cons (pv 7) pa_nil)))))))
      (pss_cons (ps_expr (pe_bm PySem.F.plainAttrs_list PySem.F.slot_list_append PySem.F.type_list_append mt_append (pv 5) (pa_cons (pe_tup (pa_cons pe_str (pa_cons (pe_op op_mod (pe_c c_law_cell (hr.mono (by decide)) (pa_cons (pv 0) (pa_cons (pe_op op_sub (pe_op op_add (pv 1) (pv 2)) pe_int) pa_nil))) pe_int) pa_nil))) pa_nil)))
      (pss_cons (ps_if (pt_val (pe_c c_law_stuck (hr.mono (by decide)) (pa_cons (pv 5) pa_nil))) (pss_one (ps_ret (pe_c c_law_forward (hr.mono (by decide)) (pa_cons (pv 5) pa_nil)))) pss_nil)
      (pss_one (ps_ret (pv 5))))))), ?_⟩
    obtain rfl : v2 = .int (at0 : Int) := r2
    obtain rfl : v3 = .int (many : Int) := r3
    obtain rfl : v4 = .int (most : Int) := r4
    obtain rfl : v5 = .int (cr : Int) := r5
    refine q_new fun L nL => ?_
    refine q_forR (K := K) (n := many - 1) (Stp.raw (K := K) (o := .lst []) gh nL).gh (ev_nI (ev_subN (ev_var (x := many) rfl) (ev_n (n := 1)) m1)) rfl (by omega) fun G2 H2 s2 => ⟨fun i σ' H' => ∃ a b G' vs rows, σ' = [some v1, some (.int (at0 : Int)), some (.int (many : Int)), some (.int (most : Int)), some (.int (cr : Int)), some (.ref L), a, b, none] ∧ Stp K G H G' H' ∧ G' L = none ∧ H' L = some (.lst vs) ∧ All2 (rp K G') vs rows ∧ rows.length = i ∧ (∀ r ∈ rows, genR many most r) ∧ crN rows ≤ cr, ?_, ?_, ?_⟩
    · obtain ⟨g2, h2⟩ := s2.ownL (gh.free nL) upd_same
      exact ⟨none, none, G2, [], [], rfl, (Stp.raw gh nL).trans s2, g2, h2, .nil, rfl, (fun r hr => by cases hr), Nat.zero_le _⟩
    · rintro i σ' H' hi ⟨a, b, G', vs, rows, rfl, st, gL, hL, rv, hlen, hg, hc⟩
      refine q_setE (K := K) st.gh (ev_E3E (ev_E2 (ev_var (Rep.mono st.gg r1)) (ev_addN (ev_var (x := at0) rfl) (ev_var (x := i) rfl)) (by omega)) (ev_var (x := many) rfl) (ev_var (x := most) rfl) fun x _ => ⟨m1, by omega, o1, by omega⟩) fun v7 G3 H3 r s3 r7 hr => ?_
      obtain ⟨_, _, hr⟩ := hr
      have hr : genR many most r := hr
      have t3 := st.trans s3
      obtain ⟨g3, h3⟩ := s3.ownL gL hL
      have rv3 := rv.mp fun _ _ r => Rep.mono s3.gg r
      have fin : ∀ (D : Ends) v5 G5 H5 (r : Row), (∀ σ' H', (∃ a b G' vs rows, σ' = [some v1, some (.int (at0 : Int)), some (.int (many : Int)), some (.int (most : Int)), some (.int (cr : Int)), some (.ref L), a, b, none] ∧ Stp K G H G' H' ∧ G' L = none ∧ H' L = some (.lst vs) ∧ All2 (rp K G') vs rows ∧ rows.length = i + 1 ∧ (∀ r ∈ rows, genR many most r) ∧ crN rows ≤ cr) → D.nx σ' H') → Stp K G3 H3 G5 H5 → rp K G5 v5 r → genR many most r → crN (rows ++ [r]) ≤ cr → tDrop (tBM K "list" rAppend (tVar 5) (tCons (tVar 7) tNil)) D [some v1, some (.int (at0 : Int)), some (.int (many : Int)), some (.int (most : Int)), some (.int (cr : Int)), some (.ref L), some (.int (i : Int)), some v5, none] H5 := fun D v5 G5 H5 r hD s5 r5 hr hc => by
        obtain ⟨g5, h5⟩ := s5.ownL g3 h3
        refine s_app (K := K) rfl g5 h5 (by rw [rv.len]; omega) s5.gh (ev_var r5) fun v6 G6 H6 s6 r6 e6 g6 => hD _ _ ?_
        refine ⟨_, _, G6, _, rows ++ [r], rfl, ((t3.trans s5).trans s6).putL nL g6 e6, g6, upd_same, (rv3.mp fun _ _ r => Rep.mono (s5.gg.trans s6.gg) r).app (.one r6), by rw [List.length_append, hlen] <;> rfl, fun r' hr' => ?_, hc⟩
        rcases List.mem_append.mp hr' with h | h
        · exact hg r' h
        · rw [List.mem_singleton.mp h]
          exact hr
      refine qA_if (K := K) (b := r.isC && decide (cr ≤ (fm rows Row.isC fun r => r).length)) (eta_and ((et_t (ev_isC (ev_var r7))).at_ s3.gh) fun _ G4 H4 s4 => eta_t (ea_geN (ea_lenA (ewa_lcO Row.isC (fun r => r) rfl (s4.ownL g3 h3).1 (s4.ownL g3 h3).2 s4.gh (rv3.mp fun _ _ r => Rep.mono s4.gg r) (by omega) (fun _ => rfl) (fun i x v G1 H1 sg hx rx => (et_t (ev_isC (ev_var rx))).at_ sg.gh) (fun i x v G1 H1 sg hx rx _ => (ev_var rx).at_ sg.gh)).frz) fun G5 H5 s5 => (ev_var (x := cr) rfl).at_ s5.gh)) (fun e G4 H4 s4 => ?_) (fun e G4 H4 s4 => ?_)
      · have ec : r.isC = true := by
          cases h : r.isC with
          | true => rfl
          | false =>
            rw [h] at e
            cases e
        cases r with
        | mesh o u v => cases ec
        | bin b => cases ec
        | crush t =>
          refine s_set (K := K) s4.gh (ev_mkB (ev_modN (ev_c1 (ev_var (Rep.mono s4.gg r7))) (ev_n (n := 6)) (by decide))) fun v5 G5 H5 s5 r5 => ?_
          refine fin _ v5 G5 H5 (.bin (t % 6)) (fun _ _ h => h) (s4.trans s5) r5 (show t % 6 ≤ 5 by omega) ?_
          rw [crN_snoc]
          exact hc
      · refine fin _ v7 G4 H4 r (fun _ _ h => h) s4 (Rep.mono s4.gg r7) hr ?_
        rw [crN_snoc]
        cases ec : r.isC with
        | false =>
          rw [if_neg (by decide)]
          omega
        | true =>
          rw [ec] at e
          have e : decide (cr ≤ (fm rows Row.isC fun r => r).length) = false := e
          have e := of_decide_eq_false e
          have e2 : (fm rows Row.isC fun r => r).length = crN rows := by
            unfold fm crN
            rw [List.length_map]
          rw [if_pos rfl]
          omega
    · rintro σ' H' ⟨a, b, G', vs, rows, rfl, st, gL, hL, rv, hlen, hg, hc⟩
      refine q_appE (K := K) rfl gL hL (by rw [rv.len]; omega) st.gh (ev_mkBE (ev_modE (ev_E2 (ev_var (Rep.mono st.gg r1)) (ev_subN (ev_addN (ev_var (x := at0) rfl) (ev_var (x := many) rfl)) (ev_n (n := 1)) (by omega)) (by omega)) (ev_n (n := 6)) (by decide))) fun v8 G3 H3 r s3 r8 hr e3 g3 => ?_
      obtain ⟨t, ⟨t0, _, et⟩, rfl⟩ := hr
      have t3 := (st.trans s3).putL (o := .lst (vs ++ [v8])) nL g3 e3
      have rv2 : All2 (rp K G3) (vs ++ [v8]) (rows ++ [Row.bin t]) := (rv.mp fun _ _ r => Rep.mono s3.gg r).app (.one r8)
      have t4 := t3.frz nL g3 upd_same
      have rr : rp K (upd G3 L (.lst (vs ++ [v8]))) (.ref L) (rows ++ [Row.bin t]) := ⟨L, _, rfl, upd_same, rv2.mp fun _ _ r => Rep.mono (same_new g3) r⟩
      have lr : (rows ++ [Row.bin t]).length = many := by
        rw [List.length_append, hlen]
        show many - 1 + 1 = many
        omega
      have g2 : ∀ r ∈ rows ++ [Row.bin t], genR many most r := fun r hr => by
        rcases List.mem_append.mp hr with h | h
        · exact hg r h
        · rw [List.mem_singleton.mp h, et]
          show t0 % 6 ≤ 5
          omega
      have c2 : crN (rows ++ [Row.bin t]) ≤ cr := by
        rw [crN_snoc]
        exact hc
      have hl2 : lastB (rows ++ [Row.bin t]) := ⟨t, by
        rw [List.length_append]
        show (rows ++ [Row.bin t])[rows.length]? = _
        rw [List.getElem?_append_right (Nat.le_refl _), Nat.sub_self] <;> rfl⟩
      generalize rows ++ [Row.bin t] = rs at rr lr g2 c2 hl2
      have ok2 : ∀ r ∈ rs, okR rs.length r := fun r hr => by
        rw [lr]
        exact genR_ok o4 (g2 r hr)
      have oks : okRs rs := ⟨by omega, by omega, ok2⟩
      have op4 : ∀ o ∈ opens (wdR rs), 1 ≤ o ∧ o ≤ 4 := fun o ho => by
        obtain ⟨r, h1, h2⟩ := mem_opens.mp ho
        have := g2 r h1
        cases r with
        | mesh o' u v =>
          have e : o' = o := Option.some.inj h2
          have := this.1
          have := (g2 _ h1).2.1
          omega
        | crush t => cases h2
        | bin b => cases h2
      have op2 : ∀ o ∈ opens (wdR rs), 1 ≤ o ∧ o ≤ 5 := fun o ho => ⟨(op4 o ho).1, Nat.le_trans (op4 o ho).2 (by decide)⟩
      refine q_whenE (K := K) t4.gh (ev_E1 (ev_var (i := 5) rr) oks) (fun _ G5 H5 s5 => ?_) (fun hb G5 H5 s5 => ?_)
      · exact s_ret (K := K) s5.gh (ev_1 (ev_var (i := 5) (Rep.mono s5.gg rr)) ⟨oks, hl2⟩) fun w G6 H6 s6 r6 => q w G6 H6 _ ((t4.trans s5).trans s6) r6 ⟨fwd_rows hl2 (by omega) (by omega) (by omega) ok2 op2 c2, fun o ho => (op4 o (fwd_op ho)).2⟩
      · exact ⟨_, rfl, q _ _ H5 rs (t4.trans s5) (Rep.mono s5.gg rr) ⟨⟨by omega, by omega, ok2, op2, (hb rfl).mono (by omega), c2⟩, fun o ho => (op4 o ho).2⟩⟩
end
end Mw
namespace Mw
open PySem PySem.Spec PyProof.Rows L2
def redR (old new : Nat) : Row → Row
  | .mesh o u v => .mesh o (if u = old then new else u) v
  | .crush t => .crush (if t = old then new else t)
  | .bin b => .bin b
abbrev spRed (K : PySem.W.Frag) : Sp := sp4 K (fun (rows : List Row) (a old new : Nat) => a < rows.length) fun rows a old new => redR old new (rows.getD a (.bin 0))
theorem set_isC {rows : List Row} {k : Nat} {r r' : Row} (h : rows[k]? = some r) (hc : r'.isC = r.isC) : crN (rows.set k r') = crN rows := by
  refine crN_congr ?_
  obtain ⟨hk, e⟩ := List.getElem?_eq_some_iff.mp h
  rw [List.map_set, hc, ← e]
  have h2 : k < (rows.map Row.isC).length := by
    rw [List.length_map]
    exact hk
  have e2 : (rows[k]).isC = (rows.map Row.isC)[k] := by rw [List.getElem_map]
  rw [e2]
  exact List.set_getElem_self h2
theorem set_mem {rows : List Row} {k : Nat} {r r' : Row} (h : r ∈ rows.set k r') : r ∈ rows ∨ r = r' := List.mem_or_eq_of_mem_set h
abbrev spNearly (K : PySem.W.Frag) : Sp := spE2 K (fun (rows : List Row) (cell : Nat) => RowsOk rows 6 6 2 ∧ ∀ o ∈ opens (wdR rows), o ≤ 4) fun _ _ rows' => RowsOk rows' 6 6 2
theorem tail_of {ti tz : TS} {D : Ends} {σ : L2.St} {H : Hp} (Pv : L2.St → Hp → Prop) (h2 : ∀ σ' H', Pv σ' H' → tz D σ' H') (h1 : (∀ σ' H', Pv σ' H' → tz D σ' H') → ti { D with nx := tz D } σ H) : tSeq ti tz D σ H := h1 h2
section
variable {P : Program} {w : World} {K : PySem.W.Frag} {mg : Str → Option Value} {base : Heap}
theorem c_law_redirected (h : Has K mg "_law_redirected" d_law_redirected) (T : Tx K mg base) : Cal P w K mg base "_law_redirected" 1 ["rows", "at", "old", "new"] (spRed K) := by
  refine h.cal sc_law_redirected (fun _ _ _ _ _ _ us hl => match us, hl with | [_, _, _, _], _ => rfl) (fun vs H Q E h => ?_) (fun f cdv A outer s0 H vs Q E hr h => ?_)
  · obtain ⟨_, _, _, _, _, _, _, _, _, rfl, _⟩ := h
    rfl
  · obtain ⟨G, v1, v2, v3, v4, rows, a, old, new, rfl, gh, r1, r2, r3, r4, ha, q⟩ := h
    refine ⟨_, (pss_cons (ps_set (i := 4) sc_law_redirected.nd rfl (.inl rfl) (pe_ix (ixL K) (pv 0) (pv 1) (fun _ _ => rfl)))
      (pss_cons (ps_if (pt_cmpR op_eq (pe_ix (ixT K) (pv 4) pe_int (fun _ _ => rfl)) pe_str (nomark _)) (pss_one (ps_ret (pe_tup (pa_cons pe_str (pa_cons (pe_ix (ixT K) (pv 4) pe_int (fun _ _ => rfl)) (pa_cons (pe_ix (ixL K) (pe_lst (pa_cons (pe_ix (ixT K) (pv 4) pe_int (fun _ _ => rfl)) (pa_cons (pv 3) pa_nil))) (pe_callTy call_int1 (by rfl) T.b_int (by decide +kernel) (pa_cons (pe_cmpR op_eq (pe_ix (ixT K) (pv 4) pe_int (fun _ _ => rfl)) (pv 2) (nomark _)) pa_nil)) (fun _ _ => rfl)) (pa_cons (pe_ix (ixT K) (pv 4) pe_int (fun _ _ => rfl)) pa_nil))))))) pss_nil)
      (pss_cons (ps_if (pt_cmpR op_eq (pe_ix (ixT K) (pv 4) pe_int (fun _ _ => rfl)) pe_str (nomark _)) (pss_one (ps_ret (pe_tup (pa_cons pe_str (pa_cons (pe_ix (ixL K) (pe_lst (pa_cons (pe_ix (ixT K) (pv 4) pe_int (fun _ _ => rfl)) (pa_cons (pv 3) pa_nil))) (pe_callTy call_int1 (by rfl) T.b_int (by decide +kernel) (pa_cons (pe_cmpR op_eq (pe_ix (ixT K) (pv 4) pe_int (fun _ _ => rfl)) (pv 2) (nomark _)) pa_nil)) (fun _ _ => rfl)) pa_nil))))) pss_nil)
      (pss_one (ps_ret (pv 4)))))), ?_⟩
    have hrow := List.getElem?_eq_getElem ha
    have eg : rows.getD a (.bin 0) = rows[a] := by
      rw [List.getD_eq_getElem?_getD, hrow] <;> rfl
    dsimp only at q
    rw [eg] at q
    generalize rows[a] = rw at hrow q
    obtain rfl : v2 = .int (a : Int) := r2
    obtain rfl : v3 = .int (old : Int) := r3
    obtain rfl : v4 = .int (new : Int) := r4
    refine q_set (K := K) gh (ev_ixN (ev_var r1) (ev_nI (ev_var (x := a) rfl)) rfl hrow) fun v5 G2 H2 s2 r5 => ?_
    have pick : ∀ {tx : TE} {σ : L2.St} {G : Hp} (u : Nat) (h1 : Ev K tx σ G u) (h3 : σ[3]? = some (some (.int (new : Int)))) (h2 : σ[2]? = some (some (.int (old : Int)))), Ev K (tOp (rIxL K) (tLst (tCons tx (tCons (tVar 3) tNil))) (tCB rInt1 (tCons (tOp rEq tx (tVar 2)) tNil))) σ G (if u = old then new else u) := fun u h1 h3 h2 => by
      refine ev_ixN (j := if u = old then 1 else 0) (l := [u, new]) (ev_lst (el_cons h1 (el_cons (ev_var (x := new) rfl h3) el_nil)) (by simp)) (ev_intB (ev_eqN h1 (ev_var (x := old) rfl h2))) ?_ ?_
      · by_cases hs : u = old
        · rw [if_pos hs, decide_eq_true hs] <;> rfl
        · rw [if_neg hs, decide_eq_false hs] <;> rfl
      · by_cases hs : u = old
        · rw [if_pos hs, if_pos hs] <;> rfl
        · rw [if_neg hs, if_neg hs] <;> rfl
    cases rw with
    | mesh o u v =>
      refine q_when (K := K) s2.gh (et_t (ev_isM (ev_var r5))) (fun _ G3 H3 s3 => ?_) (fun z => by cases z)
      have r53 := Rep.mono s3.gg r5
      exact s_ret (K := K) s3.gh (ev_mkM (td := tC .non) (ev_m1 (ev_var r53)) (pick u (ev_m2 (ev_var r53)) rfl rfl) (ev_m3 (ev_var r53))) fun w G4 H4 s4 r4 => q w G4 H4 ((s2.trans s3).trans s4) r4
    | crush t =>
      refine q_when (K := K) s2.gh (et_t (ev_isM (ev_var r5))) (fun z => by cases z) (fun _ G3 H3 s3 => ?_)
      have r53 := Rep.mono s3.gg r5
      refine q_when (K := K) s3.gh (et_t (ev_isC (ev_var r53))) (fun _ G4 H4 s4 => ?_) (fun z => by cases z)
      have r54 := Rep.mono s4.gg r53
      exact s_ret (K := K) s4.gh (ev_mkC (pick t (ev_c1 (ev_var r54)) rfl rfl)) fun w G5 H5 s5 r5 => q w G5 H5 (((s2.trans s3).trans s4).trans s5) r5
    | bin k =>
      refine q_when (K := K) s2.gh (et_t (ev_isM (ev_var r5))) (fun z => by cases z) (fun _ G3 H3 s3 => ?_)
      have r53 := Rep.mono s3.gg r5
      refine q_when (K := K) s3.gh (et_t (ev_isC (ev_var r53))) (fun z => by cases z) (fun _ G4 H4 s4 => ?_)
      exact s_ret (K := K) s4.gh (ev_var (Rep.mono s4.gg r53)) fun w G5 H5 s5 r5 => q w G5 H5 (((s2.trans s3).trans s4).trans s5) r5
theorem c_law_nearly (h : Has K mg "_law_nearly" d_law_nearly) (T : Tx K mg base) (c_law_stuck : Cal P w K mg base "_law_stuck" 2 ["rows"] (spStuck K)) : Cal P w K mg base "_law_nearly" 3 ["rows", "cell"] (spNearly K) := by
  refine h.cal sc_law_nearly (fun _ _ _ _ _ _ us hl => match us, hl with | [_, _], _ => rfl) (fun vs H Q E h => ?_) (fun f cdv A outer s0 H vs Q E hr h => ?_)
  · obtain ⟨_, _, _, _, _, rfl, _⟩ := h
    rfl
  · obtain ⟨G, v1, v2, rows, cell, rfl, gh, r1, r2, ⟨ro, o4⟩, q⟩ := h
    refine ⟨_, (pss_cons (ps_set (i := 2) sc_law_nearly.nd rfl (.inl rfl) (pe_callTy (listK K) (by rfl) T.b_list (by decide +kernel) (pa_cons (pv 0) pa_nil)))
      (pss_cons (ps_set (i := 3) sc_law_nearly.nd rfl (.inl rfl) (pe_op op_mod (pv 1) (pe_callB (lenK K) (by rfl) T.b_len PySem.boot_len (pa_cons (pv 0) pa_nil))))
      (pss_cons (ps_set (i := 4) sc_law_nearly.nd rfl (.inl rfl) (pe_ix (ixL K) (pv 0) (pv 3) (fun _ _ => rfl)))
      (pss_cons (ps_if (pt_cmpR op_eq (pe_ix (ixT K) (pv 4) pe_int (fun _ _ => rfl)) pe_str (nomark _)) (pss_one (ps_asg (pe_ix (ixL K) (pe_lst (pa_cons (pe_tup (pa_cons pe_str (pa_cons (pe_op op_add (pe_ix (ixT K) (pv 4) pe_int (fun _ _ => rfl)) pe_int) (pa_cons (pe_ix (ixT K) (pv 4) pe_int (fun _ _ => rfl)) (pa_cons (pe_ix (ixT K) (pv 4) pe_int (fun _ _ => rfl)) pa_nil))))) (pa_cons (pe_tup (pa_cons pe_str (pa_cons (pe_ix (ixT K) (pv 4) pe_int (fun _ _ => rfl)) (pa_cons (pe_ix (ixT K) (pv 4) pe_int (fun _ _ => rfl)) (pa_cons (pe_ix (ixT K) (pv 4) pe_int (fun _ _ => rfl)) pa_nil))))) pa_nil))) (pe_op op_mod (pe_op op_fdiv (pv 1) pe_int) pe_int) (fun _ _ => rfl)) (pg_sub (pv 2) (pv 3) set_list))) (pss_one (ps_if (pt_cmpR op_eq (pe_ix (ixT K) (pv 4) pe_int (fun _ _ => rfl)) pe_str (nomark _)) (pss_one (ps_asg (pe_tup (pa_cons pe_str (pa_cons (pe_op op_mod (pe_op op_fdiv (pv 1) pe_int) (pe_callB (lenK K) (by rfl) T.b_len PySem.boot_len (pa_cons (pv 0) pa_nil))) pa_nil))) (pg_sub (pv 2) (pv 3) set_list))) (pss_one (ps_asg (pe_tup (pa_cons pe_str (pa_cons (pe_op op_mod (pe_op op_add (pe_ix (ixT K) (pv 4) pe_int (fun _ _ => rfl)) pe_int) pe_int) pa_nil))) (pg_sub (pv 2) (pv 3) set_list))))))
      (pss_cons (ps_if (pt_val (pe_c c_law_stuck (hr.mono (by decide)) (pa_cons (pv 2) pa_nil))) (pss_one (ps_ret (pv 0))) pss_nil)
      (pss_one (ps_ret (pv 2)))))))), ?_⟩
    obtain rfl : v2 = .int (cell : Int) := r2
    have n1 := ro.n1
    have n6 := ro.nn
    refine q_setW (K := K) gh (ew_list (ev_var r1)) fun L vs G2 H2 s2 nL g2 h2 rv => ?_
    refine q_set (K := K) s2.gh (ev_modN (ev_var (x := cell) rfl) (ev_len (ev_var (Rep.mono s2.gg r1))) (by omega)) fun v3 G3 H3 s3 r3 => ?_
    obtain rfl : v3 = .int ((cell % rows.length : Nat) : Int) := r3
    have hat : cell % rows.length < rows.length := Nat.mod_lt _ (by omega)
    generalize cell % rows.length = a at hat
    have hrow := List.getElem?_eq_getElem hat
    generalize rows[a] = rw at hrow
    have t3 := s2.trans s3
    refine q_set (K := K) s3.gh (ev_ixN (ev_var (Rep.mono t3.gg r1)) (ev_nI (ev_var (x := a) rfl)) rfl hrow) fun v5 G4 H4 s4 r5 => ?_
    have t4 := t3.trans s4
    have u4 := s3.trans s4
    obtain ⟨g4, h4⟩ := u4.ownL g2 h2
    have rv4 := rv.mp fun _ _ r => Rep.mono u4.gg r
    have okr := ro.ok _ (List.mem_of_getElem? hrow)
    have put : ∀ {G5 H5} {r' : Row} {v6}, Stp K G4 H4 G5 H5 → rp K G5 v6 r' → okR rows.length r' → (∀ o, mo r' = some o → 1 ≤ o ∧ o ≤ 5) → r'.isC = rw.isC → H5 L = some (.lst vs) → G5 L = none → ∃ G5' v5' vs' rows', [some v1, some (.int (cell : Int)), some (.ref L), some (.int (a : Int)), some v5] = [some v1, some (.int (cell : Int)), some (.ref L), some (.int (a : Int)), v5'] ∧ Stp K G H G5' (upd H5 L (.lst (vs.set a v6))) ∧ G5' L = none ∧ (upd H5 L (.lst (vs.set a v6))) L = some (.lst vs') ∧ All2 (rp K G5') vs' rows' ∧ okRs rows' ∧ (∀ o ∈ opens (wdR rows'), 1 ≤ o ∧ o ≤ 5) ∧ crN rows' ≤ 2 ∧ rows'.length = rows.length := fun {G5 H5 r' v6} s5 r6 k1 k2 k3 e5 g5 => by
      refine ⟨G5, _, _, rows.set a r', rfl, (t4.trans s5).putL nL g5 e5, g5, upd_same, All2.set r6 a (rv4.mp fun _ _ r => Rep.mono s5.gg r), ⟨?_, ?_, ?_⟩, ?_, ?_, List.length_set⟩
      · rw [List.length_set]
        exact n1
      · rw [List.length_set]
        omega
      · intro r hr
        rw [List.length_set]
        rcases set_mem hr with h | h
        · exact ro.ok _ h
        · rw [h]
          exact k1
      · intro o ho
        obtain ⟨r, h1, h2⟩ := mem_opens.mp ho
        rcases set_mem h1 with h | h
        · exact ro.op _ (mem_opens.mpr ⟨r, h, h2⟩)
        · rw [h] at h2
          exact k2 o h2
      · rw [set_isC hrow k3]
        exact ro.cr
    refine tail_of (fun σ' H' => ∃ G5 v5' vs' rows', σ' = [some v1, some (.int (cell : Int)), some (.ref L), some (.int (a : Int)), v5'] ∧ Stp K G H G5 H' ∧ G5 L = none ∧ H' L = some (.lst vs') ∧ All2 (rp K G5) vs' rows' ∧ okRs rows' ∧ (∀ o ∈ opens (wdR rows'), 1 ≤ o ∧ o ≤ 5) ∧ crN rows' ≤ 2 ∧ rows'.length = rows.length) ?_ fun tail => ?_
    · rintro σ' H' ⟨G5, v5', vs', rows', rfl, st, gL, hL, rv', oks, op5, cr2, hlen⟩
      have t5 := st.frz nL gL hL
      have rr : rp K (upd G5 L (.lst vs')) (.ref L) rows' := ⟨L, _, rfl, upd_same, rv'.mp fun _ _ r => Rep.mono (same_new gL) r⟩
      refine q_whenE (K := K) t5.gh (ev_E1 (ev_var (i := 2) rr) oks) (fun _ G6 H6 s6 => ?_) (fun hb G6 H6 s6 => ?_)
      · exact ⟨_, rfl, q _ _ H6 rows (t5.trans s6) (Rep.mono (t5.trans s6).gg r1) ro⟩
      · exact ⟨_, rfl, q _ _ H6 rows' (t5.trans s6) (Rep.mono s6.gg rr) ⟨by omega, by omega, oks.2.2, op5, (hb rfl).mono (by omega), cr2⟩⟩
    have r14 := Rep.mono t4.gg r1
    have hlv : a < vs.length := by
      rw [rv.len]
      exact hat
    cases rw with
    | mesh o u v =>
      have oo : 1 ≤ o ∧ o ≤ 4 := ⟨okr.1, o4 o (mem_opens.mpr ⟨_, List.mem_of_getElem? hrow, rfl⟩)⟩
      refine s_if (K := K) s4.gh (et_t (ev_isM (ev_var r5))) (fun _ G5 H5 s5 => ?_) (fun z => by cases z)
      have r55 := Rep.mono s5.gg r5
      obtain ⟨g5, h5⟩ := s5.ownL g4 h4
      have hm : cell / 12 % 2 < 2 := Nat.mod_lt _ (by decide)
      refine s_put (K := K) (x := if cell / 12 % 2 = 0 then Row.mesh (o + 1) u v else Row.mesh o v u) rfl g5 h5 s5.gh (ev_ixN (j := cell / 12 % 2) (l := [Row.mesh (o + 1) u v, Row.mesh o v u]) (ev_lst (el_cons (ev_mkM (td := tC .non) (ev_addN (ev_m1 (ev_var r55)) (ev_n (n := 1))) (ev_m2 (ev_var r55)) (ev_m3 (ev_var r55))) (el_cons (ev_mkM (td := tC .non) (ev_m1 (ev_var r55)) (ev_m3 (ev_var r55)) (ev_m2 (ev_var r55))) el_nil)) (by simp)) (ev_nI (ev_modN (ev_divN (ev_var (x := cell) rfl) (ev_n (n := 12)) (by decide) (by decide)) (ev_n (n := 2)) (by decide))) rfl ?_) (ev_nI (ev_var (x := a) rfl)) rfl hlv fun v6 G6 H6 s6 r6 e6 g6 => tail _ _ (put (s5.trans s6) r6 ?_ ?_ ?_ e6 g6)
      · by_cases hz : cell / 12 % 2 = 0
        · rw [if_pos hz, hz] <;> rfl
        · rw [if_neg hz, show cell / 12 % 2 = 1 by omega] <;> rfl
      · split
        · exact ⟨by omega, by omega, okr.2.2.1, okr.2.2.2⟩
        · exact ⟨okr.1, okr.2.1, okr.2.2.2, okr.2.2.1⟩
      · intro o' ho'
        split at ho'
        · have := Option.some.inj ho'
          omega
        · have := Option.some.inj ho'
          omega
      · split <;> rfl
    | crush t =>
      refine s_if (K := K) s4.gh (et_t (ev_isM (ev_var r5))) (fun z => by cases z) (fun _ G5 H5 s5 => ?_)
      have r55 := Rep.mono s5.gg r5
      refine s_if (K := K) s5.gh (et_t (ev_isC (ev_var r55))) (fun _ G6 H6 s6 => ?_) (fun z => by cases z)
      obtain ⟨g6, h6⟩ := (s5.trans s6).ownL g4 h4
      exact s_put (K := K) rfl g6 h6 s6.gh (ev_mkC (ev_modN (ev_divN (ev_var (x := cell) rfl) (ev_n (n := 12)) (by decide) (by decide)) (ev_len (ev_var (Rep.mono (s5.trans s6).gg r14))) (by omega))) (ev_nI (ev_var (x := a) rfl)) rfl hlv fun v7 G7 H7 s7 r7 e7 g7 => tail _ _ (put ((s5.trans s6).trans s7) r7 (Nat.mod_lt _ (by omega)) (fun o ho => by cases ho) rfl e7 g7)
    | bin k =>
      refine s_if (K := K) s4.gh (et_t (ev_isM (ev_var r5))) (fun z => by cases z) (fun _ G5 H5 s5 => ?_)
      have r55 := Rep.mono s5.gg r5
      refine s_if (K := K) s5.gh (et_t (ev_isC (ev_var r55))) (fun z => by cases z) (fun _ G6 H6 s6 => ?_)
      obtain ⟨g6, h6⟩ := (s5.trans s6).ownL g4 h4
      exact s_put (K := K) rfl g6 h6 s6.gh (ev_mkB (ev_modN (ev_addN (ev_b1 (ev_var (Rep.mono s6.gg r55))) (ev_n (n := 1))) (ev_n (n := 6)) (by decide))) (ev_nI (ev_var (x := a) rfl)) rfl hlv fun v7 G7 H7 s7 r7 e7 g7 => tail _ _ (put ((s5.trans s6).trans s7) r7 (show (k + 1) % 6 ≤ 5 by omega) (fun o ho => by cases ho) rfl e7 g7)
end
end Mw
/-! The law's works: rows with new names. -/
namespace Mw
structure Nam (names : List Nat) (n : Nat) : Prop where
  len : names.length = n
  nd : names.Nodup
  lt : ∀ k ∈ names, k < n
theorem Nam.mem {names : List Nat} {n k : Nat} (h : Nam names n) (hk : k < n) : k ∈ names := by
  apply Classical.byContradiction
  intro z
  have h1 : (k :: names).length ≤ (List.range n).length := nodup_le (List.nodup_cons.mpr ⟨z, h.nd⟩) fun x hx => by
    rcases List.mem_cons.mp hx with e | e
    · rw [e]
      exact List.mem_range.mpr hk
    · exact List.mem_range.mpr (h.lt x e)
  rw [List.length_cons, h.len, List.length_range] at h1
  omega
theorem Nam.idx_lt {names : List Nat} {n k : Nat} (h : Nam names n) (hk : k < n) : names.idxOf k < n := by
  have := List.idxOf_lt_length_iff.mpr (h.mem hk)
  rw [h.len] at this
  exact this
theorem Nam.at_idx {names : List Nat} {n k : Nat} (h : Nam names n) (hk : k < n) : names.getD (names.idxOf k) 0 = k := by
  have h1 := List.idxOf_lt_length_iff.mpr (h.mem hk)
  rw [List.getD_eq_getElem?_getD, List.getElem?_eq_getElem h1]
  exact List.getElem_idxOf h1
theorem Nam.idx_at {names : List Nat} {n k : Nat} (h : Nam names n) (hk : k < n) : names.idxOf (names.getD k 0) = k := by
  have h1 : k < names.length := by
    rw [h.len]
    exact hk
  rw [List.getD_eq_getElem?_getD, List.getElem?_eq_getElem h1]
  exact h.nd.idxOf_getElem k h1
theorem Nam.get_lt {names : List Nat} {n k : Nat} (h : Nam names n) (hk : k < n) : names.getD k 0 < n := by
  have h1 : k < names.length := by
    rw [h.len]
    exact hk
  rw [List.getD_eq_getElem?_getD, List.getElem?_eq_getElem h1]
  exact h.lt _ (List.getElem_mem h1)
def renR (names : List Nat) : Row → Row
  | .mesh o u v => .mesh o (names.getD u 0) (names.getD v 0)
  | .crush t => .crush (names.getD t 0)
  | .bin b => .bin b
def ren (names : List Nat) (rows : List Row) : List Row := (List.range rows.length).map fun p => renR names (rows.getD (names.idxOf p) (.bin 0))
theorem ren_len (names : List Nat) (rows : List Row) : (ren names rows).length = rows.length := by
  unfold ren
  rw [List.length_map, List.length_range]
theorem ren_ex {names : List Nat} {rows : List Row} {p : Nat} {r : Row} (hn : Nam names rows.length) (h : (ren names rows)[p]? = some r) : p < rows.length ∧ ∃ r0, rows[names.idxOf p]? = some r0 ∧ r = renR names r0 := by
  have hp := (List.getElem?_eq_some_iff.mp h).1
  rw [ren_len] at hp
  refine ⟨hp, rows[names.idxOf p]'(hn.idx_lt hp), List.getElem?_eq_getElem _, ?_⟩
  unfold ren at h
  rw [List.getElem?_map, List.getElem?_range hp] at h
  have h := (Option.some.inj h).symm
  rw [h]
  dsimp only
  rw [List.getD_eq_getElem?_getD, List.getElem?_eq_getElem (hn.idx_lt hp)] <;> rfl
theorem ren_ok {names : List Nat} {rows : List Row} (hn : Nam names rows.length) (h : ∀ r ∈ rows, okR rows.length r) : ∀ r ∈ ren names rows, okR (ren names rows).length r := by
  intro r hr
  rw [ren_len]
  obtain ⟨p, hp⟩ := List.getElem?_of_mem hr
  obtain ⟨_, r0, e, rfl⟩ := ren_ex hn hp
  have ok := h r0 (List.mem_of_getElem? e)
  cases r0 with
  | mesh o u v => exact ⟨ok.1, ok.2.1, hn.get_lt ok.2.2.1, hn.get_lt ok.2.2.2⟩
  | crush t => exact hn.get_lt ok
  | bin b => exact ok
theorem ren_op {names : List Nat} {rows : List Row} (hn : Nam names rows.length) {o : Nat} (h : o ∈ opens (wdR (ren names rows))) : o ∈ opens (wdR rows) := by
  obtain ⟨r, h1, h2⟩ := mem_opens.mp h
  obtain ⟨p, hp⟩ := List.getElem?_of_mem h1
  obtain ⟨_, r0, e, rfl⟩ := ren_ex hn hp
  refine mem_opens.mpr ⟨r0, List.mem_of_getElem? e, ?_⟩
  rw [← h2]
  cases r0 <;> rfl
theorem ren_whole {names : List Nat} {rows : List Row} (hn : Nam names rows.length) (hok : ∀ r ∈ rows, okR rows.length r) {s p t : Nat} (h : whole (wdR (ren names rows)) p s = some t) : ∃ t0, whole (wdR rows) (names.idxOf p) s = some t0 ∧ t0 < rows.length ∧ t = names.getD t0 0 := by
  unfold whole at h
  cases e : (wdR (ren names rows)).rows[p]? with
  | none =>
    rw [e] at h
    cases h
  | some r =>
    rw [e] at h
    obtain ⟨_, r0, e0, rfl⟩ := ren_ex hn e
    have ok := hok r0 (List.mem_of_getElem? e0)
    unfold whole
    rw [show (wdR rows).rows[names.idxOf p]? = _ from e0]
    cases r0 with
    | mesh o u v =>
      have h : some (if s ≤ o then names.getD u 0 else names.getD v 0) = some t := h
      have h := Option.some.inj h
      by_cases hs : s ≤ o
      · rw [if_pos hs] at h
        exact ⟨u, congrArg some (if_pos hs), ok.2.2.1, h.symm⟩
      · rw [if_neg hs] at h
        exact ⟨v, congrArg some (if_neg hs), ok.2.2.2, h.symm⟩
    | crush q =>
      have h : (if s = 1 then some (names.getD q 0) else none) = some t := h
      by_cases hs : s = 1
      · rw [if_pos hs] at h
        exact ⟨q, if_pos hs, ok, (Option.some.inj h).symm⟩
      · rw [if_neg hs] at h
        cases h
    | bin b => cases h
theorem ren_rk {names : List Nat} {rows : List Row} {m : Nat} (hn : Nam names rows.length) (hok : ∀ r ∈ rows, okR rows.length r) (h : Rk rows m) : Rk (ren names rows) m := by
  obtain ⟨rho, h1, h2⟩ := h
  refine ⟨fun s p => rho s (names.idxOf p), fun s p => h1 s _, fun s p t hs hw => ?_⟩
  obtain ⟨t0, e1, e2, e3⟩ := ren_whole hn hok hw
  show rho s (names.idxOf t) < _
  rw [e3, hn.idx_at e2]
  exact h2 s _ t0 hs e1
theorem crushes_nodup (wd : Wd) : (crushes wd).Nodup := by
  unfold crushes fm
  rw [List.map_id']
  exact (List.nodup_range).filter _
theorem ren_cr {names : List Nat} {rows : List Row} (hn : Nam names rows.length) : crN (ren names rows) ≤ crN rows := by
  rw [← cr_eq (ren names rows) 2, ← cr_eq rows 2, ← List.length_map (f := fun p => names.idxOf p)]
  refine nodup_le ?_ fun x hx => ?_
  · refine List.Pairwise.map _ (R := fun a b => a ≠ b ∧ a < rows.length ∧ b < rows.length) (fun a b ⟨h1, h2, h3⟩ e => h1 ?_) ?_
    · rw [← hn.at_idx h2, ← hn.at_idx h3, e]
    · have hlt : ∀ a ∈ crushes ⟨2, ren names rows⟩, a < rows.length := fun a ha => by
        obtain ⟨t, ht⟩ := mem_crushes.mp ha
        exact (ren_ex hn ht).1
      refine (crushes_nodup _).imp_of_mem fun {a b} ha hb hab => ⟨hab, hlt a ha, hlt b hb⟩
  · obtain ⟨p, hp, rfl⟩ := List.mem_map.mp hx
    obtain ⟨t, ht⟩ := mem_crushes.mp hp
    obtain ⟨_, r0, e, er⟩ := ren_ex hn ht
    cases r0 with
    | mesh o u v => cases er
    | crush q => exact mem_crushes.mpr ⟨q, e⟩
    | bin b => cases er
theorem ren_rows {names : List Nat} {rows : List Row} {n m c : Nat} (hn : Nam names rows.length) (h : RowsOk rows n m c) : RowsOk (ren names rows) n m c :=
  ⟨by rw [ren_len]; exact h.n1, by rw [ren_len]; exact h.nn, ren_ok hn h.ok, fun o ho => h.op o (ren_op hn ho), ren_rk hn h.ok h.rk, Nat.le_trans (ren_cr hn) h.cr⟩
end Mw
namespace Mw
open PySem PySem.Spec PyProof.Rows L2
theorem all_of_get {α : Type} {R : V → α → Prop} : ∀ {vs : List V} {xs : List α}, vs.length = xs.length → (∀ (i : Nat) (v : V) (x : α), vs[i]? = some v → xs[i]? = some x → R v x) → All2 R vs xs
  | [], [], _, _ => .nil
  | [], _ :: _, h, _ => by cases h
  | _ :: _, [], h, _ => by cases h
  | v :: vs, x :: xs, h, hR => .cons (hR 0 v x rfl rfl) (all_of_get (Nat.succ.inj h) fun i v x h1 h2 => hR (i + 1) v x h1 h2)
abbrev spRen (K : PySem.W.Frag) : Sp := sp2 K (fun (rows : List Row) (names : List Nat) => okRs rows ∧ Nam names rows.length) fun rows names => ren names rows
section
variable {P : Program} {w : World} {K : PySem.W.Frag} {mg : Str → Option Value} {base : Heap}
theorem c_law_renamed (h : Has K mg "_law_renamed" d_law_renamed) (T : Tx K mg base) : Cal P w K mg base "_law_renamed" 1 ["rows", "names"] (spRen K) := by
  refine h.cal sc_law_renamed (fun _ _ _ _ _ _ us hl => match us, hl with | [_, _], _ => rfl) (fun vs H Q E h => ?_) (fun f cdv A outer s0 H vs Q E hr h => ?_)
  · obtain ⟨_, _, _, _, _, rfl, _⟩ := h
    rfl
  · obtain ⟨G, v1, v2, rows, names, rfl, gh, r1, r2, ⟨⟨n1, n12, hok⟩, hn⟩, q⟩ := h
    refine ⟨_, (pss_cons (ps_setLc (i := 2) (own := [("row", 5)]) (g := (gName 5)) (tt := tYes) rfl sc_law_renamed.nd  rfl rfl (sw_true rfl rfl rfl (by decide +kernel)) (pi_list (pv 0)) (blkOk_by (N := N_law_renamed) (sc := defScope s_law_renamed) (by decide +kernel)) (fun _ _ _ _ _ => (pg_name (i := 5) sc_law_renamed.nd rfl (Or.inl rfl))) (fun _ _ _ _ _ => pts_nil) (fun _ _ _ _ _ => pe_non))
      (pss_cons (ps_for PassesOwn.never rfl (pi_range1 (by rfl) T.b_range (pa_cons (pe_callB (lenK K) (by rfl) T.b_len PySem.boot_len (pa_cons (pv 0) pa_nil)) pa_nil)) (pg_name (i := 3) sc_law_renamed.nd rfl (.inl rfl)) (pss_cons (ps_set (i := 4) sc_law_renamed.nd rfl (.inl rfl) (pe_ix (ixL K) (pv 0) (pv 3) (fun _ _ => rfl)))
      (pss_cons (ps_if (pt_cmpR op_eq (pe_ix (ixT K) (pv 4) pe_int (fun _ _ => rfl)) pe_str (nomark _)) (pss_one (ps_set (i := 4) sc_law_renamed.nd rfl (.inl rfl) (pe_tup (pa_cons pe_str (pa_cons (pe_ix (ixT K) (pv 4) pe_int (fun _ _ => rfl)) (pa_cons (pe_ix (ixL K) (pv 1) (pe_ix (ixT K) (pv 4) pe_int (fun _ _ => rfl)) (fun _ _ => rfl)) (pa_cons (pe_ix (ixL K) (pv 1) (pe_ix (ixT K) (pv 4) pe_int (fun _ _ => rfl)) (fun _ _ => rfl)) pa_nil))))))) (pss_one (ps_if (pt_cmpR op_eq (pe_ix (ixT K) (pv 4) pe_int (fun _ _ => rfl)) pe_str (nomark _)) (pss_one (ps_set (i := 4) sc_law_renamed.nd rfl (.inl rfl) (pe_tup (pa_cons pe_str (pa_cons (pe_ix (ixL K) (pv 1) (pe_ix (ixT K) (pv 4) pe_int (fun _ _ => rfl)) (fun _ _ => rfl)) pa_nil))))) pss_nil)))
      (pss_one (ps_asg (pv 4) (pg_sub (pv 2) (pe_ix (ixL K) (pv 1) (pv 3) (fun _ _ => rfl)) set_list))))))
      (pss_one (ps_ret (pv 2))))), ?_⟩
    refine q_setW (K := K) (l := fm rows (fun _ => true) fun _ => (none : Option Nat)) gh (ew_lcL (fun _ => true) (fun _ : Row => (none : Option Nat)) (ev_var r1) (by omega) (fun _ => rfl) (fun i x v G1 _ _ _ => et_yes) (fun i x v G1 _ _ _ _ => ev_non)) fun L vs0 G2 H2 s2 nL g2 h2 rv0 => ?_
    have l0 : vs0.length = rows.length := by
      rw [rv0.len]
      unfold fm
      rw [List.length_map, List.filter_eq_self.mpr fun _ _ => rfl]
    clear rv0
    refine q_forR (K := K) (n := rows.length) s2.gh (ev_nI (ev_len (ev_var (Rep.mono s2.gg r1)))) rfl (by omega) fun G3 H3 s3 => ⟨fun i σ' H' => ∃ a b G' vs, σ' = [some v1, some v2, some (.ref L), a, b, none] ∧ Stp K G H G' H' ∧ G' L = none ∧ H' L = some (.lst vs) ∧ vs.length = rows.length ∧ ∀ j, j < i → ∃ v, vs[names.getD j 0]? = some v ∧ rp K G' v (renR names (rows.getD j (.bin 0))), ?_, ?_, ?_⟩
    · obtain ⟨g3, h3⟩ := s3.ownL g2 h2
      exact ⟨none, none, G3, vs0, rfl, s2.trans s3, g3, h3, l0, fun j hj => by omega⟩
    · rintro i σ' H' hi ⟨a, b, G', vs, rfl, st, gL, hL, hlen, inv⟩
      have hrow := List.getElem?_eq_getElem hi
      have eg : rows.getD i (.bin 0) = rows[i] := by
        rw [List.getD_eq_getElem?_getD, hrow] <;> rfl
      generalize rows[i] = rw at hrow eg
      have okr := hok _ (List.mem_of_getElem? hrow)
      have nat : ∀ {k}, k < rows.length → names[k]? = some (names.getD k 0) := fun {k} hk => by
        have h1 : k < names.length := by
          rw [hn.len]
          exact hk
        rw [List.getD_eq_getElem?_getD, List.getElem?_eq_getElem h1] <;> rfl
      refine q_set (K := K) st.gh (ev_ixN (ev_var (Rep.mono st.gg r1)) (ev_nI (ev_var (x := i) rfl)) rfl hrow) fun v4 G4 H4 s4 r4 => ?_
      have t4 := st.trans s4
      refine tail_of (fun σ' H'' => ∃ v5 G5, σ' = [some v1, some v2, some (.ref L), some (.int (i : Int)), some v5, none] ∧ Stp K G' H' G5 H'' ∧ rp K G5 v5 (renR names rw)) ?_ fun tail => ?_
      · rintro σ' H'' ⟨v5, G5, rfl, s5, r5⟩
        obtain ⟨g5, h5⟩ := s5.ownL gL hL
        have t5 := st.trans s5
        refine s_put (K := K) rfl g5 h5 s5.gh (ev_var r5) (ev_nI (ev_ixN (ev_var (Rep.mono t5.gg r2)) (ev_nI (ev_var (x := i) rfl)) rfl (nat hi))) rfl (by rw [hlen]; exact hn.get_lt hi) fun v6 G6 H6 s6 r6 e6 g6 => ?_
        refine ⟨_, _, G6, _, rfl, (t5.trans s6).putL nL g6 e6, g6, upd_same, by rw [List.length_set]; exact hlen, fun j hj => ?_⟩
        rw [List.getElem?_set]
        by_cases hji : j < i
        · have hne : ¬ names.getD i 0 = names.getD j 0 := fun z => by
            have e1 := hn.idx_at hi
            have e2 := hn.idx_at (k := j) (by omega)
            rw [z, e2] at e1
            omega
          rw [if_neg hne]
          obtain ⟨v, e1, rr⟩ := inv j hji
          exact ⟨v, e1, Rep.mono (s5.gg.trans s6.gg) rr⟩
        · obtain rfl : j = i := by omega
          rw [if_pos rfl, if_pos (by rw [hlen]; exact hn.get_lt hi), eg]
          exact ⟨v6, rfl, r6⟩
      · have rn := Rep.mono t4.gg r2
        cases rw with
        | mesh o u v =>
          refine s_if (K := K) s4.gh (et_t (ev_isM (ev_var r4))) (fun _ G5 H5 s5 => ?_) (fun z => by cases z)
          have r45 := Rep.mono s5.gg r4
          have rn5 := Rep.mono s5.gg rn
          exact s_set (K := K) s5.gh (ev_mkM (td := tC .non) (ev_m1 (ev_var r45)) (ev_ixN (ev_var rn5) (ev_nI (ev_m2 (ev_var r45))) rfl (nat okr.2.2.1)) (ev_ixN (ev_var rn5) (ev_nI (ev_m3 (ev_var r45))) rfl (nat okr.2.2.2))) fun v6 G6 H6 s6 r6 => tail _ _ ⟨v6, G6, rfl, (s4.trans s5).trans s6, r6⟩
        | crush t =>
          refine s_if (K := K) s4.gh (et_t (ev_isM (ev_var r4))) (fun z => by cases z) (fun _ G5 H5 s5 => ?_)
          have r45 := Rep.mono s5.gg r4
          refine s_when (K := K) s5.gh (et_t (ev_isC (ev_var r45))) (fun _ G6 H6 s6 => ?_) (fun z => by cases z)
          have r46 := Rep.mono s6.gg r45
          exact s_set (K := K) s6.gh (ev_mkC (ev_ixN (ev_var (Rep.mono (s5.trans s6).gg rn)) (ev_nI (ev_c1 (ev_var r46))) rfl (nat okr))) fun v7 G7 H7 s7 r7 => tail _ _ ⟨v7, G7, rfl, ((s4.trans s5).trans s6).trans s7, r7⟩
        | bin k =>
          refine s_if (K := K) s4.gh (et_t (ev_isM (ev_var r4))) (fun z => by cases z) (fun _ G5 H5 s5 => ?_)
          have r45 := Rep.mono s5.gg r4
          refine s_when (K := K) s5.gh (et_t (ev_isC (ev_var r45))) (fun z => by cases z) (fun _ G6 H6 s6 => ?_)
          exact tail _ _ ⟨v4, G6, rfl, (s4.trans s5).trans s6, Rep.mono s6.gg r45⟩
    · rintro σ' H' ⟨a, b, G', vs, rfl, st, gL, hL, hlen, inv⟩
      refine ⟨.ref L, rfl, q _ _ H' (st.frz nL gL hL) ⟨L, vs, rfl, upd_same, ?_⟩⟩
      refine all_of_get (by rw [hlen, ren_len]) fun i v x hv hx => ?_
      obtain ⟨hp, r0, e0, rfl⟩ := ren_ex hn hx
      obtain ⟨v', e1, rr⟩ := inv (names.idxOf i) (hn.idx_lt hp)
      rw [hn.at_idx hp, hv] at e1
      obtain rfl := Option.some.inj e1
      rw [List.getD_eq_getElem?_getD, e0] at rr
      exact Rep.mono (same_new gL) rr
end
end Mw
/-! The law's works: rows with one row more. -/
namespace Mw
def ext (old : Nat) (added : Row) (rows : List Row) : List Row := rows.map (redR old rows.length) ++ [added]
theorem ext_len (old : Nat) (added : Row) (rows : List Row) : (ext old added rows).length = rows.length + 1 := by
  unfold ext
  rw [List.length_append, List.length_map] <;> rfl
theorem ext_ex {old : Nat} {added : Row} {rows : List Row} {p : Nat} {r : Row} (h : (ext old added rows)[p]? = some r) : (p < rows.length ∧ ∃ r0, rows[p]? = some r0 ∧ r = redR old rows.length r0) ∨ (p = rows.length ∧ r = added) := by
  have hp := (List.getElem?_eq_some_iff.mp h).1
  rw [ext_len] at hp
  unfold ext at h
  by_cases hlt : p < rows.length
  · rw [List.getElem?_append_left (by rw [List.length_map]; exact hlt), List.getElem?_map, List.getElem?_eq_getElem hlt] at h
    exact .inl ⟨hlt, rows[p], List.getElem?_eq_getElem hlt, (Option.some.inj h).symm⟩
  · have e : p = rows.length := by omega
    rw [e, List.getElem?_append_right (by rw [List.length_map]; exact Nat.le_refl _), List.length_map, Nat.sub_self] at h
    exact .inr ⟨e, (Option.some.inj h).symm⟩
theorem ext_ok {old : Nat} {added : Row} {rows : List Row} (h : ∀ r ∈ rows, okR rows.length r) (ha : okR rows.length added) : ∀ r ∈ ext old added rows, okR (ext old added rows).length r := by
  intro r hr
  rw [ext_len]
  obtain ⟨p, hp⟩ := List.getElem?_of_mem hr
  have up : ∀ r, okR rows.length r → okR (rows.length + 1) r := fun r k => by
    cases r with
    | mesh o u v => exact ⟨k.1, k.2.1, Nat.lt_succ_of_lt k.2.2.1, Nat.lt_succ_of_lt k.2.2.2⟩
    | crush t => exact Nat.lt_succ_of_lt k
    | bin b => exact k
  rcases ext_ex hp with ⟨_, r0, e, rfl⟩ | ⟨_, rfl⟩
  · have ok := up _ (h r0 (List.mem_of_getElem? e))
    cases r0 with
    | mesh o u v =>
      refine ⟨ok.1, ok.2.1, ?_, ok.2.2.2⟩
      have := ok.2.2.1
      split <;> omega
    | crush t =>
      have ok : t < rows.length + 1 := ok
      show (if t = old then rows.length else t) < rows.length + 1
      split <;> omega
    | bin b => exact ok
  · exact up _ ha
theorem ext_op {old : Nat} {added : Row} {rows : List Row} {o : Nat} (h : o ∈ opens (wdR (ext old added rows))) : o ∈ opens (wdR rows) ∨ mo added = some o := by
  obtain ⟨r, h1, h2⟩ := mem_opens.mp h
  obtain ⟨p, hp⟩ := List.getElem?_of_mem h1
  rcases ext_ex hp with ⟨_, r0, e, rfl⟩ | ⟨_, rfl⟩
  · refine .inl (mem_opens.mpr ⟨r0, List.mem_of_getElem? e, ?_⟩)
    rw [← h2]
    cases r0 <;> rfl
  · exact .inr h2
theorem ext_cr (old : Nat) (added : Row) (rows : List Row) : crN (ext old added rows) ≤ crN rows + 1 := by
  unfold ext
  rw [crN_snoc]
  have : crN (rows.map (redR old rows.length)) = crN rows := crN_congr (by
    rw [List.map_map]
    exact List.map_congr_left fun r _ => by cases r <;> rfl)
  rw [this]
  split <;> omega
/-- a whole step of the longer rows -/
theorem ext_whole {old : Nat} {added : Row} {rows : List Row} (hok : ∀ r ∈ rows, okR rows.length r) {s p t : Nat} (hp : p ≠ rows.length) (h : whole (wdR (ext old added rows)) p s = some t) : ∃ t0, whole (wdR rows) p s = some t0 ∧ t0 < rows.length ∧ (t = t0 ∨ (t0 = old ∧ t = rows.length)) := by
  unfold whole at h
  cases e : (wdR (ext old added rows)).rows[p]? with
  | none =>
    rw [e] at h
    cases h
  | some r =>
    rw [e] at h
    rcases ext_ex e with ⟨_, r0, e0, rfl⟩ | ⟨z, _⟩
    · have ok := hok r0 (List.mem_of_getElem? e0)
      unfold whole
      rw [show (wdR rows).rows[p]? = _ from e0]
      cases r0 with
      | mesh o u v =>
        have h : some (if s ≤ o then (if u = old then rows.length else u) else v) = some t := h
        have h := Option.some.inj h
        by_cases hs : s ≤ o
        · rw [if_pos hs] at h
          refine ⟨u, congrArg some (if_pos hs), ok.2.2.1, ?_⟩
          split at h
          · next z => exact .inr ⟨z, h.symm⟩
          · exact .inl h.symm
        · rw [if_neg hs] at h
          exact ⟨v, congrArg some (if_neg hs), ok.2.2.2, .inl h.symm⟩
      | crush q =>
        have h : (if s = 1 then some (if q = old then rows.length else q) else none) = some t := h
        by_cases hs : s = 1
        · rw [if_pos hs] at h
          refine ⟨q, if_pos hs, ok, ?_⟩
          have h := Option.some.inj h
          split at h
          · next z => exact .inr ⟨z, h.symm⟩
          · exact .inl h.symm
        · rw [if_neg hs] at h
          cases h
      | bin b => cases h
    · exact absurd z hp
theorem ext_at (old : Nat) (added : Row) (rows : List Row) : (ext old added rows)[rows.length]? = some added := by
  unfold ext
  rw [List.getElem?_append_right (by rw [List.length_map]; exact Nat.le_refl _), List.length_map, Nat.sub_self] <;> rfl
theorem ext_rk2 {old m : Nat} {added : Row} {rows : List Row} (hok : ∀ r ∈ rows, okR rows.length r) (ha : rows[old]? = some added) (h : Rk rows m) : Rk (ext old added rows) m := by
  obtain ⟨rho, h1, h2⟩ := h
  have lo := (List.getElem?_eq_some_iff.mp ha).1
  refine ⟨fun s p => rho s (if p = rows.length then old else p), fun s p => h1 s _, fun s p t hs hw => ?_⟩
  show rho s (if t = rows.length then old else t) < rho s (if p = rows.length then old else p)
  by_cases hp : p = rows.length
  · have e : whole (wdR (ext old added rows)) p s = whole (wdR rows) old s := by
      unfold whole
      rw [hp, show (wdR (ext old added rows)).rows[rows.length]? = _ from ext_at old added rows, show (wdR rows).rows[old]? = _ from ha]
    rw [e] at hw
    rw [if_pos hp]
    have lt : t < rows.length := by
      have ok := hok added (List.mem_of_getElem? ha)
      unfold whole at hw
      rw [show (wdR rows).rows[old]? = _ from ha] at hw
      cases added with
      | mesh o u v =>
        have hw : some (if s ≤ o then u else v) = some t := hw
        have hw := Option.some.inj hw
        have := ok.2.2.1
        have := ok.2.2.2
        split at hw <;> omega
      | crush q =>
        have hw : (if s = 1 then some q else none) = some t := hw
        have ok : q < rows.length := ok
        split at hw
        · have hw := Option.some.inj hw
          omega
        · cases hw
      | bin b => cases hw
    rw [if_neg (by omega)]
    exact h2 s old t hs hw
  · rw [if_neg hp]
    obtain ⟨t0, e1, e2, e3⟩ := ext_whole hok hp hw
    have := h2 s p t0 hs e1
    rcases e3 with e | ⟨e, e'⟩
    · rw [e, if_neg (by omega)]
      exact this
    · rw [if_pos e', ← e]
      exact this
theorem ext_rk3 {old m o : Nat} {rows : List Row} (hok : ∀ r ∈ rows, okR rows.length r) (ho : old < rows.length) (h : Rk rows m) : Rk (ext old (.mesh o old old) rows) (2 * m + 1) := by
  obtain ⟨rho, h1, h2⟩ := h
  refine ⟨fun s p => if p = rows.length then 2 * rho s old + 1 else 2 * rho s p, fun s p => ?_, fun s p t hs hw => ?_⟩
  · have a := h1 s old
    have b := h1 s p
    show (if p = rows.length then 2 * rho s old + 1 else 2 * rho s p) ≤ _
    split <;> omega
  · show (if t = rows.length then 2 * rho s old + 1 else 2 * rho s t) < (if p = rows.length then 2 * rho s old + 1 else 2 * rho s p)
    by_cases hp : p = rows.length
    · have e : whole (wdR (ext old (.mesh o old old) rows)) p s = some (if s ≤ o then old else old) := by
        unfold whole
        rw [hp, show (wdR (ext old (.mesh o old old) rows)).rows[rows.length]? = _ from ext_at old _ rows]
      rw [e] at hw
      have hw := Option.some.inj hw
      have : t = old := by split at hw <;> omega
      rw [if_pos hp, if_neg (by omega), this]
      omega
    · rw [if_neg hp]
      obtain ⟨t0, e1, e2, e3⟩ := ext_whole hok hp hw
      have := h2 s p t0 hs e1
      rcases e3 with e | ⟨e, e'⟩
      · rw [e, if_neg (by omega)]
        omega
      · rw [if_pos e', ← e]
        omega
theorem ext_rows {old m c : Nat} {added : Row} {rows : List Row} (h : RowsOk rows 6 m c) (ha : okR rows.length added) (ho : ∀ o, mo added = some o → 1 ≤ o ∧ o ≤ 5) {m' : Nat} (hr : Rk (ext old added rows) m') : RowsOk (ext old added rows) 7 m' (c + 1) :=
  ⟨by rw [ext_len]; omega, by rw [ext_len]; have := h.nn; omega, ext_ok h.ok ha, fun o k => (ext_op k).elim (h.op o) (ho o), hr, by have := ext_cr old added rows; have := h.cr; omega⟩
theorem nam_of {names : List Nat} {n : Nat} (h : names.Perm (List.range n)) : Nam names n :=
  ⟨by rw [h.length_eq, List.length_range], h.nodup_iff.mpr List.nodup_range, fun k hk => List.mem_range.mp (h.mem_iff.mp hk)⟩
theorem nam_turn {n c : Nat} (hn : 1 ≤ n) : Nam (0 :: ((List.range' 1 (n - 1)).drop c ++ (List.range' 1 (n - 1)).take c)) n := by
  refine nam_of (List.Perm.trans (List.Perm.cons 0 (List.perm_append_comm.trans (List.Perm.of_eq (List.take_append_drop c _)))) (List.Perm.of_eq ?_))
  obtain ⟨k, rfl⟩ : ∃ k, n = k + 1 := ⟨n - 1, by omega⟩
  rw [List.range_eq_range', Nat.add_sub_cancel, List.range'_succ]
theorem RowsOk.mono {rows : List Row} {n m c n' m' c' : Nat} (h : RowsOk rows n m c) (h1 : n ≤ n') (h2 : m ≤ m') (h3 : c ≤ c') : RowsOk rows n' m' c' := ⟨h.n1, Nat.le_trans h.nn h1, h.ok, h.op, h.rk.mono h2, Nat.le_trans h.cr h3⟩
end Mw
namespace Mw
open PySem PySem.Spec PyProof.Rows L2
section
variable {K : PySem.W.Frag} {σ : L2.St} {G H : Hp} {ta tb tc td te tf : TE} {α β : Type} [Rep α] [Rep β]
theorem ev_listRg {a b : Nat} (ha : Ev K ta σ G a) (hb : Ev K tb σ G b) (h1 : a ≤ 1000) (h2 : b ≤ 1000) : Ev K (tLstRg (tRg2 ta tb)) σ G (List.range' a (b - a)) := fun G1 H1 s1 s2 Q q =>
  ha G1 H1 s1 s2 _ fun v G2 H2 s r => hb G2 H2 (s1.trans s.gg) s.gh _ fun w G3 H3 s' r' => ⟨(a : Int), (b : Int), r, r', RgOk.of_le (by omega) (by omega) (by omega) (by omega), fun p hp => by
    refine q (.ref p) _ _ ((s.trans s').trans (Stp.new s'.gh hp)) ⟨p, _, rfl, upd_same, ?_⟩
    refine all_of_get (by rw [rgV_length, List.length_range']; omega) fun i v x hv hx => ?_
    have hi := (List.getElem?_eq_some_iff.mp hx).1
    rw [List.length_range'] at hi
    rw [List.getElem?_range' hi] at hx
    unfold rgV at hv
    rw [List.getElem?_map, List.getElem?_range (by omega)] at hv
    rw [← Option.some.inj hv, ← Option.some.inj hx]
    show V.int ((a : Int) + (i : Int)) = V.int ((a + 1 * i : Nat) : Int)
    rw [Nat.one_mul, Int.natCast_add]⟩
theorem cut_from {l : List α} {c : Nat} (h : c ≤ l.length) : cutG l (some (c : Int)) none = l.drop c := by
  unfold cutG
  rw [HT.sIx_nat, HT.sIx_none, Nat.min_eq_left h]
  exact List.take_of_length_le (by rw [List.length_drop]; exact Nat.le_refl _)
theorem cut_to {l : List α} {c : Nat} (h : c ≤ l.length) : cutG l none (some (c : Int)) = l.take c := by
  unfold cutG
  rw [HT.sIx_nat, HT.sIx_none, Nat.min_eq_left h, List.drop_zero, Nat.sub_zero]
end
theorem fm_rows (rows : List Row) (f : Row → Row) : fm (List.range rows.length) (fun _ => true) (fun k => f (rows.getD k (.bin 0))) = rows.map f := by
  unfold fm
  rw [List.filter_eq_self.mpr fun _ _ => rfl]
  refine List.ext_getElem? fun i => ?_
  rw [List.getElem?_map, List.getElem?_map]
  by_cases hi : i < rows.length
  · rw [List.getElem?_range hi, List.getElem?_eq_getElem hi]
    show some (f (rows.getD i (.bin 0))) = some (f rows[i])
    rw [List.getD_eq_getElem?_getD, List.getElem?_eq_getElem hi] <;> rfl
  · rw [List.getElem?_eq_none (by rw [List.length_range]; omega), List.getElem?_eq_none (by omega)] <;> rfl
abbrev spBeside (K : PySem.W.Frag) : Sp := spE2 K (fun (rows : List Row) (cell : Nat) => RowsOk rows 6 6 2 ∧ ∀ o ∈ opens (wdR rows), o ≤ 4) fun _ _ rows' => RowsOk rows' 7 15 3
section
variable {P : Program} {w : World} {K : PySem.W.Frag} {mg : Str → Option Value} {base : Heap}
theorem c_law_beside (h : Has K mg "_law_beside" d_law_beside) (T : Tx K mg base) (c_law_renamed : Cal P w K mg base "_law_renamed" 1 ["rows", "names"] (spRen K)) (c_law_nearly : Cal P w K mg base "_law_nearly" 3 ["rows", "cell"] (spNearly K)) (c_law_redirected : Cal P w K mg base "_law_redirected" 1 ["rows", "at", "old", "new"] (spRed K)) : Cal P w K mg base "_law_beside" 4 ["rows", "cell"] (spBeside K) := by
  refine h.cal sc_law_beside (fun _ _ _ _ _ _ us hl => match us, hl with | [_, _], _ => rfl) (fun vs H Q E h => ?_) (fun f cdv A outer s0 H vs Q E hr h => ?_)
  · obtain ⟨_, _, _, _, _, rfl, _⟩ := h
    rfl
  · obtain ⟨G, v1, v2, rows, cell0, rfl, gh, r1, r2, ⟨ro, o4⟩, q⟩ := h
    refine ⟨_, (pss_cons (ps_set (i := 2) sc_law_beside.nd rfl (.inl rfl) (pe_op op_mod (pv 1) pe_int))
      (pss_cons (ps_set (i := 1) sc_law_beside.nd rfl (.inl rfl) (pe_op op_fdiv (pv 1) pe_int))
      (pss_cons (ps_set (i := 3) sc_law_beside.nd rfl (.inr rfl) (pe_callB (lenK K) (by rfl) T.b_len PySem.boot_len (pa_cons (pv 0) pa_nil)))
      (pss_cons (ps_set (i := 4) sc_law_beside.nd rfl (.inr rfl) (pe_op op_mod (pv 1) (pv 3)))
      (pss_cons (ps_if (pt_cmpR op_eq (pv 2) pe_int (nomark _)) (pss_cons (ps_set (i := 5) sc_law_beside.nd rfl (.inl rfl) (pe_listRg rfl (by rfl) T.b_list (prg_2 (by rfl) T.b_range pe_int (pv 3))))
      (pss_cons (ps_set (i := 5) sc_law_beside.nd rfl (.inl rfl) (pe_op op_cat (pe_op op_cat (pe_lst (pa_cons pe_int pa_nil)) (pe_slice (slK K) (pv 5) (po_some (pe_op op_mod (pe_op op_fdiv (pv 1) pe_int) (pv 3))) po_none)) (pe_slice (slK K) (pv 5) po_none (po_some (pe_op op_mod (pe_op op_fdiv (pv 1) pe_int) (pv 3))))))
      (pss_one (ps_ret (pe_c c_law_renamed (hr.mono (by decide)) (pa_cons (pv 0) (pa_cons (pv 5) pa_nil))))))) pss_nil)
      (pss_cons (ps_if (PW.pt (pw_or (pt_cmpR op_eq (pv 2) pe_int (nomark _)) (pw_or1 (pt_cmpR op_eq (pv 2) pe_int (nomark _))))) (pss_one (ps_ret (pe_c c_law_nearly (hr.mono (by decide)) (pa_cons (pv 0) (pa_cons (pv 1) pa_nil))))) pss_nil)
      (pss_cons (ps_set (i := 6) sc_law_beside.nd rfl (.inl rfl) (pe_ix (ixL K) (pv 0) (pv 4) (fun _ _ => rfl)))
      (pss_cons (ps_if (pt_cmpR op_eq (pv 2) pe_int (nomark _)) (pss_one (ps_set (i := 6) sc_law_beside.nd rfl (.inl rfl) (pe_tup (pa_cons pe_str (pa_cons (pe_op op_add pe_int (pe_op op_mod (pe_op op_fdiv (pv 1) pe_int) pe_int)) (pa_cons (pv 4) (pa_cons (pv 4) pa_nil))))))) pss_nil)
      (pss_cons (ps_if (PW.pt (pw_and (pt_cmpR op_eq (pe_ix (ixT K) (pv 6) pe_int (fun _ _ => rfl)) pe_str (nomark _)) (pw_and1 (pt_cmpR op_gt (pe_callB (lenK K) (by rfl) T.b_len PySem.boot_len (pa_cons (pe_lc (own := [("one", 9)]) (g := (gName 9)) rfl sc_law_beside.nd (pi_list (pv 0)) (blkOk_by (N := N_law_beside) (sc := defScope s_law_beside) (by decide +kernel)) (fun _ _ _ _ _ => (pg_name (i := 9) sc_law_beside.nd rfl (Or.inl rfl))) (fun _ _ _ _ _ => pts_one (pt_cmpR op_eq (pe_ix (ixT K) (pv 9) pe_int (fun _ _ => rfl)) pe_str (nomark _))) (fun _ _ _ _ _ => (pv 9))) pa_nil)) pe_int (nomark _))))) (pss_one (ps_set (i := 6) sc_law_beside.nd rfl (.inl rfl) (pe_tup (pa_cons pe_str (pa_cons pe_int pa_nil))))) pss_nil)
      (pss_cons (ps_setLc (i := 7) (own := [("k", 8)]) (g := (gName 8)) (tt := tYes) rfl sc_law_beside.nd  rfl rfl (sw_true rfl rfl rfl (by decide +kernel)) (pi_range1 (by rfl) T.b_range (pa_cons (pv 3) pa_nil)) (blkOk_by (N := N_law_beside) (sc := defScope s_law_beside) (by decide +kernel)) (fun _ _ _ _ _ => (pg_name (i := 8) sc_law_beside.nd rfl (Or.inl rfl))) (fun _ _ _ _ _ => pts_nil) (fun _ _ _ _ _ => (pe_c c_law_redirected (hr.mono (by decide)) (pa_cons (pv 0) (pa_cons (pv 8) (pa_cons (pv 4) (pa_cons (pv 3) pa_nil)))))))
      (pss_cons (ps_if (pt_cmpR (eqDK K hr.units) (pv 6) (pe_tup (pa_cons pe_str (pa_cons pe_int pa_nil))) (nomark _)) (pss_one (ps_ret (pv 0))) pss_nil)
      (pss_one (ps_ret (pe_op op_cat (pv 7) (pe_lst (pa_cons (pv 6) pa_nil)))))))))))))))), ?_⟩
    obtain rfl : v2 = .int (cell0 : Int) := r2
    have n1 := ro.n1
    have n6 := ro.nn
    refine q_set (K := K) gh (ev_modN (ev_var (x := cell0) rfl) (ev_n (n := 5)) (by decide)) fun v3 G2 H2 s2 r3 => ?_
    obtain rfl : v3 = .int ((cell0 % 5 : Nat) : Int) := r3
    generalize cell0 % 5 = way
    refine q_set (K := K) s2.gh (ev_divN (ev_var (x := cell0) rfl) (ev_n (n := 5)) (by decide) (by decide)) fun v3 G3 H3 s3 r3 => ?_
    obtain rfl : v3 = .int ((cell0 / 5 : Nat) : Int) := r3
    generalize cell0 / 5 = cell
    have t3 := s2.trans s3
    refine q_set (K := K) s3.gh (ev_len (ev_var (Rep.mono t3.gg r1))) fun v4 G4 H4 s4 r4 => ?_
    obtain rfl : v4 = .int ((rows.length : Nat) : Int) := r4
    have t4 := t3.trans s4
    refine q_set (K := K) s4.gh (ev_modN (ev_var (x := cell) rfl) (ev_var (x := rows.length) rfl) (by omega)) fun v4 G5 H5 s5 r5 => ?_
    obtain rfl : v4 = .int ((cell % rows.length : Nat) : Int) := r5
    have hat : cell % rows.length < rows.length := Nat.mod_lt _ (by omega)
    generalize cell % rows.length = old at hat
    have t5 := t4.trans s5
    refine q_when (K := K) s5.gh (et_t (ev_eqN (ev_var (x := way) rfl) (ev_n (n := 0)))) (fun e0 G6 H6 s6 => ?_) (fun e0 G6 H6 s6 => ?_)
    · have hc : cell / 8 % rows.length < rows.length := Nat.mod_lt _ (by omega)
      refine q_set (K := K) s6.gh (ev_listRg (ev_n (n := 1)) (ev_var (x := rows.length) rfl) (by decide) (by omega)) fun v6 G7 H7 s7 r7 => ?_
      have hl : (List.range' 1 (rows.length - 1)).length = rows.length - 1 := List.length_range'
      refine q_set (K := K) (x := 0 :: ((List.range' 1 (rows.length - 1)).drop (cell / 8 % rows.length) ++ (List.range' 1 (rows.length - 1)).take (cell / 8 % rows.length))) s7.gh (ev_as (ev_cat (ev_cat (ev_lst (el_cons (ev_n (n := 0)) el_nil) (by simp)) (ev_as (ev_sl (ev_var r7) (eo_some (ev_nI (ev_modN (ev_divN (ev_var (x := cell) rfl) (ev_n (n := 8)) (by decide) (by decide)) (ev_var (x := rows.length) rfl) (by omega)))) eo_none) (cut_from (by omega))) ?_) (ev_as (ev_sl (ev_var r7) eo_none (eo_some (ev_nI (ev_modN (ev_divN (ev_var (x := cell) rfl) (ev_n (n := 8)) (by decide) (by decide)) (ev_var (x := rows.length) rfl) (by omega))))) (cut_to (by omega))) ?_) rfl) fun v7 G8 H8 s8 r8 => ?_
      · simp
        omega
      · simp
        omega
      have hn := nam_turn (n := rows.length) (c := cell / 8 % rows.length) n1
      have t8 := ((t5.trans s6).trans s7).trans s8
      exact s_ret (K := K) s8.gh (ev_2 (ev_var (Rep.mono t8.gg r1)) (ev_var r8) ⟨⟨n1, by omega, ro.ok⟩, hn⟩) fun w G9 H9 s9 r9 => q w G9 H9 _ (t8.trans s9) r9 ((ren_rows hn ro).mono (by decide) (by decide) (by decide))
    · have t6 := t5.trans s6
      refine q_when (K := K) s6.gh (et_or (et_t (ev_eqN (ev_var (x := way) rfl) (ev_n (n := 1)))) fun _ => et_t (ev_eqN (ev_var (x := way) rfl) (ev_n (n := 4)))) (fun e1 G7 H7 s7 => ?_) (fun e1 G7 H7 s7 => ?_)
      · exact s_retE (K := K) s7.gh (ev_E2 (ev_var (Rep.mono (t6.trans s7).gg r1)) (ev_var (x := cell) rfl) ⟨ro, o4⟩) fun w G8 H8 y s8 r8 hy => q w G8 H8 y ((t6.trans s7).trans s8) r8 (RowsOk.mono hy (by decide) (by decide) (by decide))
      · have t7 := t6.trans s7
        have hrow := List.getElem?_eq_getElem hat
        generalize rows[old] = rw at hrow
        refine q_set (K := K) s7.gh (ev_ixN (ev_var (Rep.mono t7.gg r1)) (ev_nI (ev_var (x := old) rfl)) rfl hrow) fun v6 G8 H8 s8 r8 => ?_
        have t8 := t7.trans s8
        have okr := ro.ok _ (List.mem_of_getElem? hrow)
        refine tail_of (fun σ' H' => ∃ G9 v6 added, σ' = [some v1, some (.int (cell : Int)), some (.int (way : Int)), some (.int (rows.length : Int)), some (.int (old : Int)), none, some v6, none, none, none] ∧ Stp K G H G9 H' ∧ rp K G9 v6 added ∧ okR rows.length added ∧ (∀ o, mo added = some o → 1 ≤ o ∧ o ≤ 5) ∧ Rk (ext old added rows) 15) ?_ fun tail => ?_
        · rintro σ' H' ⟨G9, v6, added, rfl, t9, r9, ka, ko, kr⟩
          refine q_when (K := K) t9.gh (et_and (et_t (ev_isC (ev_var r9))) fun _ => et_t (ev_gtN (ev_len (ev_lcL Row.isC (fun r => r) (ev_var (Rep.mono t9.gg r1)) (by omega) (fun _ => rfl) (fun i r v G1 _ _ rv => et_t (ev_isC (ev_var rv))) (fun i r v G1 _ _ rv hp => ev_var rv))) (ev_n (n := 3)))) (fun e _ _ _ => ?_) (fun e G10 H10 s10 => ?_)
          · have e2 : (fm rows Row.isC fun r => r).length = crN rows := by
              unfold fm crN
              rw [List.length_map]
            have hcr := ro.cr
            rw [e2, decide_eq_false (by omega), Bool.and_false] at e
            cases e
          · have t10 := t9.trans s10
            refine q_set (K := K) s10.gh (ev_as (ev_lcR (n := rows.length) (fun _ => true) (fun k => redR old rows.length (rows.getD k (.bin 0))) (ev_nI (ev_var (x := rows.length) rfl)) rfl (by omega) (fun _ => rfl) ?_ ?_) (fm_rows rows _)) fun v11 G11 H11 s11 r11 => ?_
            · intros
              exact et_yes
            · intro i G' sg hi _
              exact ev_4 (ev_var (Rep.mono ((t10.gg).trans sg) r1)) (ev_var (x := i) rfl) (ev_var (x := old) rfl) (ev_var (x := rows.length) rfl) hi
            have t11 := t10.trans s11
            refine q_when (K := K) s11.gh (et_t (ev_eqBin (ev_var (Rep.mono (s10.trans s11).gg r9)) (ev_mkB (ev_n (n := 5))))) (fun _ G12 H12 s12 => ?_) (fun _ G12 H12 s12 => ?_)
            · exact s_ret (K := K) s12.gh (ev_var (Rep.mono (t11.trans s12).gg r1)) fun w G13 H13 s13 r13 => q w G13 H13 _ ((t11.trans s12).trans s13) r13 (ro.mono (by decide) (by decide) (by decide))
            · refine s_ret (K := K) s12.gh (ev_cat (ev_var (Rep.mono s12.gg r11)) (ev_lst (el_cons (ev_var (Rep.mono ((s10.trans s11).trans s12).gg r9)) el_nil) (by simp)) (by simp; omega)) fun w G13 H13 s13 r13 => q w G13 H13 _ ((t11.trans s12).trans s13) r13 (ext_rows ro ka ko kr)
        · refine s_when (K := K) s8.gh (et_t (ev_eqN (ev_var (x := way) rfl) (ev_n (n := 3)))) (fun _ G9 H9 s9 => ?_) (fun _ G9 H9 s9 => ?_)
          · have hm : cell / 99 % 4 < 4 := Nat.mod_lt _ (by decide)
            refine s_set (K := K) s9.gh (ev_mkM (td := tC .non) (ev_addN (ev_n (n := 1)) (ev_modN (ev_divN (ev_var (x := cell) rfl) (ev_n (n := 99)) (by decide) (by decide)) (ev_n (n := 4)) (by decide))) (ev_var (x := old) rfl) (ev_var (x := old) rfl)) fun v7 G10 H10 s10 r10 => tail _ _ ⟨G10, v7, _, rfl, (t8.trans s9).trans s10, r10, ⟨by omega, by omega, hat, hat⟩, fun o ho => ?_, (ext_rk3 ro.ok hat ro.rk).mono (by decide)⟩
            have := Option.some.inj ho
            omega
          · exact tail _ _ ⟨G9, v6, rw, rfl, t8.trans s9, Rep.mono s9.gg r8, okr, fun o ho => ro.op o (mem_opens.mpr ⟨rw, List.mem_of_getElem? hrow, ho⟩), (ext_rk2 ro.ok hrow ro.rk).mono (by decide)⟩
end
end Mw
namespace Mw
open PySem PySem.Spec PyProof.Rows L2
section
variable {K : PySem.W.Frag} {σ : L2.St} {G H : Hp} {ta tb tc td te tf : TE} {α β γ δ ε : Type} [Rep α] [Rep β] [Rep γ] [Rep δ] [Rep ε] {x : α} {y : β} {z : γ} {u : δ}
def spE4 (K : PySem.W.Frag) (pre : α → β → γ → δ → Prop) (R : α → β → γ → δ → ε → Prop) : Sp := fun vs H Q _ => ∃ G v1 v2 v3 v4 x y z u, vs = [v1, v2, v3, v4] ∧ Same G H ∧ rp K G v1 x ∧ rp K G v2 y ∧ rp K G v3 z ∧ rp K G v4 u ∧ pre x y z u ∧ ∀ w G' H' s, Stp K G H G' H' → rp K G' w s → R x y z u s → Q w H'
theorem ev_E4 {E : XK} {pre : α → β → γ → δ → Prop} {R : α → β → γ → δ → ε → Prop} (h1 : Ev K ta σ G x) (h2 : Ev K tb σ G y) (h3 : Ev K tc σ G z) (h4 : Ev K td σ G u) (hp : pre x y z u) : EvE K (tCall (spE4 K pre R) [] E (tCons ta (tCons tb (tCons tc (tCons td tNil))))) σ G (R x y z u) := fun G1 H1 a b Q q =>
  h1 G1 H1 a b _ fun v G2 H2 s r => h2 G2 H2 (a.trans s.gg) s.gh _ fun v2 G3 H3 s2 r2 => h3 G3 H3 ((a.trans s.gg).trans s2.gg) s2.gh _ fun v3 G4 H4 s3 r3 => h4 G4 H4 (((a.trans s.gg).trans s2.gg).trans s3.gg) s3.gh _ fun v4 G5 H5 s4 r4 =>
    ⟨G5, v, v2, v3, v4, x, y, z, u, rfl, s4.gh, Rep.mono ((s2.gg.trans s3.gg).trans s4.gg) r, Rep.mono (s3.gg.trans s4.gg) r2, Rep.mono s4.gg r3, r4, hp, fun w G' H' s0 s' r' hu => q w G' H' s0 ((((s.trans s2).trans s3).trans s4).trans s') r' hu⟩
theorem ev_two {x : α} {P : α → Prop} (h1 : Ev K ta σ G x) (h2 : EvE K tb σ G P) : EvE K (tLst (tCons ta (tCons tb tNil))) σ G (fun l => ∃ y, P y ∧ l = [x, y]) := fun G1 H1 a b Q q =>
  h1 G1 H1 a b _ fun v1 G2 H2 s1 r1 => h2 G2 H2 (a.trans s1.gg) s1.gh _ fun v2 G3 H3 y s2 r2 py => ⟨sz_of (by show 2 ≤ 100000; decide), fun p hp => by
    have s3 := Stp.new (K := K) (o := .lst [v1, v2]) s2.gh hp
    exact q (.ref p) _ _ [x, y] ((s1.trans s2).trans s3) ⟨p, _, rfl, upd_same, .cons (Rep.mono (s2.gg.trans s3.gg) r1) (.one (Rep.mono s3.gg r2))⟩ ⟨y, py, rfl⟩⟩
end
abbrev spTwo (K : PySem.W.Frag) : Sp := spE4 K (fun (z : Scr) (many most cr : Nat) => 1 ≤ many ∧ many ≤ 6 ∧ 1 ≤ most ∧ most ≤ 4 ∧ cr = 2) fun _ _ _ _ (l : List (List Row)) => ∃ r1 r2, l = [r1, r2] ∧ RowsOk r1 6 6 2 ∧ RowsOk r2 7 15 3
section
variable {P : Program} {w : World} {K : PySem.W.Frag} {mg : Str → Option Value} {base : Heap}
theorem c_law_two (h : Has K mg "_law_two" d_law_two) (T : Tx K mg base) (c_law_cell : Cal P w K mg base "_law_cell" 1 ["script", "k"] (spCell K)) (c_law_rows : Cal P w K mg base "_law_rows" 3 ["script", "at", "many", "most", "crushers"] (spRows K)) (c_law_beside : Cal P w K mg base "_law_beside" 4 ["rows", "cell"] (spBeside K)) : Cal P w K mg base "_law_two" 5 ["script", "many", "most", "crushers"] (spTwo K) := by
  refine h.cal sc_law_two (fun _ _ _ _ _ _ us hl => match us, hl with | [_, _, _, _], _ => rfl) (fun vs H Q E h => ?_) (fun f cdv A outer s0 H vs Q E hr h => ?_)
  · obtain ⟨_, _, _, _, _, _, _, _, _, rfl, _⟩ := h
    rfl
  · obtain ⟨G, v1, v2, v3, v4, z, many, most, cr, rfl, gh, r1, r2, r3, r4, ⟨m1, m6, o1, o4, rfl⟩, q⟩ := h
    refine ⟨_, (pss_cons (ps_set (i := 4) sc_law_two.nd rfl (.inl rfl) (pe_c c_law_rows (hr.mono (by decide)) (pa_cons (pv 0) (pa_cons pe_int (pa_cons (pv 1) (pa_cons (pv 2) (pa_cons (pv 3) pa_nil)))))))
      (pss_cons (ps_set (i := 5) sc_law_two.nd rfl (.inl rfl) (pe_c c_law_cell (hr.mono (by decide)) (pa_cons (pv 0) (pa_cons pe_int pa_nil))))
      (pss_cons (ps_if (pt_cmpR op_eq (pe_op op_mod (pv 5) pe_int) pe_int (nomark _)) (pss_one (ps_ret (pe_lst (pa_cons (pv 4) (pa_cons (pe_c c_law_rows (hr.mono (by decide)) (pa_cons (pv 0) (pa_cons pe_int (pa_cons (pv 1) (pa_cons (pv 2) (pa_cons (pv 3) pa_nil)))))) pa_nil))))) pss_nil)
      (pss_one (ps_ret (pe_lst (pa_cons (pv 4) (pa_cons (pe_c c_law_beside (hr.mono (by decide)) (pa_cons (pv 4) (pa_cons (pe_op op_fdiv (pv 5) pe_int) pa_nil))) pa_nil)))))))), ?_⟩
    obtain rfl : v2 = .int (many : Int) := r2
    obtain rfl : v3 = .int (most : Int) := r3
    obtain rfl : v4 = .int ((2 : Nat) : Int) := r4
    refine q_setE (K := K) gh (ev_E5 (ev_var r1) (ev_n (n := 1)) (ev_var (x := many) rfl) (ev_var (x := most) rfl) (ev_var (x := 2) rfl) ⟨by decide, m1, m6, o1, o4⟩) fun v5 G2 H2 rows s2 r5 hr => ?_
    obtain ⟨ro, op⟩ := hr
    refine q_setE (K := K) s2.gh (ev_E2 (ev_var (Rep.mono s2.gg r1)) (ev_n (n := 9)) (by decide)) fun v6 G3 H3 cell s3 r6 _ => ?_
    obtain rfl : v6 = .int (cell : Int) := r6
    have t3 := s2.trans s3
    refine q_when (K := K) s3.gh (et_t (ev_eqN (ev_modN (ev_var (x := cell) rfl) (ev_n (n := 6)) (by decide)) (ev_n (n := 5)))) (fun _ G4 H4 s4 => ?_) (fun _ G4 H4 s4 => ?_)
    · have t4 := t3.trans s4
      refine s_retE (K := K) s4.gh (ev_two (ev_var (Rep.mono (s3.trans s4).gg r5)) (ev_E5 (ev_var (Rep.mono t4.gg r1)) (ev_n (n := 10)) (ev_var (x := many) rfl) (ev_var (x := most) rfl) (ev_var (x := 2) rfl) ⟨by decide, m1, m6, o1, o4⟩)) fun w G5 H5 l s5 r5 hl => ?_
      obtain ⟨y, hy, rfl⟩ := hl
      exact q w G5 H5 _ (t4.trans s5) r5 ⟨rows, y, rfl, ro, RowsOk.mono hy.1 (by decide) (by decide) (by decide)⟩
    · have t4 := t3.trans s4
      refine s_retE (K := K) s4.gh (ev_two (ev_var (Rep.mono (s3.trans s4).gg r5)) (ev_E2 (ev_var (Rep.mono (s3.trans s4).gg r5)) (ev_divN (ev_var (x := cell) rfl) (ev_n (n := 6)) (by decide) (by decide)) ⟨ro, op⟩)) fun w G5 H5 l s5 r5 hl => ?_
      obtain ⟨y, hy, rfl⟩ := hl
      exact q w G5 H5 _ (t4.trans s5) r5 ⟨rows, y, rfl, ro, hy⟩
end
end Mw
namespace Mw
open PySem PySem.Spec PyProof.Rows L2
section
variable {K : PySem.W.Frag} {σ : L2.St} {G H : Hp} {ta tb te : TE} {α β : Type} [Rep α] [Rep β] {x : α} {D : Ends}
theorem ev_worked {E : XK} {wd : Wd} {lot : List (Nat × Nat)} (h1 : Ev K ta σ G wd) (h2 : Ev K tb σ G lot) (g : Good wd) (ho : lotOk lot) : EvE K (tCall (spWorked K) [] E (tCons ta (tCons tb tNil))) σ G (fun p : List (Nat × List (Nat × Nat)) × List Nat => Wk wd lot p.1) := fun G1 H1 a b Q q =>
  h1 G1 H1 a b _ fun v G2 H2 s r => h2 G2 H2 (a.trans s.gg) s.gh _ fun v2 G3 H3 s2 r2 => ⟨G3, v, v2, wd, lot, rfl, s2.gh, Rep.mono s2.gg r, r2, g, ho, fun w G' H' bins dn s' r' hk => q w G' H' (bins, dn) ((s.trans s2).trans s') r' hk⟩
theorem ev_p0E {P : α × β → Prop} (ha : EvE K ta σ G P) : EvE K (tOp (rIxT K) ta (tC (.int 0))) σ G (fun x => ∃ p, P p ∧ x = p.1) := fun G1 H1 a b Q q => ha G1 H1 a b _ fun v G2 H2 p s r pp =>
  (ev_p0 (σ := σ) (G := G2) (K := K) (ta := tC v) (p := p) fun G3 H3 a3 b3 Q3 q3 => q3 v G3 H3 (Stp.refl b3) (Rep.mono a3 r)) G2 H2 (Same.refl G2) s.gh Q fun w G3 H3 s3 r3 => q w G3 H3 _ (s.trans s3) r3 ⟨p, pp, rfl⟩
theorem sA_put {i j : Nat} {l : Addr} {xs : List V} {n : Int} (hi : σ[i]? = some (some (.ref l))) (gl : G l = none) (hl : H l = some (.lst xs)) (h : EA K te σ G H x) (hn : Ev K tb σ G n) (en : n = (j : Int)) (hj : j < xs.length)
    (k : ∀ v G2 H2, Stp K G H G2 H2 → rp K G2 v x → H2 l = some (.lst xs) → G2 l = none → D.nx σ (upd H2 l (.lst (xs.set j v)))) : tAsg te (gSub (tVar i) tb rSetL) D σ H :=
  h _ fun v G2 H2 s r => ⟨.ref l, hi, hn G2 H2 s.gg s.gh _ fun w G3 H3 s' r' => by
    obtain ⟨f1, f2⟩ := (s.trans s').ownL gl hl
    refine ⟨l, xs, n, j, rfl, r', f2, ?_, k v G3 H3 (s.trans s') (Rep.mono s'.gg r) f2 f1⟩
    rw [en]
    unfold ixN
    rw [if_pos (by omega), if_pos (by omega)] <;> rfl⟩
end
theorem sum_ints : ∀ l : List Nat, (l.map fun n : Nat => (n : Int)).sum = (l.sum : Int)
  | [] => rfl
  | a :: l => by
    rw [List.map_cons, List.sum_cons, List.sum_cons, sum_ints l, Int.natCast_add]
theorem wtl_fm (l : List (Nat × Nat)) : (fm l (fun _ => true) fun y => y.1 * y.2).sum = wtl l := by
  unfold fm wtl sumN
  rw [List.filter_eq_self.mpr fun _ _ => rfl]
  congr 1
  exact List.map_congr_left fun y _ => Nat.mul_comm _ _
theorem binW_snoc (b : Nat) (l : List (Nat × List (Nat × Nat))) (x : Nat × List (Nat × Nat)) : binW b (l ++ [x]) = binW b l + if x.1 = b then wtl x.2 else 0 := by
  unfold binW sumN
  rw [List.map_append, List.sum_append]
  simp
theorem held_set (bins : List (Nat × List (Nat × Nat))) (x : Nat × List (Nat × Nat)) (hx : x.1 ≤ 5) : ((List.range 6).map fun b => binW b bins).set x.1 (binW x.1 bins + wtl x.2) = (List.range 6).map fun b => binW b (bins ++ [x]) := by
  refine List.ext_getElem? fun i => ?_
  rw [List.getElem?_set, List.getElem?_map, List.getElem?_map, List.length_map, List.length_range]
  by_cases e : x.1 = i
  · subst e
    rw [if_pos rfl, if_pos (by omega), List.getElem?_range (by omega)]
    show _ = some (binW x.1 (bins ++ [x]))
    rw [binW_snoc, if_pos rfl]
  · rw [if_neg e]
    by_cases hi : i < 6
    · rw [List.getElem?_range hi]
      show some (binW i bins) = some (binW i (bins ++ [x]))
      rw [binW_snoc, if_neg e, Nat.add_zero]
    · rw [List.getElem?_eq_none (by rw [List.length_range]; omega)] <;> rfl
abbrev spWeighed (K : PySem.W.Frag) : Sp := sp2 K (fun (wd : Wd) (lot : List (Nat × Nat)) => Good wd ∧ lotOk lot) lotW
section
variable {P : Program} {w : World} {K : PySem.W.Frag} {mg : Str → Option Value} {base : Heap}
theorem c_law_weighed (h : Has K mg "_law_weighed" d_law_weighed) (T : Tx K mg base) (c_worked : Cal P w K mg base "worked" 7 ["works", "lot"] (spWorked K)) : Cal P w K mg base "_law_weighed" 8 ["works", "lot"] (spWeighed K) := by
  refine h.cal sc_law_weighed (fun _ _ _ _ _ _ us hl => match us, hl with | [_, _], _ => rfl) (fun vs H Q E h => ?_) (fun f cdv A outer s0 H vs Q E hr h => ?_)
  · obtain ⟨_, _, _, _, _, rfl, _⟩ := h
    rfl
  · obtain ⟨G, v1, v2, wd, lot, rfl, gh, r1, r2, ⟨g, ho⟩, q⟩ := h
    refine ⟨_, (pss_cons (ps_setLc (i := 3) (own := [("number", 2)]) (g := (gName 2)) (tt := tYes) rfl sc_law_weighed.nd  rfl rfl (sw_true rfl rfl rfl (by decide +kernel)) (pi_range1 (by rfl) T.b_range (pa_cons pe_int pa_nil)) (blkOk_by (N := N_law_weighed) (sc := defScope s_law_weighed) (by decide +kernel)) (fun _ _ _ _ _ => (pg_name (i := 2) sc_law_weighed.nd rfl (Or.inl rfl))) (fun _ _ _ _ _ => pts_nil) (fun _ _ _ _ _ => pe_int))
      (pss_cons (ps_for PassesOwn.never rfl (pi_list (pe_ix (ixT K) (pe_c c_worked (hr.mono (by decide)) (pa_cons (pv 0) (pa_cons (pe_callTy (listK K) (by rfl) T.b_list (by decide +kernel) (pa_cons (pv 1) pa_nil)) pa_nil))) pe_int (fun _ _ => rfl))) (pg_tup rfl (pgs_cons (pg_name (i := 2) sc_law_weighed.nd rfl (.inl rfl)) (pgs_cons (pg_name (i := 4) sc_law_weighed.nd rfl (.inl rfl)) pgs_nil))) (pss_one (ps_asg (pe_op op_add (pe_ix (ixL K) (pv 3) (pv 2) (fun _ _ => rfl)) (pe_callB (sumK K) (by rfl) T.b_sum (by decide +kernel) (pa_cons (pe_lc (own := [("size", 5), ("many", 6)]) (g := (gTup K 2 (gCons (gName 5) (gCons (gName 6) gNil)))) (tt := tYes) rfl sc_law_weighed.nd (pi_list (pv 4)) (blkOk_by (N := N_law_weighed) (sc := defScope s_law_weighed) (by decide +kernel)) (fun _ _ _ _ _ => (pg_tup rfl (pgs_cons (pg_name (i := 5) sc_law_weighed.nd rfl (Or.inl rfl)) (pgs_cons (pg_name (i := 6) sc_law_weighed.nd rfl (Or.inl rfl)) pgs_nil)))) (fun _ _ _ _ _ => pts_nil) (fun _ _ _ _ _ => (pe_op op_mul (pv 5) (pv 6)))) pa_nil))) (pg_sub (pv 3) (pv 2) set_list))))
      (pss_one (ps_ret (pv 3))))), ?_⟩
    refine q_setW (K := K) (l := fm (List.range 6) (fun _ => true) fun _ => (0 : Nat)) gh (ew_lcR (n := 6) (fun _ => true) (fun _ => (0 : Nat)) (ev_i (i := 6)) rfl (by decide) (fun _ => rfl) (fun i G1 _ _ => et_yes) (fun i G1 _ _ _ => ev_n (n := 0))) fun L vs0 G2 H2 s2 nL g2 h2 rv0 => ?_
    refine q_forE (K := K) s2.gh (ev_p0E (ev_worked (ev_var (Rep.mono s2.gg r1)) (ev_list (ev_var (Rep.mono s2.gg r2))) g ho)) fun bins G3 H3 s3 hb _ => ?_
    obtain ⟨⟨bins, dn⟩, hb, rfl⟩ := hb
    have hb : Wk wd lot bins := hb
    refine ⟨fun i σ' H' => ∃ a b G' vs, σ' = [some v1, some v2, a, some (.ref L), b, none, none] ∧ Same G3 G' ∧ Stp K G H G' H' ∧ G' L = none ∧ H' L = some (.lst vs) ∧ All2 (rp K G') vs ((List.range 6).map fun b => binW b (bins.take i)), ?_, ?_, ?_, ?_⟩
    · obtain ⟨g3, h3⟩ := s3.ownL g2 h2
      exact ⟨none, none, G3, vs0, rfl, Same.refl G3, s2.trans s3, g3, h3, rv0.mp fun _ _ r => Rep.mono s3.gg r⟩
    · rintro i σ' H' ⟨_, _, G', _, _, sg, st, _⟩
      exact sg.trans st.gh
    · rintro i x v σ' H' hi rx ⟨a, b, G', vs, rfl, sg, st, gL, hL, rv⟩
      refine g_pair (Rep.mono sg rx) st.gh fun b1 b2 rb1 rb2 => ?_
      obtain rfl : b1 = .int (x.1 : Int) := rb1
      obtain ⟨hx5, hxl, hxs⟩ := hb.1 x (List.mem_of_getElem? hi)
      have rg : ((List.range 6).map fun b => binW b (bins.take i))[x.1]? = some (binW x.1 (bins.take i)) := by
        rw [List.getElem?_map, List.getElem?_range (by omega)] <;> rfl
      have hlv : x.1 < vs.length := by
        rw [rv.len, List.length_map, List.length_range]
        omega
      have sumE : ∀ G2 H2, Stp K G' H' G2 H2 → EA K (tCB (rSum K) (tCons (tLc (iList K (tVar 4)) (gTup K 2 (gCons (gName 5) (gCons (gName 6) gNil))) tYes (tOp (rI CMul fun i j => .int (i * j)) (tVar 5) (tVar 6)) [5, 6]) tNil)) [some v1, some v2, some (.int (x.1 : Int)), some (.ref L), some b2, none, none] G2 H2 (wtl x.2) := fun G2 H2 s2 => (ev_nN (ev_sum (ev_nat_int (ev_lcP (fun _ => true) (fun y : Nat × Nat => y.1 * y.2) (ev_var (Rep.mono s2.gg rb2)) (by omega) (fun _ _ => rfl) (fun i y v w G1 _ hy rv rw => et_yes) (fun i y v w G1 _ hy rv rw _ => by
        obtain rfl : v = .int (y.1 : Int) := rv
        obtain rfl : w = .int (y.2 : Int) := rw
        have := hxs y (List.mem_of_getElem? hy)
        exact ev_mulN (ev_var (x := y.1) rfl) (ev_var (x := y.2) rfl) (cmul_of (by omega)))))) (by rw [sum_ints, wtl_fm])).at_ s2.gh
      refine sA_put (K := K) (x := binW x.1 (bins.take i) + wtl x.2) rfl gL hL (ea_add (ea_own rfl gL hL st.gh (ev_nI (ev_var (x := x.1) rfl)) rv (atI_nat rg)) sumE) (ev_nI (ev_var (x := x.1) rfl)) rfl hlv fun v6 G6 H6 s6 r6 e6 g6 => ?_
      refine ⟨_, _, G6, _, rfl, sg.trans s6.gg, (st.trans s6).putL nL g6 e6, g6, upd_same, ?_⟩
      rw [take_snoc hi, ← held_set _ _ hx5]
      exact All2.set r6 x.1 (rv.mp fun _ _ r => Rep.mono s6.gg r)
    · rintro σ' H' ⟨a, b, G', vs, rfl, sg, st, gL, hL, rv⟩
      rw [List.take_length] at rv
      refine ⟨.ref L, rfl, q _ _ H' (st.frz nL gL hL) ⟨L, vs, rfl, upd_same, ?_⟩⟩
      have e : lotW wd lot = (List.range 6).map fun b => binW b bins := List.map_congr_left fun b _ => (hb.2 b).symm
      rw [e]
      exact rv.mp fun _ _ r => Rep.mono (same_new gL) r
end
end Mw
namespace Mw
open PySem PySem.Spec PyProof.Rows L2
abbrev spRight (K : PySem.W.Frag) : Sp := sp2 K (fun (wd : Wd) (lot : List (Nat × Nat)) => Good wd ∧ lotOk lot) fun _ _ => true
/-- weights apart at a bin, and not before it -/
def apart (one other : Wd) (s b : Nat) : Prop := W one b 0 s ≠ W other b 0 s ∧ ∀ c, c < b → W one c 0 s = W other c 0 s
section
variable {P : Program} {w : World} {K : PySem.W.Frag} {mg : Str → Option Value} {base : Heap}
theorem c_law_right (h : Has K mg "_law_right" d_law_right) (T : Tx K mg base) (c_lot_weights : Cal P w K mg base "lot_weights" 5 ["works", "lot"] (spLotW K)) (c_law_weighed : Cal P w K mg base "_law_weighed" 8 ["works", "lot"] (spWeighed K)) : Cal P w K mg base "_law_right" 9 ["works", "lot"] (spRight K) := by
  refine h.cal sc_law_right (fun _ _ _ _ _ _ us hl => match us, hl with | [_, _], _ => rfl) (fun vs H Q E h => ?_) (fun f cdv A outer s0 H vs Q E hr h => ?_)
  · obtain ⟨_, _, _, _, _, rfl, _⟩ := h
    rfl
  · obtain ⟨G, v1, v2, wd, lot, rfl, gh, r1, r2, ⟨g, ho⟩, q⟩ := h
    refine ⟨_, (pss_one (ps_ret (pe_cmpR (eqDK K hr.units) (pe_c c_lot_weights (hr.mono (by decide)) (pa_cons (pv 0) (pa_cons (pe_callTy (listK K) (by rfl) T.b_list (by decide +kernel) (pa_cons (pv 1) pa_nil)) pa_nil))) (pe_c c_law_weighed (hr.mono (by decide)) (pa_cons (pv 0) (pa_cons (pv 1) pa_nil))) (nomark _)))), ?_⟩
    refine s_ret (K := K) (x := true) gh (ev_as (ev_eqL (ev_nat_int (ev_2 (ev_var r1) (ev_list (ev_var r2)) ⟨g, fun x hx => ?_⟩)) (ev_nat_int (ev_2 (ev_var r1) (ev_var r2) ⟨g, ho⟩))) (decide_eq_true rfl)) q
    have := ho.2 x hx
    exact ⟨this.1, by omega⟩
end
end Mw
namespace Mw
open PySem PySem.Spec PyProof.Rows L2
theorem lotW_one (wd : Wd) (s : Nat) : lotW wd [(s, 1)] = (List.range 6).map fun b => W wd b 0 s := List.map_congr_left fun b _ => by
  unfold wtot
  simp
abbrev spParts (K : PySem.W.Frag) : Sp := sp4 K (fun (one other : Wd) (s b : Nat) => Good one ∧ Good other ∧ 1 ≤ s ∧ s + 2 < 2 ^ 60 ∧ b ≤ 5 ∧ apart one other s b) fun _ _ _ _ => true
section
variable {P : Program} {w : World} {K : PySem.W.Frag} {mg : Str → Option Value} {base : Heap}
theorem c_law_parts (h : Has K mg "_law_parts" d_law_parts) (T : Tx K mg base) (c_law_weighed : Cal P w K mg base "_law_weighed" 8 ["works", "lot"] (spWeighed K)) (c_law_right : Cal P w K mg base "_law_right" 9 ["works", "lot"] (spRight K)) : Cal P w K mg base "_law_parts" 10 ["one", "other", "size", "number"] (spParts K) := by
  refine h.cal sc_law_parts (fun _ _ _ _ _ _ us hl => match us, hl with | [_, _, _, _], _ => rfl) (fun vs H Q E h => ?_) (fun f cdv A outer s0 H vs Q E hr h => ?_)
  · obtain ⟨_, _, _, _, _, _, _, _, _, rfl, _⟩ := h
    rfl
  · obtain ⟨G, v1, v2, v3, v4, one, other, s, b, rfl, gh, r1, r2, r3, r4, ⟨g1, g2, s1, s2, hb, ⟨ap, ea⟩⟩, q⟩ := h
    refine ⟨_, (pss_cons (ps_set (i := 4) sc_law_parts.nd rfl (.inl rfl) (pe_c c_law_weighed (hr.mono (by decide)) (pa_cons (pv 0) (pa_cons (pe_lst (pa_cons (pe_tup (pa_cons (pv 2) (pa_cons pe_int pa_nil))) pa_nil)) pa_nil))))
      (pss_cons (ps_set (i := 5) sc_law_parts.nd rfl (.inl rfl) (pe_c c_law_weighed (hr.mono (by decide)) (pa_cons (pv 1) (pa_cons (pe_lst (pa_cons (pe_tup (pa_cons (pv 2) (pa_cons pe_int pa_nil))) pa_nil)) pa_nil))))
      (pss_cons (ps_if (PW.pt (pw_or (pt_cmpR op_eq (pe_ix (ixL K) (pv 4) (pv 3) (fun _ _ => rfl)) (pe_ix (ixL K) (pv 5) (pv 3) (fun _ _ => rfl)) (nomark _)) (pw_or1 (pt_cmpR (neDK K hr.units) (pe_slice (slK K) (pv 4) po_none (po_some (pv 3))) (pe_slice (slK K) (pv 5) po_none (po_some (pv 3))) (nomark _))))) (pss_one (ps_ret pe_bl)) pss_nil)
      (pss_one (ps_ret (pe_and (pe_c c_law_right (hr.mono (by decide)) (pa_cons (pv 0) (pa_cons (pe_lst (pa_cons (pe_tup (pa_cons (pv 2) (pa_cons pe_int pa_nil))) pa_nil)) pa_nil))) (pe_one (pe_c c_law_right (hr.mono (by decide)) (pa_cons (pv 1) (pa_cons (pe_lst (pa_cons (pe_tup (pa_cons (pv 2) (pa_cons pe_int pa_nil))) pa_nil)) pa_nil)))))))))), ?_⟩
    obtain rfl : v3 = .int (s : Int) := r3
    obtain rfl : v4 = .int (b : Int) := r4
    have lo : lotOk [(s, 1)] := ⟨by simp, fun x hx => by
      rw [List.mem_singleton.mp hx]
      exact ⟨s1, s2⟩⟩
    have lst1 : ∀ {σ : L2.St} {G : Hp}, σ[2]? = some (some (.int (s : Int))) → Ev K (tLst (tCons (tTup (tCons (tVar 2) (tCons (tC (.int 1)) tNil))) tNil)) σ G [(s, 1)] := fun h => ev_lst (el_cons (ev_t2 (ev_var (x := s) rfl h) (ev_n (n := 1))) el_nil) (by simp)
    refine q_set (K := K) gh (ev_as (ev_2 (ev_var r1) (lst1 rfl) ⟨g1, lo⟩) (lotW_one one s)) fun v5 G2 H2 t2 r5 => ?_
    refine q_set (K := K) t2.gh (ev_as (ev_2 (ev_var (Rep.mono t2.gg r2)) (lst1 rfl) ⟨g2, lo⟩) (lotW_one other s)) fun v6 G3 H3 t3 r6 => ?_
    have at_ : ∀ wd : Wd, ((List.range 6).map fun b => W wd b 0 s)[b]? = some (W wd b 0 s) := fun wd => by
      rw [List.getElem?_map, List.getElem?_range (by omega)] <;> rfl
    have cut : ((List.range 6).map fun b => W one b 0 s).take b = ((List.range 6).map fun b => W other b 0 s).take b := by
      refine List.ext_getElem? fun i => ?_
      rw [List.getElem?_take, List.getElem?_take]
      split
      · next hi =>
        rw [List.getElem?_map, List.getElem?_map, List.getElem?_range (by omega)]
        exact congrArg some (ea i hi)
      · rfl
    have ln : ∀ wd : Wd, b ≤ ((List.range 6).map fun b => W wd b 0 s).length := fun wd => by
      rw [List.length_map, List.length_range]
      omega
    have u3 := t2.trans t3
    refine q_when (K := K) t3.gh (et_as (et_or (et_t (ev_eqN (ev_ixN (ev_var (Rep.mono t3.gg r5)) (ev_nI (ev_var (x := b) rfl)) rfl (at_ one)) (ev_ixN (ev_var r6) (ev_nI (ev_var (x := b) rfl)) rfl (at_ other)))) fun _ => et_t (ev_neL (ev_nat_int (ev_as (ev_sl (ev_var (Rep.mono t3.gg r5)) eo_none (eo_some (ev_nI (ev_var (x := b) rfl)))) (cut_to (ln one)))) (ev_nat_int (ev_as (ev_sl (ev_var r6) eo_none (eo_some (ev_nI (ev_var (x := b) rfl)))) (cut_to (ln other)))))) (c := false) (by rw [decide_eq_false ap, cut, decide_eq_true rfl] <;> rfl)) (fun z => by cases z) (fun _ G4 H4 t4 => ?_)
    have u4 := u3.trans t4
    exact s_ret (K := K) t4.gh (ev_andV (ev_2 (ev_var (Rep.mono u4.gg r1)) (lst1 rfl) ⟨g1, lo⟩) fun _ => ev_2 (ev_var (Rep.mono u4.gg r2)) (lst1 rfl) ⟨g2, lo⟩) fun w G5 H5 t5 r5 => q w G5 H5 (u4.trans t5) r5
end
end Mw
namespace Mw
open PySem PySem.Spec PyProof.Rows L2
theorem ea_len0 {K : PySem.W.Frag} {σ : L2.St} {G H : Hp} {i : Nat} {l : List (Nat × Nat)} {L : Addr} (hi : σ[i]? = some (some (.ref L))) (hL : H L = some (.dK (enc encI l))) (gh : Same G H) : EA K (tCB (fun xs H Q => ∃ a kvs, xs = [V.ref a] ∧ H a = some (HO.dK kvs) ∧ Q (V.int (kvs.length : Int)) H) (tCons (tVar i) tNil)) σ G H l.length := fun Q q =>
  ⟨.ref L, hi, L, _, rfl, hL, q _ G H (Stp.refl gh) (by
    unfold enc
    rw [List.length_map] <;> rfl)⟩
theorem ea_dget2 {K : PySem.W.Frag} {σ : L2.St} {G H : Hp} {i j k : Nat} {l : List (Nat × Nat)} {L : Addr} (hi : σ[i]? = some (some (.ref L))) (hj : σ[j]? = some (some (.int (k : Int)))) (hL : H L = some (.dK (enc encI l))) (gh : Same G H) : EA K (tDGet2 (tVar i) (tVar j) (tC (.int 0))) σ G H ((getN l k).getD 0) := fun Q q =>
  ⟨.ref L, hi, L, rfl, .inl ⟨_, .inl hL⟩, .int (k : Int), hj, _, DGet.k (k := .inl (k : Int)) hL, by
    rw [valV_enc]
    refine q _ G H (Stp.refl gh) ?_
    cases getN l k <;> rfl⟩
theorem ea_dgetK {K : PySem.W.Frag} {σ : L2.St} {G H : Hp} {i j k m : Nat} {l : List (Nat × Nat)} {L : Addr} (hi : σ[i]? = some (some (.ref L))) (hj : σ[j]? = some (some (.int (k : Int)))) (hL : H L = some (.dK (enc encI l))) (gh : Same G H) (hm : getN l k = some m) : EA K (tDGet (tVar i) (tVar j)) σ G H m := fun Q q =>
  ⟨.ref L, hi, .int (k : Int), hj, L, encI m, rfl, by
    have := DGet.k (k := .inl (k : Int)) hL
    rw [valV_enc, hm] at this
    exact this, q _ G H (Stp.refl gh) rfl⟩
abbrev spLot (K : PySem.W.Frag) : Sp := spE1 K (fun (cells : List Int) => cells.length ≤ 40) fun _ (lot : List (Nat × Nat)) => lotOk lot
section
variable {P : Program} {w : World} {K : PySem.W.Frag} {mg : Str → Option Value} {base : Heap}
theorem c_law_lot (h : Has K mg "_law_lot" d_law_lot) (T : Tx K mg base) : Cal P w K mg base "_law_lot" 1 ["cells"] (spLot K) := by
  refine h.cal sc_law_lot (fun _ _ _ _ _ _ us hl => match us, hl with | [_], _ => rfl) (fun vs H Q E h => ?_) (fun f cdv A outer s0 H vs Q E hr h => ?_)
  · obtain ⟨_, _, _, rfl, _⟩ := h
    rfl
  · have hu := hu_of hr
    obtain ⟨G, v1, cells, rfl, gh, r1, hl, q⟩ := h
    refine ⟨_, (pss_cons (ps_set (i := 1) sc_law_lot.nd rfl (.inr rfl) pe_dnewK)
      (pss_cons (ps_for PassesOwn.never rfl (pi_list (pv 0)) (pg_name (i := 2) sc_law_lot.nd rfl (.inl rfl)) (pss_cons (ps_set (i := 3) sc_law_lot.nd rfl (.inl rfl) (pe_op op_mod (pv 2) (pe_op op_pow pe_int pe_int)))
      (pss_cons (ps_set (i := 4) sc_law_lot.nd rfl (.inl rfl) (pe_op op_add pe_int (pe_op op_mod (pe_op op_fdiv (pv 3) pe_int) (pe_ix (ixL K) (pe_lst (pa_cons pe_int (pa_cons pe_int (pa_cons pe_int (pa_cons (pe_op op_pow pe_int pe_int) pa_nil))))) (pe_op op_mod (pv 3) pe_int) (fun _ _ => rfl)))))
      (pss_cons (ps_dput hu (pv 1) (pv 4) (pe_op op_add (pe_op op_add (pe_dget2 hu (pv 1) (pv 4) pe_int ⟨rfl, rfl, rfl, rfl⟩) pe_int) (pe_op op_mod (pe_op op_fdiv (pv 3) pe_int) (pe_ix (ixL K) (pe_lst (pa_cons pe_int (pa_cons (pe_op op_pow pe_int pe_int) pa_nil))) (pe_op op_mod (pe_op op_fdiv (pv 3) pe_int) pe_int) (fun _ _ => rfl)))) rfl)
      (pss_one (ps_if (pt_cmpR op_gt (pe_callB call_lenD (by rfl) T.b_len PySem.boot_len (pa_cons (pv 1) pa_nil)) pe_int (nomark _)) (pss_one (ps_expr (pe_dpop1 (pv 1) (pv 4) ⟨rfl, rfl, rfl, rfl⟩))) pss_nil))))))
      (pss_one (ps_ret (pe_lc (own := [("size", 4)]) (g := (gName 4)) (tt := tYes) rfl sc_law_lot.nd (pi_list (pe_callB (sortK K) (by rfl) T.b_sorted (by decide +kernel) (pa_cons (pe_callTy (call_list_dK rfl) (by rfl) T.b_list (by decide +kernel) (pa_cons (pv 1) pa_nil)) pa_nil))) (blkOk_by (N := N_law_lot) (sc := defScope s_law_lot) (by decide +kernel)) (fun _ _ _ _ _ => (pg_name (i := 4) sc_law_lot.nd rfl (Or.inl rfl))) (fun _ _ _ _ _ => pts_nil) (fun _ _ _ _ _ => (pe_tup (pa_cons (pv 4) (pa_cons (pe_dget hu (pv 1) (pv 4) (fun _ _ => rfl)) pa_nil))))))))), ?_⟩
    have nat : ∀ {i : Int} {G' : Hp} {v : V}, 0 ≤ i → rp K G' v i → ∃ n : Nat, i = (n : Int) ∧ rp K G' v n := fun {i G' v} h r => ⟨i.toNat, by omega, by
      have e : i = (i.toNat : Int) := by omega
      rw [e] at r
      exact r⟩
    have dK : ∀ {l : List (Nat × Nat)} (ps : _), HO.dK (enc encI l) ≠ HO.tbl ps := fun ps z => by cases z
    have dX : ∀ {l : List (Nat × Nat)} (f : _), HO.dK (enc encI l) ≠ HO.ext f := fun ps z => by cases z
    refine fun L nL => ?_
    have gL0 := gh.free nL
    have hL0 : (upd H L (.dK (enc encI []))) L = some (.dK (enc encI [])) := upd_same
    refine q_for (K := K) (Stp.raw (K := K) (o := .dK (enc encI [])) gh nL).gh (ev_var r1) fun G2 H2 s2 _ => ⟨fun i σ' H' => ∃ a b c G' held, σ' = [some v1, some (.ref L), a, b, c] ∧ Same G2 G' ∧ Stp K G H G' H' ∧ G' L = none ∧ H' L = some (.dK (enc encI held)) ∧ (held.map (·.1)).Nodup ∧ held.length ≤ i ∧ ∀ k ∈ held.map (·.1), 1 ≤ k ∧ k ≤ 10 ^ 12, ?_, ?_, ?_, ?_⟩
    · obtain ⟨g2, h2⟩ := s2.own gL0 hL0 dK
      exact ⟨none, none, none, G2, [], rfl, Same.refl G2, (Stp.raw gh nL).trans s2, g2, h2, .nil, Nat.le_refl _, fun k hk => by cases hk⟩
    · rintro i σ' H' ⟨_, _, _, G', _, _, sg, st, _⟩
      exact sg.trans st.gh
    · rintro i x v σ' H' hi rx ⟨a, b, c, G', held, rfl, sg, st, gL, hL, nd, hlen, hk⟩
      refine q_set (K := K) st.gh (ev_mod (ev_var (Rep.mono sg rx)) (ev_nI (ev_ten 60 rfl (by decide))) (by decide)) fun v3 G3 H3 s3 r3 => ?_
      obtain ⟨rest, _, r3⟩ := nat (Int.emod_nonneg _ (by decide)) r3
      obtain rfl : v3 = .int (rest : Int) := r3
      obtain ⟨d, hd, d1, d2⟩ : ∃ d, [60, 60, 60, 10 ^ 12][rest % 4]? = some d ∧ 0 < d ∧ d ≤ 10 ^ 12 := by
        have : rest % 4 < 4 := Nat.mod_lt _ (by decide)
        generalize rest % 4 = m at this
        match m, this with
        | 0, _ => exact ⟨60, rfl, by decide, by decide⟩
        | 1, _ => exact ⟨60, rfl, by decide, by decide⟩
        | 2, _ => exact ⟨60, rfl, by decide, by decide⟩
        | 3, _ => exact ⟨10 ^ 12, rfl, by decide, by decide⟩
      obtain ⟨e, he, e1⟩ : ∃ e, [3, 10 ^ 50][rest / 5 % 2]? = some e ∧ 0 < e := by
        have : rest / 5 % 2 < 2 := Nat.mod_lt _ (by decide)
        generalize rest / 5 % 2 = m at this
        match m, this with
        | 0, _ => exact ⟨3, rfl, by decide⟩
        | 1, _ => exact ⟨10 ^ 50, rfl, by decide⟩
      refine q_set (K := K) (x := 1 + rest / 4 % d) s3.gh (ev_addN (ev_n (n := 1)) (ev_modN (ev_divN (ev_var (x := rest) rfl) (ev_n (n := 4)) (by decide) (by decide)) (ev_ixN (j := rest % 4) (l := [60, 60, 60, 10 ^ 12]) (ev_lst (el_cons (ev_n (n := 60)) (el_cons (ev_n (n := 60)) (el_cons (ev_n (n := 60)) (el_cons (ev_ten 12 rfl (by decide)) el_nil)))) (by simp)) (ev_nI (ev_modN (ev_var (x := rest) rfl) (ev_n (n := 4)) (by decide))) rfl hd) d1)) fun v4 G4 H4 s4 r4 => ?_
      have hs : 1 ≤ 1 + rest / 4 % d ∧ 1 + rest / 4 % d ≤ 10 ^ 12 := by
        have := Nat.mod_lt (rest / 4) d1
        omega
      generalize 1 + rest / 4 % d = k at r4 hs
      obtain rfl : v4 = .int (k : Int) := r4
      have t4 := s3.trans s4
      obtain ⟨g4, h4⟩ := t4.own gL hL dK
      have hv : EA K (tOp (rI0 fun i j => V.int (i + j)) (tOp (rI0 fun i j => V.int (i + j)) (tDGet2 (tVar 1) (tVar 4) (tC (V.int 0))) (tC (V.int 1))) (tOp (rI (fun x j => 0 < j) fun i j => V.int (i % j)) (tOp (rI CDiv fun i j => V.int (i / j)) (tVar 3) (tC (V.int 240))) (tOp (rIxL K) (tLst (tCons (tC (V.int 3)) (tCons (tOp (rI CPow fun i j => V.int (i ^ j.toNat)) (tC (V.int 10)) (tC (V.int 50))) tNil))) (tOp (rI (fun x j => 0 < j) fun i j => V.int (i % j)) (tOp (rI CDiv fun i j => V.int (i / j)) (tVar 3) (tC (V.int 5))) (tC (V.int 2)))))) [some v1, some (.ref L), some v, some (.int (rest : Int)), some (.int (k : Int))] G4 H4 ((getN held k).getD 0 + 1 + rest / 240 % e) :=
        ea_add (ea_add (ea_dget2 rfl rfl h4 s4.gh) fun G5 H5 s5 => (ev_n (n := 1)).at_ s5.gh) fun G5 H5 s5 => (ev_modN (ev_divN (ev_var (x := rest) rfl) (ev_n (n := 240)) (by decide) (by decide)) (ev_ixN (j := rest / 5 % 2) (l := [3, 10 ^ 50]) (ev_lst (el_cons (ev_n (n := 3)) (el_cons (ev_ten 50 rfl (by decide)) el_nil)) (by simp)) (ev_nI (ev_modN (ev_divN (ev_var (x := rest) rfl) (ev_n (n := 5)) (by decide) (by decide)) (ev_n (n := 2)) (by decide))) rfl he) e1).at_ s5.gh
      refine hv _ fun v5 G5 H5 s5 r5 => ?_
      generalize (getN held k).getD 0 + 1 + rest / 240 % e = m at r5
      obtain rfl : v5 = encI m := r5
      obtain ⟨g5, h5⟩ := s5.own g4 h4 dK
      have hi40 : i < 40 := Nat.lt_of_lt_of_le (List.getElem?_eq_some_iff.mp hi).1 hl
      refine ⟨.ref L, rfl, .int (k : Int), rfl, L, _, rfl, DPut.k (k := .inl (k : Int)) h5 (sz_lt (by unfold enc; rw [List.length_map]; omega)), ?_⟩
      rw [putK_enc]
      have t5 := ((st.trans t4).trans s5)
      have t6 := t5.put (o := .dK (enc encI (setN held k m))) nL g5 h5 dX dK
      have nd2 := nodup_setN (k := k) (v := m) nd
      have ln2 : (setN held k m).length ≤ i + 1 := by
        have e := congrArg List.length (keys_setN held k m)
        rw [List.length_map] at e
        rw [e]
        split
        · rw [List.length_map]
          omega
        · rw [List.length_append, List.length_map]
          show held.length + 1 ≤ _
          omega
      have hk2 : ∀ j ∈ (setN held k m).map (·.1), 1 ≤ j ∧ j ≤ 10 ^ 12 := fun j hj => by
        rcases mem_key_setN.mp hj with h | h
        · exact hk j h
        · rw [h]
          exact hs
      have gk := getN_of nd2 (mem_setN.mpr (.inr rfl))
      have h6 : (upd H5 L (.dK (enc encI (setN held k m)))) L = some (.dK (enc encI (setN held k m))) := upd_same
      have sg5 := ((sg.trans s3.gg).trans s4.gg).trans s5.gg
      generalize setN held k m = held2 at t6 nd2 ln2 hk2 gk h6
      refine sA_if (K := K) (eta_t (ea_gt (ea_len0 rfl h6 t6.gh) fun G7 H7 s7 => (ev_n (n := 24)).at_ s7.gh)) (fun _ G7 H7 s7 => ?_) (fun _ G7 H7 s7 => ?_)
      · obtain ⟨g7, h7⟩ := s7.own g5 h6 dK
        refine ⟨.ref L, rfl, L, rfl, .inl ⟨_, .inl h7⟩, .int (k : Int), rfl, _, .inl (k : Int), encI m, h7, rfl, by rw [valV_enc, gk] <;> rfl, ?_⟩
        rw [dropK_enc]
        refine ⟨_, _, _, G7, delN held2 k, rfl, sg5.trans s7.gg, (t6.trans s7).put nL g7 h7 dX dK, g7, upd_same, nodup_delN nd2, Nat.le_trans (List.length_filter_le _ _) ln2, fun j hj => ?_⟩
        obtain ⟨y, hy, rfl⟩ := List.mem_map.mp hj
        exact hk2 _ (List.mem_map_of_mem (f := (·.1)) (mem_delN.mp hy).1)
      · obtain ⟨g7, h7⟩ := s7.own g5 h6 dK
        exact ⟨_, _, _, G7, held2, rfl, sg5.trans s7.gg, t6.trans s7, g7, h7, nd2, ln2, hk2⟩
    · rintro σ' H' ⟨a, b, c, G', held, rfl, sg, st, gL, hL, nd, hlen, hk⟩
      have lks : (srt (held.map (·.1))).length = held.length := by rw [(srt_perm _).length_eq, List.length_map]
      refine sA_ret (K := K) (ewa_lcL (fun _ => true) (fun k => (k, (getN held k).getD 0)) (ea_sortedF (ea_listD rfl hL st.gh)) (by omega) (fun _ => rfl) (fun i k v G1 H1 s hk rk => eta_yes s.gh) (fun i k v G1 H1 s hkk rk _ => ?_)).frz fun w G3 H3 s3 r3 => q w G3 H3 _ (st.trans s3) r3 ⟨?_, ?_⟩
      · obtain rfl : v = .int (k : Int) := rk
        refine ea_t2 s.gh ((ev_var (x := k) rfl).at_ s.gh) fun G2 H2 s2 => ?_
        obtain ⟨_, h2⟩ := (s.trans s2).own gL hL dK
        have hk2 : k ∈ held.map (·.1) := (srt_perm _).mem_iff.mp (List.mem_of_getElem? hkk)
        cases gk : getN held k with
        | none => exact absurd hk2 (getN_none.mp gk)
        | some y => exact ea_dgetK rfl rfl h2 s2.gh gk
      · refine Nat.le_trans (fm_len _ _ _) ?_
        omega
      · intro x hx
        obtain ⟨k, h1, _, rfl⟩ := mem_fm.mp hx
        have := hk k ((srt_perm _).mem_iff.mp h1)
        exact ⟨this.1, by show k + 2 < 2 ^ 60; omega⟩
end
end Mw
namespace Mw
open PySem PySem.Spec PyProof.Rows L2
theorem lotW_congr {one other : Wd} {lot : List (Nat × Nat)} (h : ∀ x ∈ lot, ∀ b, b < 6 → W one b 0 x.1 = W other b 0 x.1) : lotW one lot = lotW other lot := List.map_congr_left fun b hb => by
  unfold wtot
  congr 1
  exact List.map_congr_left fun x hx => by rw [h x hx b (List.mem_range.mp hb)]
theorem part_none {one other : Wd} (t : Two one other) (h : IsPart one other none) {s b : Nat} (hs : 1 ≤ s) (hb : b < 6) : W one b 0 s = W other b 0 s := by
  have e := fu_spec (b := b) t
  rw [h b hb] at e
  exact e s hs
theorem part_less {one other : Wd} (t : Two one other) {p : Nat × Nat} (h : IsPart one other (some p)) {s b : Nat} (hs : 1 ≤ s) (hp : s < p.1) (hb : b < 6) : W one b 0 s = W other b 0 s := by
  have e := fu_spec (b := b) t
  cases hf : fu one other b with
  | none =>
    rw [hf] at e
    exact e s hs
  | some q =>
    rw [hf] at e
    have := h.2.2 b q hb hf
    exact e.2.2.2 s hs (by omega)
theorem part_apart {one other : Wd} (t : Two one other) {p : Nat × Nat} (h : IsPart one other (some p)) : 1 ≤ p.1 ∧ p.1 < 2 ^ 50 ∧ apart one other p.1 p.2 := by
  have e := fu_spec (b := p.2) t
  rw [h.2.1] at e
  refine ⟨e.1, e.2.1, e.2.2.1, fun c hc => ?_⟩
  have e2 := fu_spec (b := c) t
  have hc6 : c < 6 := Nat.lt_trans hc h.1
  cases hf : fu one other c with
  | none =>
    rw [hf] at e2
    exact e2 p.1 e.1
  | some q =>
    rw [hf] at e2
    have := h.2.2 c q hc6 hf
    exact e2.2.2.2 p.1 e.1 (by omega)
section
variable {K : PySem.W.Frag} {σ : L2.St} {G H : Hp} {ta tb tc td te : TE} {α β γ δ ε : Type} [Rep α] [Rep β] [Rep γ] [Rep δ] [Rep ε] {x : α} {z : γ} {u : δ}
theorem ev_at {G G2 : Hp} {v : V} (r : rp K G2 v x) : Ev K (tC v) σ G2 x := fun G3 H3 a3 b3 Q3 q3 => q3 v G3 H3 (Stp.refl b3) (Rep.mono a3 r)
theorem ev_addE {Pn : Nat → Prop} {a : Nat} (ha : Ev K ta σ G a) (hb : EvE K tb σ G Pn) : EvE K (tOp (rI0 fun i j => .int (i + j)) ta tb) σ G (fun n => ∃ b, Pn b ∧ n = a + b) := fun G1 H1 s1 s2 Q q =>
  ha G1 H1 s1 s2 _ fun v G2 H2 s r => hb G2 H2 (s1.trans s.gg) s.gh _ fun w G3 H3 b s' r' pb =>
    (ev_addN (σ := σ) (ev_at (G := G3) (Rep.mono s'.gg r)) (ev_at (G := G3) r')) G3 H3 (Same.refl G3) s'.gh Q fun u G4 H4 s4 r4 => q u G4 H4 _ ((s.trans s').trans s4) r4 ⟨b, pb, rfl⟩
theorem ev_divE {Pn : Nat → Prop} {b : Nat} (ha : EvE K ta σ G Pn) (hb : Ev K tb σ G b) (h : 0 < b) (h1 : b < 1073741824) : EvE K (tOp (rI CDiv fun i j => .int (i / j)) ta tb) σ G (fun n => ∃ a, Pn a ∧ n = a / b) := fun G1 H1 s1 s2 Q q =>
  ha G1 H1 s1 s2 _ fun v G2 H2 a s r pa =>
    (ev_divN (σ := σ) (ev_at (G := G2) r) (fun G3 H3 a3 b3 => hb G3 H3 ((s1.trans s.gg).trans a3) b3) h h1) G2 H2 (Same.refl G2) s.gh Q fun u G4 H4 s4 r4 => q u G4 H4 _ (s.trans s4) r4 ⟨a, pa, rfl⟩
theorem ev_E4E {E : XK} {Pb : β → Prop} {pre : α → β → γ → δ → Prop} {R : α → β → γ → δ → ε → Prop} (h1 : Ev K ta σ G x) (h2 : EvE K tb σ G Pb) (h3 : Ev K tc σ G z) (h4 : Ev K td σ G u) (hp : ∀ y, Pb y → pre x y z u) : EvE K (tCall (spE4 K pre R) [] E (tCons ta (tCons tb (tCons tc (tCons td tNil))))) σ G (fun l => ∃ y, Pb y ∧ R x y z u l) := fun G1 H1 a b Q q =>
  h1 G1 H1 a b _ fun v G2 H2 s r => h2 G2 H2 (a.trans s.gg) s.gh _ fun v2 G3 H3 y s2 r2 py => h3 G3 H3 ((a.trans s.gg).trans s2.gg) s2.gh _ fun v3 G4 H4 s3 r3 => h4 G4 H4 (((a.trans s.gg).trans s2.gg).trans s3.gg) s3.gh _ fun v4 G5 H5 s4 r4 =>
    ⟨G5, v, v2, v3, v4, x, y, z, u, rfl, s4.gh, Rep.mono ((s2.gg.trans s3.gg).trans s4.gg) r, Rep.mono (s3.gg.trans s4.gg) r2, Rep.mono s4.gg r3, r4, hp y py, fun w G' H' s0 s' r' hu => q w G' H' s0 ((((s.trans s2).trans s3).trans s4).trans s') r' ⟨y, py, hu⟩⟩
end
theorem cut_len {α : Type} (l : List α) : (cutG l (some 16) (some 56)).length ≤ 40 := by
  have e1 : HT.sIx l.length 0 (some 16) = min 16 l.length := HT.sIx_nat l.length 0 16
  have e2 : HT.sIx l.length l.length (some 56) = min 56 l.length := HT.sIx_nat l.length l.length 56
  unfold cutG
  rw [List.length_take, e1, e2]
  omega
abbrev spLaw (K : PySem.W.Frag) : Sp := fun vs H Q _ => ∃ G v, ∃ (z : Scr), vs = [v] ∧ Same G H ∧ rp K G v z ∧ Tb K G H ∧ ∀ w G' H', Stp K G H G' H' → rp K G' w true → Q w H'
section
variable {P : Program} {w : World} {K : PySem.W.Frag} {mg : Str → Option Value} {base : Heap}
/-- the body's walk, to the function object that is called -/
theorem fnOk_of {f : Addr} {fd : FuncData} {d : He.DefD} {N ps : List Str} {k : Nat} {sp : Sp} (F : FunD K d.name d.qual d.params d.body d.scope [] [] f fd) (S : FnScope N ps d.scope) (len : ∀ vs H Q E, sp vs H Q E → vs.length = ps.length)
    (body : ∀ (cdv : Value) (A : Around) (outer : List Env) (s : Shared) (H : Hp) (vs : List V) (Q : VK) (E : XK), Room k (A.deeper (envOfC d.qual d.scope s.heap.objs.size f cdv)) → sp vs H Q E →
      ∃ t, PSs (cxOf CX0 P w K mg base N d.qual d.scope f cdv A outer s H E).nox d.body t ∧ t { nx := fun _ H' => Q .non H', rt := Q } (start N vs) H) : FnOk P w K mg base CX0 (k + 1) f fd ps sp :=
  F.ok S len fun cdv A outer s H vs Q E hr hsp => by
    obtain ⟨t, h1, h2⟩ := body cdv A outer s H vs Q E hr hsp
    exact ⟨t, h1.nox, h2⟩
theorem c_law {f : Addr} {fd : FuncData} (h : FunD K d_law.name d_law.qual d_law.params d_law.body d_law.scope [] [] f fd) (T : Tx K mg base) (c_law_cell : Cal P w K mg base "_law_cell" 1 ["script", "k"] (spCell K)) (c_law_two : Cal P w K mg base "_law_two" 5 ["script", "many", "most", "crushers"] (spTwo K)) (c_Works_init : CalM P w K mg base (He.ma K (CW K) "__init__") 2 ["self", "parts", "rows"] (spWInit K)) (c_law_lot : Cal P w K mg base "_law_lot" 1 ["cells"] (spLot K)) (c_law_right : Cal P w K mg base "_law_right" 9 ["works", "lot"] (spRight K)) (c_parting_of : Cal P w K mg base "parting_of" 8 ["one", "other"] (spPart K)) (c_law_weighed : Cal P w K mg base "_law_weighed" 8 ["works", "lot"] (spWeighed K)) (c_law_parts : Cal P w K mg base "_law_parts" 10 ["one", "other", "size", "number"] (spParts K)) : FnOk P w K mg base CX0 11 f fd ["script"] (spLaw K) := by
  refine fnOk_of h sc_law (fun vs H Q E h => ?_) (fun cdv A outer s0 H vs Q E hr h => ?_)
  · obtain ⟨_, _, _, rfl, _⟩ := h
    rfl
  · obtain ⟨G, v1, z, rfl, gh, r1, tb, q⟩ := h
    refine ⟨_, (pss_cons (ps_set (i := 1) sc_law.nd rfl (.inl rfl) (pe_op op_add pe_int (pe_op op_mod (pe_c c_law_cell (hr.mono (by decide)) (pa_cons (pv 0) (pa_cons pe_int pa_nil))) pe_int)))
      (pss_cons (ps_set (i := 2) sc_law.nd rfl (.inl rfl) (pe_c c_law_two (hr.mono (by decide)) (pa_cons (pv 0) (pa_cons (pe_op op_add pe_int (pe_op op_mod (pe_op op_fdiv (pe_c c_law_cell (hr.mono (by decide)) (pa_cons (pv 0) (pa_cons pe_int pa_nil))) pe_int) pe_int)) (pa_cons pe_int (pa_cons pe_int pa_nil))))))
      (pss_cons (ps_set (i := 3) sc_law.nd rfl (.inl rfl) (pe_mkC T.mkW T.mgW c_Works_init (hr.mono (by decide)) (pa_cons (pv 1) (pa_cons (pe_callTy (listK K) (by rfl) T.b_list (by decide +kernel) (pa_cons (pe_ix (ixL K) (pv 2) pe_int (fun _ _ => rfl)) pa_nil)) pa_nil))))
      (pss_cons (ps_set (i := 4) sc_law.nd rfl (.inl rfl) (pe_mkC T.mkW T.mgW c_Works_init (hr.mono (by decide)) (pa_cons (pv 1) (pa_cons (pe_callTy (listK K) (by rfl) T.b_list (by decide +kernel) (pa_cons (pe_ix (ixL K) (pv 2) pe_int (fun _ _ => rfl)) pa_nil)) pa_nil))))
      (pss_cons (ps_set (i := 5) sc_law.nd rfl (.inl rfl) (pe_c c_law_lot (hr.mono (by decide)) (pa_cons (pe_slice (slK K) (pv 0) (po_some pe_int) (po_some pe_int)) pa_nil)))
      (pss_cons (ps_if (PW.pt (pw_or (pt_not (pt_val (pe_c c_law_right (hr.mono (by decide)) (pa_cons (pv 3) (pa_cons (pv 5) pa_nil))))) (pw_or1 (pt_not (pt_val (pe_c c_law_right (hr.mono (by decide)) (pa_cons (pv 4) (pa_cons (pv 5) pa_nil)))))))) (pss_one (ps_ret pe_bl)) pss_nil)
      (pss_cons (ps_set (i := 6) sc_law.nd rfl (.inr rfl) (pe_c c_parting_of (hr.mono (by decide)) (pa_cons (pv 3) (pa_cons (pv 4) pa_nil))))
      (pss_cons (ps_if (pt_cmpR op_isN (pv 6) pe_non (nomark _)) (pss_one (ps_ret (pe_cmpR (eqDK K hr.units) (pe_c c_law_weighed (hr.mono (by decide)) (pa_cons (pv 3) (pa_cons (pv 5) pa_nil))) (pe_c c_law_weighed (hr.mono (by decide)) (pa_cons (pv 4) (pa_cons (pv 5) pa_nil))) (nomark _)))) pss_nil)
      (pss_cons (ps_setLc (i := 7) (own := [("pair_of", 8)]) (g := (gName 8)) rfl sc_law.nd  rfl rfl (sw_true rfl rfl rfl (by decide +kernel)) (pi_list (pv 5)) (blkOk_by (N := N_law) (sc := defScope s_law) (by decide +kernel)) (fun _ _ _ _ _ => (pg_name (i := 8) sc_law.nd rfl (Or.inl rfl))) (fun _ _ _ _ _ => pts_one (pt_cmpR op_lt (pe_ix (ixT K) (pv 8) pe_int (fun _ _ => rfl)) (pe_ix (ixT K) (pv 6) pe_int (fun _ _ => rfl)) (nomark _))) (fun _ _ _ _ _ => (pv 8)))
      (pss_cons (ps_if (pt_cmpR (neDK K hr.units) (pe_c c_law_weighed (hr.mono (by decide)) (pa_cons (pv 3) (pa_cons (pv 7) pa_nil))) (pe_c c_law_weighed (hr.mono (by decide)) (pa_cons (pv 4) (pa_cons (pv 7) pa_nil))) (nomark _)) (pss_one (ps_ret pe_bl)) pss_nil)
      (pss_one (ps_ret (pe_c c_law_parts (hr.mono (by decide)) (pa_cons (pv 3) (pa_cons (pv 4) (pa_cons (pe_ix (ixT K) (pv 6) pe_int (fun _ _ => rfl)) (pa_cons (pe_ix (ixT K) (pv 6) pe_int (fun _ _ => rfl)) pa_nil))))))))))))))))), ?_⟩
    refine q_setE (K := K) gh (ev_addE (ev_n (n := 2)) (ev_modE (ev_E2 (ev_var r1) (ev_n (n := 0)) (by decide)) (ev_n (n := 4)) (by decide))) fun v2 G2 H2 p s2 r2 hp => ?_
    have hp : 2 ≤ p ∧ p ≤ 5 := by
      obtain ⟨_, ⟨c, _, rfl⟩, rfl⟩ := hp
      have := Nat.mod_lt c (show 0 < 4 by decide)
      omega
    obtain rfl : v2 = .int (p : Int) := r2
    refine q_setE (K := K) s2.gh (ev_E4E (ev_var (Rep.mono s2.gg r1)) (ev_addE (ev_n (n := 2)) (ev_modE (ev_divE (ev_E2 (ev_var (Rep.mono s2.gg r1)) (ev_n (n := 0)) (by decide)) (ev_n (n := 4)) (by decide) (by decide)) (ev_n (n := 5)) (by decide))) (ev_n (n := 4)) (ev_n (n := 2)) fun y hy => by
      obtain ⟨_, ⟨c, _, rfl⟩, rfl⟩ := hy
      have := Nat.mod_lt c (show 0 < 5 by decide)
      exact ⟨by omega, by omega, by decide, by decide, rfl⟩) fun v3 G3 H3 l s3 r3 hl => ?_
    obtain ⟨_, _, ra, rb, rfl, oa, ob⟩ := hl
    have tw : Two ⟨p, ra⟩ ⟨p, rb⟩ := two_of (c := 0) (oa.mono (n' := 7) (m' := 6) (c' := 2) (by decide) (by decide) (by decide)) ob hp (by decide) (by decide) (by decide)
    have na := oa.nn
    have nb := ob.nn
    refine q_set (K := K) s3.gh (ev_works (p := p) (rows := ra) (ev_var (x := p) rfl) (ev_list (ev_ixN (j := 0) (l := [ra, rb]) (ev_var r3) (ev_i (i := 0)) rfl rfl)) ⟨hp.1, by omega, oa.n1, by omega, oa.ok⟩) fun v4 G4 H4 s4 r4 => ?_
    refine q_set (K := K) s4.gh (ev_works (p := p) (rows := rb) (ev_var (x := p) rfl) (ev_list (ev_ixN (j := 1) (l := [ra, rb]) (ev_var (Rep.mono s4.gg r3)) (ev_i (i := 1)) rfl rfl)) ⟨hp.1, by omega, ob.n1, by omega, ob.ok⟩) fun v5 G5 H5 s5 r5 => ?_
    have r4 := Rep.mono s5.gg r4
    have t5 := (s2.trans s3).trans (s4.trans s5)
    generalize (⟨p, ra⟩ : Wd) = one at tw r4
    generalize (⟨p, rb⟩ : Wd) = other at tw r5
    have g1 := tw.g1
    have g2 := tw.g2
    refine q_setE (K := K) s5.gh (ev_E1 (ev_slS (ev_var (Rep.mono t5.gg r1)) (eo_some (ev_i (i := 16))) (eo_some (ev_i (i := 56)))) (cut_len _)) fun v6 G6 H6 lot s6 r6 ho => ?_
    have t6 := t5.trans s6
    have r4 := Rep.mono s6.gg r4
    have r5 := Rep.mono s6.gg r5
    refine q_when (K := K) s6.gh (et_as (et_or (et_not (et_b (ev_2 (ev_var r4) (ev_var r6) ⟨g1, ho⟩))) fun _ => et_not (et_b (ev_2 (ev_var r5) (ev_var r6) ⟨g2, ho⟩))) (c := false) rfl) (fun z => by cases z) (fun _ G7 H7 s7 => ?_)
    have t7 := t6.trans s7
    have r4 := Rep.mono s7.gg r4
    have r5 := Rep.mono s7.gg r5
    have r6 := Rep.mono s7.gg r6
    refine ⟨v4, rfl, v5, rfl, G7, v4, v5, one, other, rfl, s7.gh, r4, r5, tw, t7.tab tb, fun v7 G8 H8 found s8 r7 hf => ?_⟩
    have t8 := t7.trans s8
    have r4 := Rep.mono s8.gg r4
    have r5 := Rep.mono s8.gg r5
    have r6 := Rep.mono s8.gg r6
    refine q_when (K := K) s8.gh (et_t (ev_isN (ev_var r7))) (fun e G9 H9 s9 => ?_) (fun e G9 H9 s9 => ?_)
    · cases found with
      | some f => cases e
      | none =>
        have r4 := Rep.mono s9.gg r4
        have r5 := Rep.mono s9.gg r5
        have r6 := Rep.mono s9.gg r6
        have eq : lotW one lot = lotW other lot := lotW_congr fun x hx b hb => part_none tw hf (ho.2 x hx).1 hb
        exact s_ret (K := K) (x := true) s9.gh (ev_as (ev_eqL (ev_nat_int (ev_2 (ev_var r4) (ev_var r6) ⟨g1, ho⟩)) (ev_nat_int (ev_2 (ev_var r5) (ev_var r6) ⟨g2, ho⟩))) (decide_eq_true (by rw [eq]))) fun w G' H' s' r' => q w G' H' ((t8.trans s9).trans s') r'
    · cases found with
      | none => cases e
      | some f =>
        have r4 := Rep.mono s9.gg r4
        have r5 := Rep.mono s9.gg r5
        have r6 := Rep.mono s9.gg r6
        have r7 : rp K G9 v7 f := Rep.mono (α := Nat × Nat) s9.gg r7
        have hl := ho.1
        refine q_set (K := K) s9.gh (ev_lcL (fun x : Nat × Nat => decide (x.1 < f.1)) (fun x => x) (ev_var r6) (by omega) (fun _ => rfl) (fun i x v G1 sg hx rx => et_t (ev_ltN (ev_p0 (ev_var rx)) (ev_p0 (ev_var (x := f) (Rep.mono sg r7))))) (fun i x v G1 sg hx rx _ => ev_var rx)) fun v8 G10 H10 s10 r8 => ?_
        rw [fm_id] at r8
        have mem : ∀ x ∈ lot.filter (fun x => decide (x.1 < f.1)), x ∈ lot ∧ x.1 < f.1 := fun x hx => ⟨(List.mem_filter.mp hx).1, of_decide_eq_true (List.mem_filter.mp hx).2⟩
        have hol : lotOk (lot.filter fun x => decide (x.1 < f.1)) := ⟨Nat.le_trans (List.length_filter_le _ _) hl, fun x hx => ho.2 x (mem x hx).1⟩
        generalize lot.filter (fun x => decide (x.1 < f.1)) = less at r8 mem hol
        have r4 := Rep.mono s10.gg r4
        have r5 := Rep.mono s10.gg r5
        have eq : lotW one less = lotW other less := lotW_congr fun x hx b hb => part_less tw hf (hol.2 x hx).1 (mem x hx).2 hb
        refine q_when (K := K) s10.gh (et_as (et_t (ev_neL (ev_nat_int (ev_2 (ev_var r4) (ev_var r8) ⟨g1, hol⟩)) (ev_nat_int (ev_2 (ev_var r5) (ev_var r8) ⟨g2, hol⟩)))) (c := false) (by rw [eq, decide_eq_true rfl] <;> rfl)) (fun z => by cases z) (fun _ G11 H11 s11 => ?_)
        have r4 := Rep.mono s11.gg r4
        have r5 := Rep.mono s11.gg r5
        have r7 := Rep.mono (s10.trans s11).gg r7
        obtain ⟨p1, p2, pa⟩ := part_apart tw hf
        have hb := hf.1
        exact s_ret (K := K) s11.gh (ev_4 (ev_var r4) (ev_var r5) (ev_p0 (ev_var (x := f) r7)) (ev_p1 (ev_var (x := f) r7)) ⟨g1, g2, p1, by omega, by omega, pa⟩) fun w G' H' s' r' => q w G' H' (((t8.trans s9).trans (s10.trans s11)).trans s') r'
end
end Mw
namespace Mw
open PySem PySem.Spec PyProof.Rows L2
set_option maxHeartbeats 0
/-! ### the head: what is asked of it, its run -/
def fnL : List He.DefD := [d_good_row, d_Works_init, d_pieces_of, d_goes_on, d_whole_to, d_ring_from, d_sizes_looked, d_ring_of, d_greatest_part, d_lowered, d_first_place, d_rest_of, d_is_sum, d_widened, d_own_weight, d_weight_in, d_laid_weight, d_weights_upto, d_weights_from, d_lot_weights, d_crushers_of, d_openings_of, d_height_of, d_check_two, d_far_goal, d_far_pair, d_next_tail, d_first_tails, d_behind_tail, d_told_tails, d_parted_low, d_same_far, d_first_unlike, d_parting_of, d_rising, d_Flow_init, d_Flow_put, d_Flow_take_all, d_Flow_go_size, d_Flow_go, d_Flow_told, d_laid_on, d_worked, d_law_cell, d_law_row, d_law_end, d_law_stuck, d_law_forward, d_law_rows, d_law_renamed, d_law_redirected, d_law_nearly, d_law_beside, d_law_two, d_law_lot, d_law_weighed, d_law_right, d_law_parts, d_law]
def faL0 : List He.Fa := [.glo "good_row", .glo "Works", .glo "pieces_of", .glo "goes_on", .glo "whole_to", .glo "ring_from", .glo "sizes_looked", .glo "ring_of", .glo "greatest_part", .glo "lowered", .glo "first_place", .glo "rest_of", .glo "is_sum", .glo "widened", .glo "own_weight", .glo "weight_in", .glo "laid_weight", .glo "weights_upto", .glo "weights_from", .glo "lot_weights", .glo "crushers_of", .glo "openings_of", .glo "height_of", .glo "check_two", .glo "far_goal", .glo "far_pair", .glo "next_tail", .glo "first_tails", .glo "behind_tail", .glo "told_tails", .glo "parted_low", .glo "same_far", .glo "first_unlike", .glo "parting_of", .glo "rising", .glo "Flow", .glo "laid_on", .glo "worked", .glo "_law_cell", .glo "_law_row"]
def faL1 : List He.Fa := [.glo "_law_end", .glo "_law_stuck", .glo "_law_forward", .glo "_law_rows", .glo "_law_renamed", .glo "_law_redirected", .glo "_law_nearly", .glo "_law_beside", .glo "_law_two", .glo "_law_lot", .glo "_law_weighed", .glo "_law_right", .glo "_law_parts", .glo "law", .free "len", .free "range", .free "sorted", .free "list", .free "dict", .free "sum", .free "min", .free "max", .free "abs", .free "enumerate", .free "int", .int "MOST_ROWS" (12), .int "MOST_PARTS" (9), .int "MOST_BIN" (5), .int "WIDEST_works" (10 ^ 60), .int "MOST_CRUSHERS" (4), .int "WIDEST_alike" (20), .cls "Works", .cls "Flow", .noat "Works" "parts", .noat "Works" "rows", .noat "Flow" "works", .noat "Flow" "sizes", .noat "Flow" "done", .noat "Flow" "kept", .meth "Flow" "put"]
def faL2 : List He.Fa := [.meth "Flow" "take_all", .meth "Flow" "go_size", .meth "Flow" "go", .meth "Flow" "told", .mkr "Works", .mkr "Flow"]
def faL : List He.Fa := faL0 ++ faL1 ++ faL2
def looseL0 : List Str := [("MeshError" : Str), ("BadWorks" : Str), ("Stuck" : Str), ("TooMany" : Str), ("TooWide" : Str), ("Unlike" : Str), ("MOST_ROWS" : Str), ("MOST_PARTS" : Str), ("MOST_BIN" : Str), ("WIDEST_works" : Str), ("good_row" : Str), ("Works" : Str), ("pieces_of" : Str), ("goes_on" : Str), ("whole_to" : Str), ("ring_from" : Str), ("sizes_looked" : Str), ("ring_of" : Str), ("greatest_part" : Str), ("lowered" : Str), ("first_place" : Str), ("rest_of" : Str), ("is_sum" : Str), ("widened" : Str), ("own_weight" : Str), ("weight_in" : Str), ("laid_weight" : Str), ("weights_upto" : Str), ("weights_from" : Str), ("lot_weights" : Str), ("MOST_CRUSHERS" : Str), ("WIDEST_alike" : Str), ("crushers_of" : Str), ("openings_of" : Str), ("height_of" : Str)]
def looseL1 : List Str := [("check_two" : Str), ("far_goal" : Str), ("far_pair" : Str), ("next_tail" : Str), ("first_tails" : Str), ("behind_tail" : Str), ("told_tails" : Str), ("parted_low" : Str), ("same_far" : Str), ("first_unlike" : Str), ("parting_of" : Str), ("rising" : Str), ("Flow" : Str), ("laid_on" : Str), ("worked" : Str), ("_law_cell" : Str), ("_law_row" : Str), ("_law_end" : Str), ("_law_stuck" : Str), ("_law_forward" : Str), ("_law_rows" : Str), ("_law_renamed" : Str), ("_law_redirected" : Str), ("_law_nearly" : Str), ("_law_beside" : Str), ("_law_two" : Str), ("_law_lot" : Str), ("_law_weighed" : Str), ("_law_right" : Str), ("_law_parts" : Str)]
def looseL : List Str := looseL0 ++ looseL1
def tabL : List He.Defn := [("told_tails", none)]
def noMore (_ : PySem.W.Frag) : Bool := true
abbrev RwL : PySem.W.OpenRow := PySem.W.OpenLaw.row PySem.Challenge.rw_meshworks_k93_whole_parted_works_part_lo
abbrev hkL : PySem.W.Hook := He.hookX 6 faL fnL [] tabL noMore
def obL (s : PySem.W.SharedT) : He.AlX := He.obsX 6 faL fnL [] tabL noMore (HandSHeadRun.getT s)
theorem obL_eq (s : PySem.W.SharedT) : obL s = hkL.obs s.abs := He.obsX_eq (HandSHeadRun.getT_eq s)
theorem runL (w : World) : HandSHeadRun.RunEq RwL (PySem.W.view RwL.prog [74]) hkL obL 6000 looseL w := by
  intro os
  kernel_rfl
/-! ### what it tells -/
section
variable {w : World} {K : PySem.W.Frag} {h : Heap} {mg : Str → Option Value} {d : He.DefD} {x : Str}
theorem has_at (c : He.SaysD faL fnL K) (X : K.In h) (G : h.Ns mainGlobals mg) (i j : Nat) (hi : fnL[i]? = some d) (hj : faL[j]? = some (.glo x)) (e : He.fAd K d.at_ = He.ga K x) (e1 : d.dfl = []) (e2 : d.kwd = []) : Has K mg x d := by
  obtain ⟨fd, F⟩ := c.def_ i hi
  have f1 : d.dvs K = [] := by
    unfold He.DefD.dvs
    rw [e1] <;> rfl
  have f2 : d.kws K = [] := by
    unfold He.DefD.kws
    rw [e2] <;> rfl
  rw [f1, f2] at F
  exact ⟨_, fd, F, by rw [e]; exact He.glo_ok X G (c.fact j hj)⟩
theorem hasT_at (c : He.SaysD faL fnL K) (X : K.In h) (G : h.Ns mainGlobals mg) (i j : Nat) (hi : fnL[i]? = some d) (hj : faL[j]? = some (.glo x)) (e : He.fAd K d.at_ = He.ga K x) (e1 : d.dfl = []) (e2 : d.kwd = []) : HasT K mg x d := by
  obtain ⟨fd, F⟩ := c.def_ i hi
  have f1 : d.dvs K = [] := by
    unfold He.DefD.dvs
    rw [e1] <;> rfl
  have f2 : d.kws K = [] := by
    unfold He.DefD.kws
    rw [e2] <;> rfl
  rw [f1, f2] at F
  exact ⟨fd, F, by rw [e]; exact He.glo_ok X G (c.fact j hj)⟩
theorem hasM_at {C : Addr} (c : He.SaysD faL fnL K) (i : Nat) (hi : fnL[i]? = some d) (e : He.fAd K d.at_ = He.ma K C d.name) (e1 : d.dfl = []) (e2 : d.kwd = []) : HasM K C d := by
  obtain ⟨fd, F⟩ := c.def_ i hi
  have f1 : d.dvs K = [] := by
    unfold He.DefD.dvs
    rw [e1] <;> rfl
  have f2 : d.kws K = [] := by
    unfold He.DefD.kws
    rw [e2] <;> rfl
  rw [f1, f2, e] at F
  exact ⟨fd, F⟩
theorem tx_of {base : Heap} (c : He.SaysD faL fnL K) (X : K.In h) (G : h.Ns mainGlobals mg) (tb : LamX.TabB base mg (He.cT K ("told_tails", none)).1 (ptOf K)) : Tx K mg base where
  b_len := He.free_ok X G (c.fact 54 (f := .free "len") rfl)
  b_range := He.free_ok X G (c.fact 55 (f := .free "range") rfl)
  b_sorted := He.free_ok X G (c.fact 56 (f := .free "sorted") rfl)
  b_list := He.free_ok X G (c.fact 57 (f := .free "list") rfl)
  b_dict := He.free_ok X G (c.fact 58 (f := .free "dict") rfl)
  b_sum := He.free_ok X G (c.fact 59 (f := .free "sum") rfl)
  b_min := He.free_ok X G (c.fact 60 (f := .free "min") rfl)
  b_max := He.free_ok X G (c.fact 61 (f := .free "max") rfl)
  b_abs := He.free_ok X G (c.fact 62 (f := .free "abs") rfl)
  b_enumerate := He.free_ok X G (c.fact 63 (f := .free "enumerate") rfl)
  b_int := He.free_ok X G (c.fact 64 (f := .free "int") rfl)
  k_MOST_ROWS := He.int_ok X G (c.fact 65 (f := .int "MOST_ROWS" (12)) rfl)
  k_MOST_PARTS := He.int_ok X G (c.fact 66 (f := .int "MOST_PARTS" (9)) rfl)
  k_MOST_BIN := He.int_ok X G (c.fact 67 (f := .int "MOST_BIN" (5)) rfl)
  k_WIDEST_works := He.int_ok X G (c.fact 68 (f := .int "WIDEST_works" (10 ^ 60)) rfl)
  k_MOST_CRUSHERS := He.int_ok X G (c.fact 69 (f := .int "MOST_CRUSHERS" (4)) rfl)
  k_WIDEST_alike := He.int_ok X G (c.fact 70 (f := .int "WIDEST_alike" (20)) rfl)
  clW := He.cls_ok (c.fact 71 (f := .cls "Works") rfl)
  clF := He.cls_ok (c.fact 72 (f := .cls "Flow") rfl)
  mkW := He.mkr_ok (c.fact 84 (f := .mkr "Works") rfl)
  mkF := He.mkr_ok (c.fact 85 (f := .mkr "Flow") rfl)
  mgW := He.glo_ok X G (c.fact 1 (f := .glo "Works") rfl)
  mgF := He.glo_ok X G (c.fact 35 (f := .glo "Flow") rfl)
  nW_parts := He.noat_ok (c.fact 73 (f := .noat "Works" "parts") rfl)
  nW_rows := He.noat_ok (c.fact 74 (f := .noat "Works" "rows") rfl)
  nF_works := He.noat_ok (c.fact 75 (f := .noat "Flow" "works") rfl)
  nF_sizes := He.noat_ok (c.fact 76 (f := .noat "Flow" "sizes") rfl)
  nF_done := He.noat_ok (c.fact 77 (f := .noat "Flow" "done") rfl)
  nF_kept := He.noat_ok (c.fact 78 (f := .noat "Flow" "kept") rfl)
  mF_put := He.meth_ok (c.fact 79 (f := .meth "Flow" "put") rfl)
  mF_take_all := He.meth_ok (c.fact 80 (f := .meth "Flow" "take_all") rfl)
  mF_go_size := He.meth_ok (c.fact 81 (f := .meth "Flow" "go_size") rfl)
  mF_go := He.meth_ok (c.fact 82 (f := .meth "Flow" "go") rfl)
  mF_told := He.meth_ok (c.fact 83 (f := .meth "Flow" "told") rfl)
  tab := tb
theorem law_ok {P : Program} {base : Heap} {f : Addr} {fd : FuncData} (c : He.SaysD faL fnL K) (X : K.In h) (G : h.Ns mainGlobals mg) (tb : LamX.TabB base mg (He.cT K ("told_tails", none)).1 (ptOf K)) (F : FunD K d_law.name d_law.qual d_law.params d_law.body d_law.scope [] [] f fd) : FnOk P w K mg base CX0 11 f fd ["script"] (spLaw K) := by
  have T := tx_of c X G tb
  have k_pieces_of := c_pieces_of (P := P) (w := w) (base := base) (has_at c X G 2 2 rfl rfl rfl rfl rfl) T
  have k_goes_on := c_goes_on (P := P) (w := w) (base := base) (has_at c X G 3 3 rfl rfl rfl rfl rfl) T k_pieces_of
  have k_good_row := c_good_row (P := P) (w := w) (base := base) (has_at c X G 0 0 rfl rfl rfl rfl rfl) T
  have k_Works_init := c_Works_init (P := P) (w := w) (base := base) (hasM_at c 1 rfl rfl rfl rfl) T k_good_row
  have k_whole_to := c_whole_to (P := P) (w := w) (base := base) (has_at c X G 4 4 rfl rfl rfl rfl rfl) T k_goes_on
  have k_ring_from := c_ring_from (P := P) (w := w) (base := base) (has_at c X G 5 5 rfl rfl rfl rfl rfl) T k_whole_to
  have k_sizes_looked := c_sizes_looked (P := P) (w := w) (base := base) (has_at c X G 6 6 rfl rfl rfl rfl rfl) T
  have k_ring_of := c_ring_of (P := P) (w := w) (base := base) (has_at c X G 7 7 rfl rfl rfl rfl rfl) T k_sizes_looked k_ring_from
  have k_crushers_of := c_crushers_of (P := P) (w := w) (base := base) (has_at c X G 20 20 rfl rfl rfl rfl rfl) T
  have k_openings_of := c_openings_of (P := P) (w := w) (base := base) (has_at c X G 21 21 rfl rfl rfl rfl rfl) T
  have k_height_of := c_height_of (P := P) (w := w) (base := base) (has_at c X G 22 22 rfl rfl rfl rfl rfl) T k_openings_of
  have k_check_two := c_check_two (P := P) (w := w) (base := base) (has_at c X G 23 23 rfl rfl rfl rfl rfl) T k_ring_of k_crushers_of k_height_of
  have k_own_weight := c_own_weight (P := P) (w := w) (base := base) (has_at c X G 14 14 rfl rfl rfl rfl rfl) T
  have k_laid_weight := c_laid_weight (P := P) (w := w) (base := base) (has_at c X G 16 16 rfl rfl rfl rfl rfl) T k_goes_on k_own_weight
  have k_weights_upto := c_weights_upto (P := P) (w := w) (base := base) (has_at c X G 17 17 rfl rfl rfl rfl rfl) T k_laid_weight
  have k_weight_in := c_weight_in (P := P) (w := w) (base := base) (has_at c X G 15 15 rfl rfl rfl rfl rfl) T k_goes_on k_own_weight
  have k_weights_from := c_weights_from (P := P) (w := w) (base := base) (has_at c X G 18 18 rfl rfl rfl rfl rfl) T k_weight_in
  have k_lot_weights := c_lot_weights (P := P) (w := w) (base := base) (has_at c X G 19 19 rfl rfl rfl rfl rfl) T k_weights_from
  have k_greatest_part := c_greatest_part (P := P) (w := w) (base := base) (has_at c X G 8 8 rfl rfl rfl rfl rfl) T
  have k_lowered := c_lowered (P := P) (w := w) (base := base) (has_at c X G 9 9 rfl rfl rfl rfl rfl) T k_greatest_part
  have k_first_place := c_first_place (P := P) (w := w) (base := base) (has_at c X G 10 10 rfl rfl rfl rfl rfl) T
  have k_rest_of := c_rest_of (P := P) (w := w) (base := base) (has_at c X G 11 11 rfl rfl rfl rfl rfl) T k_lowered
  have k_is_sum := c_is_sum (P := P) (w := w) (base := base) (has_at c X G 12 12 rfl rfl rfl rfl rfl) T k_first_place k_rest_of
  have k_widened := c_widened (P := P) (w := w) (base := base) (has_at c X G 13 13 rfl rfl rfl rfl rfl) T k_rest_of k_first_place k_lowered
  have k_far_goal := c_far_goal (P := P) (w := w) (base := base) (has_at c X G 24 24 rfl rfl rfl rfl rfl) T
  have k_far_pair := c_far_pair (P := P) (w := w) (base := base) (has_at c X G 25 25 rfl rfl rfl rfl rfl) T k_far_goal k_crushers_of
  have k_next_tail := c_next_tail (P := P) (w := w) (base := base) (has_at c X G 26 26 rfl rfl rfl rfl rfl) T k_crushers_of k_far_pair
  have k_behind_tail := c_behind_tail (P := P) (w := w) (base := base) (has_at c X G 28 28 rfl rfl rfl rfl rfl) T k_next_tail
  have k_same_far := c_same_far (P := P) (w := w) (base := base) (has_at c X G 31 31 rfl rfl rfl rfl rfl) T k_crushers_of k_far_pair
  have k_parted_low := c_parted_low (P := P) (w := w) (base := base) (has_at c X G 30 30 rfl rfl rfl rfl rfl) T k_height_of k_weights_upto
  have k_first_tails := c_first_tails (P := P) (w := w) (base := base) (has_at c X G 27 27 rfl rfl rfl rfl rfl) T k_height_of k_weights_upto k_crushers_of
  have k_told_tails := c_told_tails (P := P) (w := w) (base := base) (hasT_at c X G 29 29 rfl rfl rfl rfl rfl) T k_first_tails k_is_sum k_widened k_behind_tail
  have k_first_unlike := c_first_unlike (P := P) (w := w) (base := base) (has_at c X G 32 32 rfl rfl rfl rfl rfl) T k_parted_low k_told_tails k_same_far
  have k_parting_of := c_parting_of (P := P) (w := w) (base := base) (has_at c X G 33 33 rfl rfl rfl rfl rfl) T k_check_two k_first_unlike
  have k_Flow_put := c_Flow_put (P := P) (w := w) (base := base) (hasM_at c 36 rfl rfl rfl rfl) T
  have k_Flow_take_all := c_Flow_take_all (P := P) (w := w) (base := base) (hasM_at c 37 rfl rfl rfl rfl) T k_goes_on k_Flow_put
  have k_Flow_go_size := c_Flow_go_size (P := P) (w := w) (base := base) (hasM_at c 38 rfl rfl rfl rfl) T k_Flow_take_all
  have k_Flow_go := c_Flow_go (P := P) (w := w) (base := base) (hasM_at c 39 rfl rfl rfl rfl) T k_Flow_go_size
  have k_rising := c_rising (P := P) (w := w) (base := base) (has_at c X G 34 34 rfl rfl rfl rfl rfl) T
  have k_Flow_told := c_Flow_told (P := P) (w := w) (base := base) (hasM_at c 40 rfl rfl rfl rfl) T k_rising
  have k_Flow_init := c_Flow_init (P := P) (w := w) (base := base) (hasM_at c 35 rfl rfl rfl rfl) T
  have k_laid_on := c_laid_on (P := P) (w := w) (base := base) (has_at c X G 41 36 rfl rfl rfl rfl rfl) T k_ring_of k_Flow_init k_Flow_put k_Flow_go k_Flow_told
  have k_worked := c_worked (P := P) (w := w) (base := base) (has_at c X G 42 37 rfl rfl rfl rfl rfl) T k_laid_on
  have k_law_cell := c_law_cell (P := P) (w := w) (base := base) (has_at c X G 43 38 rfl rfl rfl rfl rfl) T
  have k_law_row := c_law_row (P := P) (w := w) (base := base) (has_at c X G 44 39 rfl rfl rfl rfl rfl) T
  have k_law_end := c_law_end (P := P) (w := w) (base := base) (has_at c X G 45 40 rfl rfl rfl rfl rfl) T
  have k_law_stuck := c_law_stuck (P := P) (w := w) (base := base) (has_at c X G 46 41 rfl rfl rfl rfl rfl) T k_law_end
  have k_law_forward := c_law_forward (P := P) (w := w) (base := base) (has_at c X G 47 42 rfl rfl rfl rfl rfl) T
  have k_law_rows := c_law_rows (P := P) (w := w) (base := base) (has_at c X G 48 43 rfl rfl rfl rfl rfl) T k_law_cell k_law_row k_law_stuck k_law_forward
  have k_law_redirected := c_law_redirected (P := P) (w := w) (base := base) (has_at c X G 50 45 rfl rfl rfl rfl rfl) T
  have k_law_nearly := c_law_nearly (P := P) (w := w) (base := base) (has_at c X G 51 46 rfl rfl rfl rfl rfl) T k_law_stuck
  have k_law_renamed := c_law_renamed (P := P) (w := w) (base := base) (has_at c X G 49 44 rfl rfl rfl rfl rfl) T
  have k_law_beside := c_law_beside (P := P) (w := w) (base := base) (has_at c X G 52 47 rfl rfl rfl rfl rfl) T k_law_renamed k_law_nearly k_law_redirected
  have k_law_two := c_law_two (P := P) (w := w) (base := base) (has_at c X G 53 48 rfl rfl rfl rfl rfl) T k_law_cell k_law_rows k_law_beside
  have k_law_weighed := c_law_weighed (P := P) (w := w) (base := base) (has_at c X G 55 50 rfl rfl rfl rfl rfl) T k_worked
  have k_law_right := c_law_right (P := P) (w := w) (base := base) (has_at c X G 56 51 rfl rfl rfl rfl rfl) T k_lot_weights k_law_weighed
  have k_law_parts := c_law_parts (P := P) (w := w) (base := base) (has_at c X G 57 52 rfl rfl rfl rfl rfl) T k_law_weighed k_law_right
  have k_law_lot := c_law_lot (P := P) (w := w) (base := base) (has_at c X G 54 49 rfl rfl rfl rfl rfl) T
  exact c_law F T k_law_cell k_law_two k_Works_init k_law_lot k_law_right k_parting_of k_law_weighed k_law_parts
end
/-- where the law begins: the table is tracked, nothing is written in it -/
theorem begin_law {K : PySem.W.Frag} {H : Hp} {a : Addr} {ns : List Int} (hT : H (ptOf K) = some (.tbl #[])) (hS : SqL K H a (ns.map V.int)) : spLaw K [.ref a] H (fun v _ => v = .bl true) fun _ _ _ => False := by
  have nP : ∀ {o : HO} {b : Addr}, H b = some o → (∀ ps, o ≠ .tbl ps) → b ≠ ptOf K := fun {o b} e n z => by
    rw [z, hT] at e
    exact n _ (Option.some.inj e).symm
  refine ⟨fun b => if b = ptOf K then none else H b, .ref a, ⟨ns⟩, rfl, fun b u e => ?_, ⟨a, rfl, ?_⟩, ⟨⟨#[], hT, ?_, fun pos cv z => ?_⟩, if_pos rfl⟩, fun w G' H' s r => r⟩
  · have e : (if b = ptOf K then none else H b) = some u := e
    by_cases z : b = ptOf K
    · rw [if_pos z] at e
      cases e
    · rw [if_neg z] at e
      exact e
  · rcases hS with (e | ⟨o, e⟩) | k
    · exact .inl (.inl (by
        show (if a = ptOf K then none else H a) = _
        rw [if_neg (nP e fun _ z => by cases z)]
        exact e))
    · exact .inl (.inr ⟨o, by
        show (if a = ptOf K then none else H a) = _
        rw [if_neg (nP e fun _ z => by cases z)]
        exact e⟩)
    · exact .inr k
  · exact trivial
  · cases z
theorem law_at {w : World} {K : PySem.W.Frag} {h : Heap} {mg : Str → Option Value} {fa : Addr} (X : K.In h) (G : h.Ns mainGlobals mg) (hfa : mg ("law" : Str) = some (.ref fa)) (c : He.SaysX faL fnL [] tabL noMore w h K) :
    LamX.LawAtS PySem.Challenge.rw_meshworks_k93_whole_parted_works_part_lo w K CX0 11 63 "script" mg fa h := by
  have cd : He.SaysD faL fnL K := He.SaysT.d c.t
  obtain ⟨fd, F⟩ := cd.def_ 58 (d := d_law) rfl
  have e := hfa.symm.trans (He.glo_ok X G (cd.fact 53 (f := .glo "law") rfl))
  cases e
  have b := FunD.bindsA (ps := ["script"]) F fun _ _ _ _ _ _ us hl => match us, hl with | [_], _ => rfl
  refine ⟨fd, tabL.map (He.cT K), spLaw K, fun p hp => ?_, fun p hp => ?_, fun p hp => ?_, fun s u => b s [u] rfl, fun H a ns hl hb hT hS => ?_, fun base hB nB hT => ?_⟩
  · obtain ⟨q, hq, rfl⟩ := List.mem_map.mp hp
    exact c.empty q hq
  · obtain ⟨q, hq, rfl⟩ := List.mem_map.mp hp
    exact c.out q hq
  · obtain ⟨q, hq, rfl⟩ := List.mem_map.mp hp
    exact PySem.W.codeHd_of_K X (c.hd q hq)
  · exact begin_law (hT _ (List.mem_map_of_mem List.mem_cons_self)) hS
  · exact law_ok cd X G (hT _ (List.mem_map_of_mem List.mem_cons_self)) F
end Mw
open PySem PySem.W PySem.Calls PyProof.Rows
theorem PySem.Challenge.cw_meshworks_k93_whole_parted_works_part_lo_holds : PySem.Challenge.rw_meshworks_k93_whole_parted_works_part_lo.Holds := by
  w_on; o_law
  refine HandSHeadRun.head_any (r := OpenLaw.row PySem.Challenge.rw_meshworks_k93_whole_parted_works_part_lo) (q := view (OpenLaw.row PySem.Challenge.rw_meshworks_k93_whole_parted_works_part_lo).prog [74]) (H := Mw.hkL) (ob := Mw.obL) (M := 6000) (loose := Mw.looseL)
    (d := HandSHeadRun.topDef (OpenLaw.row PySem.Challenge.rw_meshworks_k93_whole_parted_works_part_lo).prog 74) (kwd := []) Mw.obL_eq (by kernel_rfl) (fun s => by kernel_rfl) Mw.runL
    (by kernel_rfl) (by kernel_rfl) (by kernel_rfl) (by rfl) (by first | assumption | decide +kernel) (by decide +kernel) ⟨rfl, rfl, rfl, rfl, rfl, by decide +kernel⟩ ?hw ?hc
  case hw => w_witness2
  case hc =>
    refine LamX.walk_ofTsE (l := PySem.Challenge.rw_meshworks_k93_whole_parted_works_part_lo) (n := 63) (k := 11) (x := "script") (CX := fun _ => L2.CX0) rfl (by decide) (by kernel_rfl) ⟨rfl, by decide, by decide⟩ ?F (fun _ _ _ _ _ z => z)
    intro w mg fa h Y G hmg0
    obtain ⟨K, KX, c⟩ := Y
    have hmg : mg ("law" : PySem.Str) = some (.ref fa) := by
      have e : (HandSHeadRun.topDef (OpenLaw.row PySem.Challenge.rw_meshworks_k93_whole_parted_works_part_lo).prog 74).name = ("law" : PySem.Str) := by kernel_rfl
      rw [← e]
      exact hmg0
    exact ⟨K, KX, Mw.law_at KX G hmg c⟩
