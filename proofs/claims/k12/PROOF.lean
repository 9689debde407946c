import PyProof.Rows.All
import Wide.All
import OpenK.AllK
import Wide.FinOn
import HandS.ForMost
import HandS.ForExc
import HandS.Defaults
import HandS.Flow
import HandS.IsInst
import HandS.Deep
import HandS.Conv
import HandS.RevTup
import HandS.Rev
import PyProof.ListRange
import HandS.TupAny
import HandS.TupMul
import HandS.TupLe
import HandS.Style
import HandS.Wide
import HandS.SortInts
import KE.LtData
import KE.SortData
import HandS.Zip
import HandS.ExcIs
import HandS.HotCalls
import HandS.HeadHook1
import HandS.Dict
import HandS.Head0
import HandS.Head1
import HandS.Head2
import HandS.HeadEnd
import HandS.HeadHook2
import HandS.WordsExc
import HandS.SetFor
import HandS.Strs
import PyProof.Rows.SetFrom
import HandS.Iter
import HandS.Star
import PySem.Challenge.RW_borderward_k12_whole_trips_past_posts
set_option Elab.async false
set_option linter.all false
set_option maxRecDepth 100000
set_option maxHeartbeats 2000000
/-! NL1: plain data over the hand layer: values as PyData, lists that are owned by one slot, results of a step, the judgements. -/
namespace L2
namespace NL
open PySem PySem.Spec PyProof.Rows

/-- what a slot holds: a value; a list of its own; a list lent by the caller; the script -/
inductive Sl where
  | val (d : PyData) | own (xs : List PyData) | lent (xs : List PyData) | scr (xs : List PyData)
def Sl.held : Sl → Bool
  | .own _ => true
  | .lent _ => true
  | _ => false
abbrev NSt := List (Option Sl)
abbrev Fz := Addr → Prop

/-- a key as data -/
def keyD : Key → PyData
  | .inl i => .int i
  | .inr x => .str x
mutual
def Rep (K : PySem.W.Frag) (H : Hp) (F : Fz) : PyData → V → Prop
  | .none, v => v = .non
  | .bool b, v => v = .bl b
  | .int i, v => v = .int i
  | .str x, v => v = .str x
  | .list ds, v => ∃ a xs, v = .ref a ∧ F a ∧ H a = some (.lst xs) ∧ Reps K H F ds xs
  | .tuple ds, v => ∃ a xs, v = .ref a ∧ ((F a ∧ H a = some (.tup xs)) ∨ ∀ H', SqT K H' a xs) ∧ Reps K H F ds xs
  | .dict kvs, v => ∃ (a : Addr) (ws : List V), v = .ref a ∧ F a ∧ (∃ (o : Obj) (kx : List (Key × V)), H a = some (.frz o (.dK kx)) ∧ kvs.map (·.1) = kx.map (fun p => keyD p.1) ∧ ws = kx.map (·.2)) ∧ RepsP K H F kvs ws
def Reps (K : PySem.W.Frag) (H : Hp) (F : Fz) : List PyData → List V → Prop
  | [], xs => xs = []
  | d :: ds, xs => ∃ v vs, xs = v :: vs ∧ Rep K H F d v ∧ Reps K H F ds vs
def RepsP (K : PySem.W.Frag) (H : Hp) (F : Fz) : List (PyData × PyData) → List V → Prop
  | [], xs => xs = []
  | p :: ds, xs => ∃ v vs, xs = v :: vs ∧ RepP K H F p v ∧ RepsP K H F ds vs
def RepP (K : PySem.W.Frag) (H : Hp) (F : Fz) : PyData × PyData → V → Prop
  | (_, d), v => Rep K H F d v
end

section
variable {K : PySem.W.Frag} {H H' : Hp} {F F' : Fz}
mutual
theorem Rep.keep (h : ∀ a, F a → F' a ∧ H' a = H a) : ∀ (d : PyData) (v : V), Rep K H F d v → Rep K H' F' d v
  | .none, _, r => by unfold Rep at r ⊢; exact r
  | .bool b, _, r => by unfold Rep at r ⊢; exact r
  | .int i, _, r => by unfold Rep at r ⊢; exact r
  | .str x, _, r => by unfold Rep at r ⊢; exact r
  | .list ds, v, r => by
    unfold Rep at r ⊢
    obtain ⟨a, xs, e, f, hq, q⟩ := r
    exact ⟨a, xs, e, (h a f).1, (h a f).2.trans hq, Reps.keep h ds xs q⟩
  | .tuple ds, v, r => by
    unfold Rep at r ⊢
    obtain ⟨a, xs, e, f, q⟩ := r
    refine ⟨a, xs, e, ?_, Reps.keep h ds xs q⟩
    rcases f with ⟨f, hq⟩ | f
    · exact .inl ⟨(h a f).1, (h a f).2.trans hq⟩
    · exact .inr f
  | .dict kvs, v, r => by
    unfold Rep at r ⊢
    obtain ⟨a, ws, e, f, o, q⟩ := r
    refine ⟨a, ws, e, (h a f).1, ?_, RepsP.keep h kvs ws q⟩
    rw [(h a f).2]
    exact o
theorem Reps.keep (h : ∀ a, F a → F' a ∧ H' a = H a) : ∀ (ds : List PyData) (vs : List V), Reps K H F ds vs → Reps K H' F' ds vs
  | [], _, r => by unfold Reps at r ⊢; exact r
  | d :: ds, _, r => by
    unfold Reps at r ⊢
    obtain ⟨v, vs, e, r1, r2⟩ := r
    exact ⟨v, vs, e, Rep.keep h d v r1, Reps.keep h ds vs r2⟩
theorem RepsP.keep (h : ∀ a, F a → F' a ∧ H' a = H a) : ∀ (ds : List (PyData × PyData)) (vs : List V), RepsP K H F ds vs → RepsP K H' F' ds vs
  | [], _, r => by unfold RepsP at r ⊢; exact r
  | p :: ds, _, r => by
    unfold RepsP at r ⊢
    obtain ⟨v, vs, e, r1, r2⟩ := r
    exact ⟨v, vs, e, RepP.keep h p v r1, RepsP.keep h ds vs r2⟩
theorem RepP.keep (h : ∀ a, F a → F' a ∧ H' a = H a) : ∀ (p : PyData × PyData) (v : V), RepP K H F p v → RepP K H' F' p v
  | (_, d), v, r => by
    unfold RepP at r ⊢
    exact Rep.keep h d v r
end
theorem Reps.nil : Reps K H F [] [] := by unfold Reps; rfl
theorem Reps.cons {d : PyData} {ds : List PyData} {v : V} {vs : List V} (h1 : Rep K H F d v) (h2 : Reps K H F ds vs) : Reps K H F (d :: ds) (v :: vs) := by
  unfold Reps; exact ⟨v, vs, rfl, h1, h2⟩
theorem Reps.length : ∀ {ds : List PyData} {vs : List V}, Reps K H F ds vs → vs.length = ds.length
  | [], _, r => by unfold Reps at r; subst r; rfl
  | d :: ds, _, r => by
    unfold Reps at r
    obtain ⟨v, vs, rfl, _, r2⟩ := r
    simp [Reps.length r2]
theorem Reps.get : ∀ {ds : List PyData} {vs : List V} {i : Nat} {d : PyData}, Reps K H F ds vs → ds[i]? = some d → ∃ v, vs[i]? = some v ∧ Rep K H F d v
  | [], _, _, _, _, e => by simp at e
  | d :: ds, _, 0, _, r, e => by
    unfold Reps at r
    obtain ⟨v, vs, rfl, h1, _⟩ := r
    simp at e; subst e
    exact ⟨v, rfl, h1⟩
  | d :: ds, _, i + 1, _, r, e => by
    unfold Reps at r
    obtain ⟨v, vs, rfl, _, r2⟩ := r
    obtain ⟨u, h1, h2⟩ := Reps.get (i := i) r2 (by simpa using e)
    exact ⟨u, by simpa using h1, h2⟩
theorem Reps.get' : ∀ {ds : List PyData} {vs : List V} {i : Nat} {v : V}, Reps K H F ds vs → vs[i]? = some v → ∃ d, ds[i]? = some d ∧ Rep K H F d v
  | [], _, _, _, r, e => by unfold Reps at r; subst r; simp at e
  | d :: ds, _, 0, _, r, e => by
    unfold Reps at r
    obtain ⟨v, vs, rfl, h1, _⟩ := r
    simp at e; subst e
    exact ⟨d, rfl, h1⟩
  | d :: ds, _, i + 1, _, r, e => by
    unfold Reps at r
    obtain ⟨v, vs, rfl, _, r2⟩ := r
    obtain ⟨u, h1, h2⟩ := Reps.get' (i := i) r2 (by simpa using e)
    exact ⟨u, by simpa using h1, h2⟩
theorem Reps.append : ∀ {ds es : List PyData} {vs ws : List V}, Reps K H F ds vs → Reps K H F es ws → Reps K H F (ds ++ es) (vs ++ ws)
  | [], _, _, _, r, s => by unfold Reps at r; subst r; exact s
  | d :: ds, _, _, _, r, s => by
    unfold Reps at r
    obtain ⟨v, vs, rfl, h1, r2⟩ := r
    exact Reps.cons h1 (Reps.append r2 s)
theorem Reps.take : ∀ {ds : List PyData} {vs : List V} (n : Nat), Reps K H F ds vs → Reps K H F (ds.take n) (vs.take n)
  | _, _, 0, _ => by simp; exact Reps.nil
  | [], _, n + 1, r => by unfold Reps at r; subst r; simp; exact Reps.nil
  | d :: ds, _, n + 1, r => by
    unfold Reps at r
    obtain ⟨v, vs, rfl, h1, r2⟩ := r
    exact Reps.cons h1 (Reps.take n r2)
theorem Reps.drop : ∀ {ds : List PyData} {vs : List V} (n : Nat), Reps K H F ds vs → Reps K H F (ds.drop n) (vs.drop n)
  | _, _, 0, r => by simpa using r
  | [], _, n + 1, r => by unfold Reps at r; subst r; simp; exact Reps.nil
  | d :: ds, _, n + 1, r => by
    unfold Reps at r
    obtain ⟨v, vs, rfl, h1, r2⟩ := r
    exact Reps.drop n r2
theorem Reps.set : ∀ {ds : List PyData} {vs : List V} {d : PyData} {v : V} (n : Nat), Reps K H F ds vs → Rep K H F d v → Reps K H F (ds.set n d) (vs.set n v)
  | [], _, _, _, n, r, _ => by unfold Reps at r; subst r; simp; exact Reps.nil
  | e :: ds, _, _, _, 0, r, s => by
    unfold Reps at r
    obtain ⟨w, vs, rfl, h1, r2⟩ := r
    exact Reps.cons s r2
  | e :: ds, _, _, _, n + 1, r, s => by
    unfold Reps at r
    obtain ⟨w, vs, rfl, h1, r2⟩ := r
    exact Reps.cons h1 (Reps.set n r2 s)
theorem Reps.reverse : ∀ {ds : List PyData} {vs : List V}, Reps K H F ds vs → Reps K H F ds.reverse vs.reverse
  | [], _, r => by unfold Reps at r; subst r; simp; exact Reps.nil
  | d :: ds, _, r => by
    unfold Reps at r
    obtain ⟨v, vs, rfl, h1, r2⟩ := r
    simp only [List.reverse_cons]
    exact (Reps.reverse r2).append (Reps.cons h1 Reps.nil)
theorem Reps.dropLast {ds : List PyData} {vs : List V} (r : Reps K H F ds vs) : Reps K H F ds.dropLast vs.dropLast := by
  rw [List.dropLast_eq_take, List.dropLast_eq_take, r.length]
  exact r.take _
theorem Reps.eraseIdx : ∀ {ds : List PyData} {vs : List V} (n : Nat), Reps K H F ds vs → Reps K H F (ds.eraseIdx n) (vs.eraseIdx n)
  | [], _, n, r => by unfold Reps at r; subst r; simp; exact Reps.nil
  | d :: ds, _, 0, r => by
    unfold Reps at r
    obtain ⟨v, vs, rfl, h1, r2⟩ := r
    exact r2
  | d :: ds, _, n + 1, r => by
    unfold Reps at r
    obtain ⟨v, vs, rfl, h1, r2⟩ := r
    exact Reps.cons h1 (Reps.eraseIdx n r2)
theorem Reps.ints : ∀ (ns : List Int), Reps K H F (ns.map PyData.int) (ns.map V.int)
  | [] => Reps.nil
  | n :: ns => Reps.cons (by unfold Rep; rfl) (Reps.ints ns)
theorem Reps.rep {ds : List PyData} {vs : List V} (r : Reps K H F ds vs) : ∀ k : Nat, Reps K H F (List.replicate k ds).flatten (List.replicate k vs).flatten
  | 0 => Reps.nil
  | k + 1 => by
    rw [List.replicate_succ, List.replicate_succ, List.flatten_cons, List.flatten_cons]
    exact r.append (Reps.rep r k)
/-! the readings of the library -/
mutual
theorem Rep.dp : ∀ (d : PyData) (v : V), Rep K H F d v → d.canLay0 = true → Dp K H v d
  | .none, _, r, _ => by unfold Rep at r; subst r; exact .non
  | .bool b, _, r, _ => by unfold Rep at r; subst r; exact .bl b
  | .int i, _, r, _ => by unfold Rep at r; subst r; exact .int i
  | .str x, _, r, _ => by unfold Rep at r; subst r; exact .str x
  | .list ds, v, r, l => by
    unfold Rep at r
    unfold PyData.canLay0 at l
    obtain ⟨a, xs, rfl, f, hq, q⟩ := r
    exact .lst (SqL.of hq) (Reps.dp ds xs q l)
  | .tuple ds, v, r, l => by
    unfold Rep at r
    unfold PyData.canLay0 at l
    obtain ⟨a, xs, rfl, f, q⟩ := r
    refine .tup ?_ (Reps.dp ds xs q l)
    rcases f with ⟨f, hq⟩ | f
    · exact SqT.of hq
    · exact f H
  | .dict _, _, _, l => by unfold PyData.canLay0 at l; cases l
theorem Reps.dp : ∀ (ds : List PyData) (vs : List V), Reps K H F ds vs → PyData.canLayAll0 ds = true → DpAll K H vs ds
  | [], _, r, _ => by unfold Reps at r; subst r; exact .nil
  | d :: ds, _, r, l => by
    unfold Reps at r
    unfold PyData.canLayAll0 at l
    obtain ⟨l1, l2⟩ := Bool.and_eq_true_iff.mp l
    obtain ⟨v, vs, rfl, r1, r2⟩ := r
    exact .cons (Rep.dp d v r1 l1) (Reps.dp ds vs r2 l2)
end
theorem Rep.list {ds : List PyData} {v : V} (r : Rep K H F (.list ds) v) : ∃ a xs, v = .ref a ∧ F a ∧ H a = some (.lst xs) ∧ Reps K H F ds xs := by
  unfold Rep at r; exact r
theorem Rep.tuple {ds : List PyData} {v : V} (r : Rep K H F (.tuple ds) v) : ∃ a xs, v = .ref a ∧ SqT K H a xs ∧ Reps K H F ds xs := by
  unfold Rep at r
  obtain ⟨a, xs, e, f, q⟩ := r
  refine ⟨a, xs, e, ?_, q⟩
  rcases f with ⟨f, hq⟩ | f
  · exact SqT.of hq
  · exact f H
theorem Rep.int {i : Int} {v : V} (r : Rep K H F (.int i) v) : v = .int i := by unfold Rep at r; exact r
theorem Rep.bool {i : Bool} {v : V} (r : Rep K H F (.bool i) v) : v = .bl i := by unfold Rep at r; exact r
theorem Rep.str {i : Str} {v : V} (r : Rep K H F (.str i) v) : v = .str i := by unfold Rep at r; exact r
theorem Rep.none {v : V} (r : Rep K H F .none v) : v = .non := by unfold Rep at r; exact r
theorem Rep.dict {kvs : List (PyData × PyData)} {v : V} (r : Rep K H F (.dict kvs) v) : ∃ (a : Addr) (ws : List V), v = .ref a ∧ F a ∧ (∃ (o : Obj) (kx : List (Key × V)), H a = some (.frz o (.dK kx)) ∧ kvs.map (·.1) = kx.map (fun p => keyD p.1) ∧ ws = kx.map (·.2)) ∧ RepsP K H F kvs ws := by unfold Rep at r; exact r
theorem Rep.mkDict {a : Addr} {o : Obj} {kx : List (Key × V)} {kvs : List (PyData × PyData)} (f : F a) (h : H a = some (.frz o (.dK kx))) (hk : kvs.map (·.1) = kx.map (fun p => keyD p.1)) (r : RepsP K H F kvs (kx.map (·.2))) : Rep K H F (.dict kvs) (.ref a) := by unfold Rep; exact ⟨a, _, rfl, f, ⟨o, kx, h, hk, rfl⟩, r⟩
theorem Rep.mkInt {i : Int} : Rep K H F (.int i) (.int i) := by unfold Rep; rfl
theorem Rep.mkBool {i : Bool} : Rep K H F (.bool i) (.bl i) := by unfold Rep; rfl
theorem Rep.mkStr {i : Str} : Rep K H F (.str i) (.str i) := by unfold Rep; rfl
theorem Rep.mkNone : Rep K H F .none .non := by unfold Rep; rfl
theorem Rep.mkList {a : Addr} {xs : List V} {ds : List PyData} (f : F a) (h : H a = some (.lst xs)) (r : Reps K H F ds xs) : Rep K H F (.list ds) (.ref a) := by unfold Rep; exact ⟨a, xs, rfl, f, h, r⟩
theorem Rep.mkTup {a : Addr} {xs : List V} {ds : List PyData} (f : F a) (h : H a = some (.tup xs)) (r : Reps K H F ds xs) : Rep K H F (.tuple ds) (.ref a) := by unfold Rep; exact ⟨a, xs, rfl, .inl ⟨f, h⟩, r⟩
theorem Rep.mkTupK {a : Addr} {xs : List V} {ds : List PyData} (h : ∀ H', SqT K H' a xs) (r : Reps K H F ds xs) : Rep K H F (.tuple ds) (.ref a) := by unfold Rep; exact ⟨a, xs, rfl, .inr h, r⟩
end

/-- a state: the plain slots, the slots, the heap, what is frozen -/
structure Cf where
  n : NSt
  s : St
  H : Hp
  F : Fz
def Cf.Ow (c : Cf) (a : Addr) : Prop := ∃ (i : Nat) (xs : List PyData), c.n[i]? = some (some (Sl.own xs)) ∧ c.s[i]? = some (some (V.ref a))
def Cf.Hd (c : Cf) (a : Addr) : Prop := ∃ (i : Nat) (sl : Sl), c.n[i]? = some (some sl) ∧ sl.held = true ∧ c.s[i]? = some (some (V.ref a))
theorem Cf.Ow.hd {c : Cf} {a : Addr} (h : c.Ow a) : c.Hd a := let ⟨i, xs, h1, h2⟩ := h; ⟨i, _, h1, rfl, h2⟩
def ScrOk (K : PySem.W.Frag) (H : Hp) (a : Addr) (vs : List V) : Prop := (∃ o : Obj, H a = some (.frz o (.lst vs))) ∨ ∀ H', SqL K H' a vs
theorem ScrOk.sq {K : PySem.W.Frag} {H : Hp} {a : Addr} {vs : List V} (h : ScrOk K H a vs) : SqL K H a vs := by
  rcases h with ⟨o, h⟩ | h
  · exact .inl (.inr ⟨o, h⟩)
  · exact h H
def SlRep (K : PySem.W.Frag) (H : Hp) (F : Fz) : Sl → V → Prop
  | .val d, v => Rep K H F d v
  | .own xs, v => ∃ (a : Addr) (ws : List V), v = .ref a ∧ ¬ F a ∧ H a = some (.lst ws) ∧ Reps K H F xs ws
  | .lent xs, v => ∃ (a : Addr) (ws : List V), v = .ref a ∧ ¬ F a ∧ H a = some (.lst ws) ∧ Reps K H F xs ws
  | .scr xs, v => ∃ (a : Addr) (ns : List Int), v = .ref a ∧ xs = ns.map PyData.int ∧ ScrOk K H a (ns.map V.int)
structure Sim (K : PySem.W.Frag) (c : Cf) : Prop where
  len : c.n.length = c.s.length
  slot : ∀ (i : Nat) (sl : Sl), c.n[i]? = some (some sl) → ∃ v, c.s[i]? = some (some v) ∧ SlRep K c.H c.F sl v
  sep : ∀ (i j : Nat) (si sj : Sl) (a : Addr), c.n[i]? = some (some si) → c.n[j]? = some (some sj) → si.held = true → sj.held = true → c.s[i]? = some (some (.ref a)) → c.s[j]? = some (some (.ref a)) → i = j
  fz : ∀ a, c.F a → c.H a ≠ none
structure Step (c c' : Cf) : Prop where
  keep : ∀ a, c.H a ≠ none → ¬ c.Hd a → c'.H a = c.H a
  live : ∀ a, c.H a ≠ none → c'.H a ≠ none
  fz : ∀ a, c.F a → c'.F a
  fn : ∀ a, c'.F a → c.F a ∨ c.H a = none ∨ c.Ow a
  hd : ∀ a, c'.Hd a → c.Hd a ∨ c.H a = none
  ow : ∀ a, c'.Ow a → c.Ow a ∨ c.H a = none
  mu : ∀ (i : Nat) (xs : List PyData), c.n[i]? = some (some (Sl.lent xs)) → ∃ ys : List PyData, c'.n[i]? = some (some (Sl.lent ys)) ∧ c'.s[i]? = c.s[i]?
  ln : c'.n.length = c.n.length
theorem Step.refl (c : Cf) : Step c c := ⟨fun _ _ _ => rfl, fun _ h => h, fun _ h => h, fun _ h => .inl h, fun _ h => .inl h, fun _ h => .inl h, fun _ xs h => ⟨xs, h, rfl⟩, rfl⟩
theorem Step.trans {a b c : Cf} (h : Step a b) (g : Step b c) : Step a c where
  keep x n k := by
    have e := h.keep x n k
    have n' : b.H x ≠ none := h.live x n
    have k' : ¬ b.Hd x := fun z => by
      rcases h.hd x z with z | z
      · exact k z
      · exact n z
    exact (g.keep x n' k').trans e
  live x n := g.live x (h.live x n)
  fz x f := g.fz x (h.fz x f)
  fn x f := by
    rcases g.fn x f with f | f | f
    · exact h.fn x f
    · exact .inr (.inl (Classical.byContradiction fun z => h.live x z f))
    · rcases h.ow x f with f | f
      · exact .inr (.inr f)
      · exact .inr (.inl f)
  hd x f := by
    rcases g.hd x f with f | f
    · exact h.hd x f
    · exact .inr (Classical.byContradiction fun z => h.live x z f)
  ow x f := by
    rcases g.ow x f with f | f
    · exact h.ow x f
    · exact .inr (Classical.byContradiction fun z => h.live x z f)
  mu i xs e := by
    obtain ⟨ys, e1, e2⟩ := h.mu i xs e
    obtain ⟨zs, e3, e4⟩ := g.mu i ys e1
    exact ⟨zs, e3, e4.trans e2⟩
  ln := g.ln.trans h.ln

section
variable {K : PySem.W.Frag} {c c' : Cf}
theorem Sim.nohd (S : Sim K c) {a : Addr} (f : c.F a) : ¬ c.Hd a := fun ⟨i, sl, h1, h2, h3⟩ => by
  obtain ⟨v, e, r⟩ := S.slot i sl h1
  rw [h3] at e
  cases e
  cases sl with
  | val d => cases h2
  | scr d => cases h2
  | own xs =>
    obtain ⟨b, ws, e, nf, _⟩ := r
    cases e
    exact nf f
  | lent xs =>
    obtain ⟨b, ws, e, nf, _⟩ := r
    cases e
    exact nf f
theorem Sim.hdH (S : Sim K c) {a : Addr} (h : c.Hd a) : c.H a ≠ none := by
  obtain ⟨i, sl, h1, h2, h3⟩ := h
  obtain ⟨v, e, r⟩ := S.slot i sl h1
  rw [h3] at e
  cases e
  cases sl with
  | val d => cases h2
  | scr d => cases h2
  | own xs =>
    obtain ⟨b, ws, e, nf, q, _⟩ := r
    cases e
    rw [q]; simp
  | lent xs =>
    obtain ⟨b, ws, e, nf, q, _⟩ := r
    cases e
    rw [q]; simp
/-- what was frozen stays -/
theorem Step.frz (st : Step c c') (S : Sim K c) : ∀ a, c.F a → c'.F a ∧ c'.H a = c.H a := fun a f => ⟨st.fz a f, st.keep a (S.fz a f) (S.nohd f)⟩
theorem Step.rep (st : Step c c') (S : Sim K c) {d : PyData} {v : V} (r : Rep K c.H c.F d v) : Rep K c'.H c'.F d v := Rep.keep (st.frz S) d v r
theorem Step.reps (st : Step c c') (S : Sim K c) {d : List PyData} {v : List V} (r : Reps K c.H c.F d v) : Reps K c'.H c'.F d v := Reps.keep (st.frz S) d v r
end
end NL
end L2
/-! NL2: results, judgements, what heaps do. -/
namespace L2
namespace NL
open PySem PySem.Spec PyProof.Rows

/-- an exception, as plain data: its class by name, its one field -/
structure NX where
  cls : Str
  at_ : Option PyData := none
inductive R (α : Type) where
  | ok (a : α) (n : NSt) | err (x : NX) (n : NSt) | bad
def R.bind {α β : Type} (r : R α) (k : α → NSt → R β) : R β := match r with
  | .ok a n => k a n
  | .err x n => .err x n
  | .bad => .bad
inductive NR where
  | nx (n : NSt) | ret (d : PyData) (n : NSt) | brk (n : NSt) | ct (n : NSt) | err (x : NX) (n : NSt) | bad
def R.st {α : Type} (r : R α) (k : α → NSt → NR) : NR := match r with
  | .ok a n => k a n
  | .err x n => .err x n
  | .bad => .bad
abbrev NExp := NSt → R PyData
abbrev NStm := NSt → NR

def XRep (K : PySem.W.Frag) (mg : Str → Option Value) (H : Hp) (F : Fz) (x : NX) (cls : Value) (d : Option Addr) : Prop :=
  mg x.cls = some cls ∧ (∃ C, cls = .ref C) ∧ match x.at_ with
    | none => d = none
    | some p => ∃ dx v, d = some dx ∧ H dx = some (.xd [("at", v)]) ∧ Rep K H F p v

/-- what must follow a result -/
def Pst {α β : Type} (K : PySem.W.Frag) (mg : Str → Option Value) (W : WX) (rel : Cf → Cf → α → β → Prop) (c : Cf) (Q : β → Hp → Prop) : R α → Prop
  | .ok a n' => ∀ b H' F', Step c ⟨n', c.s, H', F'⟩ → Sim K ⟨n', c.s, H', F'⟩ → rel c ⟨n', c.s, H', F'⟩ a b → Q b H'
  | .err x n' => ∀ cls d H' F', Step c ⟨n', c.s, H', F'⟩ → Sim K ⟨n', c.s, H', F'⟩ → XRep K mg H' F' x cls d → W cls d c.s H'
  | .bad => False
def PstS (K : PySem.W.Frag) (mg : Str → Option Value) (W : WX) (c : Cf) (D : Ends) : NR → Prop
  | .nx n' => ∀ σ' H' F', Step c ⟨n', σ', H', F'⟩ → Sim K ⟨n', σ', H', F'⟩ → D.nx σ' H'
  | .ret a n' => ∀ v σ' H' F', Step c ⟨n', σ', H', F'⟩ → Sim K ⟨n', σ', H', F'⟩ → Rep K H' F' a v → D.rt v H'
  | .brk n' => ∀ σ' H' F', Step c ⟨n', σ', H', F'⟩ → Sim K ⟨n', σ', H', F'⟩ → D.bk σ' H'
  | .ct n' => ∀ σ' H' F', Step c ⟨n', σ', H', F'⟩ → Sim K ⟨n', σ', H', F'⟩ → D.ct σ' H'
  | .err x n' => ∀ cls d σ' H' F', Step c ⟨n', σ', H', F'⟩ → Sim K ⟨n', σ', H', F'⟩ → XRep K mg H' F' x cls d → W cls d σ' H'
  | .bad => False

abbrev Rel (α β : Type) := Cf → Cf → α → β → Prop
/-- it may begin earlier -/
def Mono {α β : Type} (rel : Rel α β) : Prop := ∀ c c1 c2 a b, Step c c1 → rel c1 c2 a b → rel c c2 a b
def relE (K : PySem.W.Frag) : Rel PyData V := fun _ c d v => Rep K c.H c.F d v
def relT : Rel Bool Bool := fun _ _ a b => a = b
/-- a new list that no slot holds -/
def relO (K : PySem.W.Frag) : Rel (List PyData) V := fun c0 c xs v => ∃ (a : Addr) (ws : List V), v = .ref a ∧ c0.H a = none ∧ ¬ c.F a ∧ c.H a = some (.lst ws) ∧ ¬ c.Hd a ∧ Reps K c.H c.F xs ws
inductive AV where
  | v (d : PyData) | o (i : Nat)
def AVRep (K : PySem.W.Frag) (c : Cf) : AV → V → Prop
  | .v d, v => Rep K c.H c.F d v
  | .o i, v => c.s[i]? = some (some v)
def relA (K : PySem.W.Frag) : Rel (List AV) (List V) := fun _ c as vs => Paired (AVRep K c) as vs
def relL (K : PySem.W.Frag) : Rel (List PyData) (List V) := fun _ c as vs => Reps K c.H c.F as vs
theorem mono_E {K : PySem.W.Frag} : Mono (relE K) := fun _ _ _ _ _ _ h => h
theorem mono_T : Mono relT := fun _ _ _ _ _ _ h => h
theorem mono_A {K : PySem.W.Frag} : Mono (relA K) := fun _ _ _ _ _ _ h => h
theorem mono_L {K : PySem.W.Frag} : Mono (relL K) := fun _ _ _ _ _ _ h => h
theorem mono_O {K : PySem.W.Frag} : Mono (relO K) := fun _ _ _ _ _ st ⟨a, ws, e, h0, r⟩ => ⟨a, ws, e, Classical.byContradiction fun z => st.live a z h0, r⟩

section
variable {K : PySem.W.Frag} {mg : Str → Option Value} {W : WX} {α β γ δ : Type}
theorem Pst.step {rel : Rel α β} (mo : Mono rel) {c c1 : Cf} {Q : β → Hp → Prop} (hs : c1.s = c.s) (st : Step c c1) {r : R α} (h : Pst K mg W rel c Q r) : Pst K mg W rel c1 Q r := by
  cases r with
  | ok a n =>
    intro b H' F' s1 S1 r1
    rw [hs] at s1 S1 r1
    exact h b H' F' (st.trans s1) S1 (mo _ _ _ _ _ st r1)
  | err x n =>
    intro cls d H' F' s1 S1 r1
    rw [hs] at s1 S1 ⊢
    exact h cls d H' F' (st.trans s1) S1 r1
  | bad => exact h
theorem PstS.step {c c1 : Cf} {D : Ends} (st : Step c c1) {r : NR} (h : PstS K mg W c D r) : PstS K mg W c1 D r := by
  cases r with
  | nx n => exact fun σ' H' F' s1 S1 => h σ' H' F' (st.trans s1) S1
  | ret d n => exact fun v σ' H' F' s1 S1 => h v σ' H' F' (st.trans s1) S1
  | brk n => exact fun σ' H' F' s1 S1 => h σ' H' F' (st.trans s1) S1
  | ct n => exact fun σ' H' F' s1 S1 => h σ' H' F' (st.trans s1) S1
  | err x n => exact fun cls d σ' H' F' s1 S1 => h cls d σ' H' F' (st.trans s1) S1
  | bad => exact h
/-- one after the other -/
theorem Pst.seq {rel : Rel α β} {rel' : Rel γ δ} (mo : Mono rel') {c : Cf} {Q : β → Hp → Prop} {Q' : δ → Hp → Prop} {r : R α} {k : α → NSt → R γ} (h : Pst K mg W rel' c Q' (r.bind k))
    (hk : ∀ a n' b H' F', r = .ok a n' → Step c ⟨n', c.s, H', F'⟩ → Sim K ⟨n', c.s, H', F'⟩ → rel c ⟨n', c.s, H', F'⟩ a b → Pst K mg W rel' ⟨n', c.s, H', F'⟩ Q' (k a n') → Q b H') : Pst K mg W rel c Q r := by
  cases r with
  | ok a n =>
    intro b H' F' s1 S1 r1
    exact hk a n b H' F' rfl s1 S1 r1 (Pst.step (c := c) (c1 := ⟨n, c.s, H', F'⟩) mo rfl s1 h)
  | err x n => exact h
  | bad => exact h
theorem Pst.seqS {rel : Rel α β} {c : Cf} {Q : β → Hp → Prop} {D : Ends} {r : R α} {k : α → NSt → NR} (h : PstS K mg W c D (r.st k))
    (hk : ∀ a n' b H' F', r = .ok a n' → Step c ⟨n', c.s, H', F'⟩ → Sim K ⟨n', c.s, H', F'⟩ → rel c ⟨n', c.s, H', F'⟩ a b → PstS K mg W ⟨n', c.s, H', F'⟩ D (k a n') → Q b H') : Pst K mg W rel c Q r := by
  cases r with
  | ok a n =>
    intro b H' F' s1 S1 r1
    exact hk a n b H' F' rfl s1 S1 r1 (PstS.step (c := c) (c1 := ⟨n, c.s, H', F'⟩) s1 h)
  | err x n => exact fun cls d H' F' s1 S1 r1 => h cls d c.s H' F' s1 S1 r1
  | bad => exact h
end

/-! ### what heaps do -/
section
variable {K : PySem.W.Frag} {c : Cf}
theorem SlRep.keep {c c' : Cf} (S : Sim K c) (fr : ∀ a, c.F a → c'.F a ∧ c'.H a = c.H a) (k : ∀ a, c.H a ≠ none → c'.H a = c.H a) (g : ∀ a, c'.F a → c.F a ∨ c.H a = none) {sl : Sl} {v : V} (r : SlRep K c.H c.F sl v) : SlRep K c'.H c'.F sl v := by
  cases sl with
  | val d => exact Rep.keep fr d v r
  | own xs =>
    obtain ⟨a, ws, e, nf, q, z⟩ := r
    have n : c.H a ≠ none := by rw [q]; simp
    refine ⟨a, ws, e, fun f => ?_, (k a n).trans q, Reps.keep fr xs ws z⟩
    rcases g a f with f | f
    · exact nf f
    · exact n f
  | lent xs =>
    obtain ⟨a, ws, e, nf, q, z⟩ := r
    have n : c.H a ≠ none := by rw [q]; simp
    refine ⟨a, ws, e, fun f => ?_, (k a n).trans q, Reps.keep fr xs ws z⟩
    rcases g a f with f | f
    · exact nf f
    · exact n f
  | scr xs =>
    obtain ⟨a, ns, e, e2, z⟩ := r
    refine ⟨a, ns, e, e2, ?_⟩
    rcases z with ⟨o, z⟩ | z
    · exact .inl ⟨o, (k a (by rw [z]; simp)).trans z⟩
    · exact .inr z
/-- new things are laid, some of them frozen -/
theorem Sim.ext (S : Sim K c) {H' : Hp} {F' : Fz} (k : ∀ a, c.H a ≠ none → H' a = c.H a) (f : ∀ a, c.F a → F' a) (g : ∀ a, F' a → c.F a ∨ (c.H a = none ∧ H' a ≠ none)) :
    Sim K ⟨c.n, c.s, H', F'⟩ ∧ Step c ⟨c.n, c.s, H', F'⟩ := by
  refine ⟨⟨S.len, fun i sl e => ?_, S.sep, fun a h => ?_⟩, ⟨fun a n _ => k a n, fun a n => by show H' a ≠ none; rw [k a n]; exact n, f, fun a h => ?_, fun a h => .inl h, fun a h => .inl h, fun i xs e => ⟨xs, e, rfl⟩, rfl⟩⟩
  · obtain ⟨v, e1, r⟩ := S.slot i sl e
    exact ⟨v, e1, SlRep.keep (c' := ⟨c.n, c.s, H', F'⟩) S (fun a h => ⟨f a h, k a (S.fz a h)⟩) k (fun a h => (g a h).elim .inl fun z => .inr z.1) r⟩
  · rcases g a h with z | z
    · show H' a ≠ none
      rw [k a (S.fz a z)]; exact S.fz a z
    · exact z.2
  · rcases g a h with z | z
    · exact .inl z
    · exact .inr (.inl z.1)
def orEq (F : Fz) (p : Addr) : Fz := fun a => F a ∨ a = p
theorem upd_old {H : Hp} {p : Addr} {o : HO} (hp : H p = none) : ∀ a, H a ≠ none → upd H p o a = H a := fun a n => upd_ne fun z => n (by rw [z]; exact hp)
/-- a new tuple -/
theorem Sim.newTup (S : Sim K c) {p : Addr} {ws : List V} {ds : List PyData} (hp : c.H p = none) (r : Reps K c.H c.F ds ws) :
    let c' : Cf := ⟨c.n, c.s, upd c.H p (.tup ws), orEq c.F p⟩; Sim K c' ∧ Step c c' ∧ Rep K c'.H c'.F (.tuple ds) (.ref p) := by
  intro c'
  obtain ⟨h1, h2⟩ := S.ext (H' := upd c.H p (.tup ws)) (F' := orEq c.F p) (upd_old hp) (fun _ h => .inl h) fun a h => h.elim .inl fun z => .inr (by subst z; exact ⟨hp, by rw [upd_same]; simp⟩)
  exact ⟨h1, h2, Rep.mkTup (.inr rfl) upd_same (h2.reps S r)⟩
/-- a new list, held by none -/
theorem Sim.newLst (S : Sim K c) {p : Addr} {ws : List V} {ds : List PyData} (hp : c.H p = none) (r : Reps K c.H c.F ds ws) :
    let c' : Cf := ⟨c.n, c.s, upd c.H p (.lst ws), c.F⟩; Sim K c' ∧ Step c c' ∧ relO K c c' ds (.ref p) := by
  intro c'
  obtain ⟨h1, h2⟩ := S.ext (H' := upd c.H p (.lst ws)) (F' := c.F) (upd_old hp) (fun _ h => h) fun a h => .inl h
  refine ⟨h1, h2, p, ws, rfl, hp, fun f => S.fz p f hp, upd_same, fun hd => ?_, h2.reps S r⟩
  exact S.hdH (show c.Hd p from hd) hp
/-- a list that none holds is frozen -/
theorem Sim.freeze {c c0 : Cf} (S0 : Sim K c0) (st : Step c0 c) (S : Sim K c) {ds : List PyData} {v : V} (r : relO K c0 c ds v) :
    ∃ F', let c' : Cf := ⟨c.n, c.s, c.H, F'⟩; Sim K c' ∧ Step c0 c' ∧ Rep K c'.H c'.F (.list ds) v := by
  obtain ⟨p, ws, rfl, h0, nf, hH, nh, r⟩ := r
  refine ⟨orEq c.F p, ?_⟩
  have fr : ∀ a, c.F a → orEq c.F p a ∧ c.H a = c.H a := fun a f => ⟨.inl f, rfl⟩
  refine ⟨⟨S.len, fun i sl e => ?_, S.sep, fun a h => ?_⟩, ⟨st.keep, st.live, fun a f => .inl (st.fz a f), fun a h => ?_, st.hd, st.ow, st.mu, st.ln⟩, Rep.mkList (.inr rfl) hH (Reps.keep fr _ _ r)⟩
  · obtain ⟨v, e1, q⟩ := S.slot i sl e
    refine ⟨v, e1, ?_⟩
    have hne : sl.held = true → v ≠ .ref p := fun hh z => nh ⟨i, sl, e, hh, by rw [e1, z]⟩
    cases sl with
    | val d => exact Rep.keep fr d v q
    | scr d => exact q
    | own xs =>
      obtain ⟨a, us, e3, nfa, q1, q2⟩ := q
      subst e3
      refine ⟨a, us, rfl, fun z => ?_, q1, Reps.keep fr _ _ q2⟩
      rcases z with z | z
      · exact nfa z
      · subst z; exact hne rfl rfl
    | lent xs =>
      obtain ⟨a, us, e3, nfa, q1, q2⟩ := q
      subst e3
      refine ⟨a, us, rfl, fun z => ?_, q1, Reps.keep fr _ _ q2⟩
      rcases z with z | z
      · exact nfa z
      · subst z; exact hne rfl rfl
  · rcases h with h | h
    · exact S.fz a h
    · subst h
      show c.H a ≠ none
      rw [hH]; simp
  · rcases h with h | h
    · exact st.fn a h
    · subst h; exact .inr (.inl h0)

theorem getD_set_self {n : NSt} {i : Nat} {x : Option Sl} (h : i < n.length) : (n.set i x)[i]? = some x := List.getElem?_set_self h
theorem lt_of_get {α : Type} {l : List α} {i : Nat} {x : α} (h : l[i]? = some x) : i < l.length := (List.getElem?_eq_some_iff.mp h).1
def notLent (n : NSt) (i : Nat) : Bool := match n[i]? with
  | some (some (.lent _)) => false
  | some _ => true
  | none => false
theorem notLent_ok {n : NSt} {i : Nat} (h : notLent n i = true) : i < n.length ∧ ∀ xs, n[i]? ≠ some (some (.lent xs)) := by
  unfold notLent at h
  cases q : n[i]? with
  | none => rw [q] at h; cases h
  | some o =>
    refine ⟨lt_of_get q, fun xs e => ?_⟩
    have e2 : o = some (.lent xs) := Option.some.inj e
    subst e2
    rw [q] at h; cases h
/-- a slot takes a value -/
theorem Sim.setVal (S : Sim K c) {i : Nat} {d : PyData} {v : V} (hl : notLent c.n i = true) (r : Rep K c.H c.F d v) :
    let c' : Cf := ⟨c.n.set i (some (.val d)), c.s.set i (some v), c.H, c.F⟩; Sim K c' ∧ Step c c' := by
  intro c'
  obtain ⟨hi, nl⟩ := notLent_ok hl
  have hi' : i < c.s.length := by rw [← S.len]; exact hi
  have old : ∀ j sl, (c.n.set i (some (.val d)))[j]? = some (some sl) → sl.held = true → j ≠ i ∧ c.n[j]? = some (some sl) := fun j sl e hh => by
    by_cases hj : i = j
    · subst hj
      rw [List.getElem?_set_self hi] at e
      cases e; cases hh
    · rw [List.getElem?_set_ne hj] at e
      exact ⟨fun z => hj z.symm, e⟩
  have oldS : ∀ {j a}, j ≠ i → (c.s.set i (some v))[j]? = some (some (V.ref a)) → c.s[j]? = some (some (V.ref a)) := fun hj e => by
    rw [List.getElem?_set_ne (Ne.symm hj)] at e; exact e
  have hd : ∀ a, c'.Hd a → c.Hd a := fun a ⟨j, sl, e, hh, es⟩ => by
    obtain ⟨hj, e1⟩ := old j sl e hh
    exact ⟨j, sl, e1, hh, oldS hj es⟩
  have ow : ∀ a, c'.Ow a → c.Ow a := fun a ⟨j, xs, e, es⟩ => by
    obtain ⟨hj, e1⟩ := old j _ e rfl
    exact ⟨j, xs, e1, oldS hj es⟩
  refine ⟨⟨by simp [c', S.len], fun j sl e => ?_, fun j k sj sk a e1 e2 h1 h2 q1 q2 => ?_, S.fz⟩, ⟨fun _ _ _ => rfl, fun _ h => h, fun _ h => h, fun _ h => .inl h, fun a h => .inl (hd a h), fun a h => .inl (ow a h), fun j xs e => ?_, by simp [c']⟩⟩
  · show ∃ w, (c.s.set i (some v))[j]? = some (some w) ∧ _
    by_cases hj : i = j
    · subst hj
      have e' : (c.n.set i (some (.val d)))[i]? = some (some sl) := e
      rw [List.getElem?_set_self hi] at e'
      cases e'
      exact ⟨v, List.getElem?_set_self hi', r⟩
    · have e' : (c.n.set i (some (.val d)))[j]? = some (some sl) := e
      rw [List.getElem?_set_ne hj] at e'
      rw [List.getElem?_set_ne hj]
      exact S.slot j sl e'
  · obtain ⟨hj, e1⟩ := old j sj e1 h1
    obtain ⟨hk, e2⟩ := old k sk e2 h2
    exact S.sep j k sj sk a e1 e2 h1 h2 (oldS hj q1) (oldS hk q2)
  · have hj : i ≠ j := fun z => by subst z; exact nl xs e
    exact ⟨xs, by show (c.n.set i _)[j]? = _; rw [List.getElem?_set_ne hj]; exact e, by show (c.s.set i _)[j]? = _; rw [List.getElem?_set_ne hj]⟩
/-- a slot takes a new list as its own -/
theorem Sim.setOwn {c0 : Cf} (st : Step c0 c) (S : Sim K c) {i : Nat} {ds : List PyData} {v : V} (hl : notLent c.n i = true) (r : relO K c0 c ds v) :
    let c' : Cf := ⟨c.n.set i (some (.own ds)), c.s.set i (some v), c.H, c.F⟩; Sim K c' ∧ Step c0 c' := by
  intro c'
  obtain ⟨p, ws, rfl, h0, nf, hH, nh, r⟩ := r
  obtain ⟨hi, nl⟩ := notLent_ok hl
  have hi' : i < c.s.length := by rw [← S.len]; exact hi
  have old : ∀ j sl, j ≠ i → (c.n.set i (some (.own ds)))[j]? = some (some sl) → c.n[j]? = some (some sl) := fun j sl hj e => by
    rw [List.getElem?_set_ne (Ne.symm hj)] at e; exact e
  have oldS : ∀ {j a}, j ≠ i → (c.s.set i (some (V.ref p)))[j]? = some (some (V.ref a)) → c.s[j]? = some (some (V.ref a)) := fun hj e => by
    rw [List.getElem?_set_ne (Ne.symm hj)] at e; exact e
  have atI : ∀ {a}, (c.s.set i (some (V.ref p)))[i]? = some (some (V.ref a)) → a = p := fun e => by
    rw [List.getElem?_set_self hi'] at e
    cases e; rfl
  have hd : ∀ a, c'.Hd a → c.Hd a ∨ a = p := fun a ⟨j, sl, e, hh, es⟩ => by
    by_cases hj : j = i
    · subst hj; exact .inr (atI es)
    · exact .inl ⟨j, sl, old j sl hj e, hh, oldS hj es⟩
  have ow : ∀ a, c'.Ow a → c.Ow a ∨ a = p := fun a ⟨j, xs, e, es⟩ => by
    by_cases hj : j = i
    · subst hj; exact .inr (atI es)
    · exact .inl ⟨j, xs, old j _ hj e, oldS hj es⟩
  have st2 : Step c c → True := fun _ => trivial
  refine ⟨⟨by simp [c', S.len], fun j sl e => ?_, fun j k sj sk a e1 e2 h1 h2 q1 q2 => ?_, S.fz⟩, ⟨st.keep, st.live, st.fz, st.fn, fun a h => ?_, fun a h => ?_, fun j xs e => ?_, by show (c.n.set i _).length = _; rw [List.length_set]; exact st.ln⟩⟩
  · show ∃ w, (c.s.set i (some (V.ref p)))[j]? = some (some w) ∧ _
    by_cases hj : j = i
    · subst hj
      have e' : (c.n.set j (some (.own ds)))[j]? = some (some sl) := e
      rw [List.getElem?_set_self hi] at e'
      cases e'
      exact ⟨_, List.getElem?_set_self hi', p, ws, rfl, nf, hH, r⟩
    · have e' := old j sl hj e
      rw [List.getElem?_set_ne (Ne.symm hj)]
      exact S.slot j sl e'
  · by_cases hj : j = i
    · by_cases hk : k = i
      · rw [hj, hk]
      · subst hj
        have z := atI q1
        subst z
        exact (nh ⟨k, sk, old k sk hk e2, h2, oldS hk q2⟩).elim
    · by_cases hk : k = i
      · subst hk
        have z := atI q2
        subst z
        exact (nh ⟨j, sj, old j sj hj e1, h1, oldS hj q1⟩).elim
      · exact S.sep j k sj sk a (old j sj hj e1) (old k sk hk e2) h1 h2 (oldS hj q1) (oldS hk q2)
  · rcases hd a h with z | z
    · exact st.hd a z
    · subst z; exact .inr h0
  · rcases ow a h with z | z
    · exact st.ow a z
    · subst z; exact .inr h0
  · obtain ⟨ys, e1, e2⟩ := st.mu j xs e
    have hj : i ≠ j := fun z => by subst z; exact nl ys e1
    exact ⟨ys, by show (c.n.set i _)[j]? = _; rw [List.getElem?_set_ne hj]; exact e1, by show (c.s.set i _)[j]? = _; rw [List.getElem?_set_ne hj]; exact e2⟩
def Sl.put (sl : Sl) (ys : List PyData) : Sl := match sl with
  | .own _ => .own ys
  | .lent _ => .lent ys
  | s => s
def Sl.list? : Sl → Option (List PyData)
  | .own xs => some xs
  | .lent xs => some xs
  | _ => none
/-- what a held slot holds -/
theorem Sim.held (S : Sim K c) {i : Nat} {sl : Sl} {xs : List PyData} (e : c.n[i]? = some (some sl)) (h : sl.list? = some xs) :
    sl.held = true ∧ ∃ a ws, c.s[i]? = some (some (.ref a)) ∧ ¬ c.F a ∧ c.H a = some (.lst ws) ∧ Reps K c.H c.F xs ws := by
  obtain ⟨v, e1, r⟩ := S.slot i sl e
  cases sl with
  | val d => cases h
  | scr d => cases h
  | own ys =>
    cases h
    obtain ⟨a, ws, rfl, q⟩ := r
    exact ⟨rfl, a, ws, e1, q⟩
  | lent ys =>
    cases h
    obtain ⟨a, ws, rfl, q⟩ := r
    exact ⟨rfl, a, ws, e1, q⟩
/-- a held list is changed -/
theorem Sim.write (S : Sim K c) {i : Nat} {sl : Sl} {a : Addr} {ws us : List V} {ys : List PyData} (e : c.n[i]? = some (some sl)) (hh : sl.held = true) (es : c.s[i]? = some (some (.ref a))) (nf : ¬ c.F a) (hH : c.H a = some (.lst ws)) (r : Reps K c.H c.F ys us) :
    let c' : Cf := ⟨c.n.set i (some (sl.put ys)), c.s, upd c.H a (.lst us), c.F⟩; Sim K c' ∧ Step c c' := by
  intro c'
  have hi : i < c.n.length := lt_of_get e
  have hput : (sl.put ys).held = true := by cases sl <;> first | rfl | exact hh
  have fr : ∀ b, c.F b → c.F b ∧ upd c.H a (.lst us) b = c.H b := fun b f => ⟨f, upd_ne fun z => by subst z; exact nf f⟩
  have old : ∀ j sj, j ≠ i → c'.n[j]? = some (some sj) → c.n[j]? = some (some sj) := fun j sj hj q => by
    have q' : (c.n.set i (some (sl.put ys)))[j]? = some (some sj) := q
    rw [List.getElem?_set_ne (Ne.symm hj)] at q'; exact q'
  have hdI : c.Hd a := ⟨i, sl, e, hh, es⟩
  have hd : ∀ b, c'.Hd b → c.Hd b := fun b ⟨j, sj, q, qh, qs⟩ => by
    by_cases hj : j = i
    · subst hj
      exact ⟨j, sl, e, hh, qs⟩
    · exact ⟨j, sj, old j sj hj q, qh, qs⟩
  have ow : ∀ b, c'.Ow b → c.Ow b := fun b ⟨j, xs, q, qs⟩ => by
    by_cases hj : j = i
    · subst hj
      have q' : (c.n.set j (some (sl.put ys)))[j]? = some (some (.own xs)) := q
      rw [List.getElem?_set_self hi] at q'
      cases sl with
      | own zs => exact ⟨j, zs, e, qs⟩
      | lent zs => cases q'
      | val d => cases hh
      | scr d => cases hh
    · exact ⟨j, xs, old j _ hj q, qs⟩
  refine ⟨⟨by simp [c', S.len], fun j sj q => ?_, fun j k sj sk b e1 e2 h1 h2 q1 q2 => ?_, fun b f => ?_⟩, ⟨fun b n nh => upd_ne fun z => by subst z; exact nh hdI, fun b n => ?_, fun _ h => h, fun _ h => .inl h, fun b h => .inl (hd b h), fun b h => .inl (ow b h), fun j xs q => ?_, by simp [c']⟩⟩
  · show ∃ w, c.s[j]? = some (some w) ∧ SlRep K (upd c.H a (.lst us)) c.F sj w
    by_cases hj : j = i
    · subst hj
      have q' : (c.n.set j (some (sl.put ys)))[j]? = some (some sj) := q
      rw [List.getElem?_set_self hi] at q'
      cases q'
      refine ⟨_, es, ?_⟩
      have rr : Reps K (upd c.H a (.lst us)) c.F ys us := Reps.keep fr _ _ r
      cases sl with
      | own zs => exact ⟨a, us, rfl, nf, upd_same, rr⟩
      | lent zs => exact ⟨a, us, rfl, nf, upd_same, rr⟩
      | val d => cases hh
      | scr d => cases hh
    · obtain ⟨w, w1, rw'⟩ := S.slot j sj (old j sj hj q)
      refine ⟨w, w1, ?_⟩
      have ne : sj.held = true → ∀ b, w = .ref b → b ≠ a := fun sh b z zz => by
        subst z; subst zz
        exact hj (S.sep j i sj sl b (old j sj hj q) e sh hh w1 es)
      cases sj with
      | val d => exact Rep.keep fr d w rw'
      | own zs =>
        obtain ⟨b, vs, rfl, nb, hb, rb⟩ := rw'
        exact ⟨b, vs, rfl, nb, (upd_ne (ne rfl b rfl)).trans hb, Reps.keep fr _ _ rb⟩
      | lent zs =>
        obtain ⟨b, vs, rfl, nb, hb, rb⟩ := rw'
        exact ⟨b, vs, rfl, nb, (upd_ne (ne rfl b rfl)).trans hb, Reps.keep fr _ _ rb⟩
      | scr zs =>
        obtain ⟨b, ns, rfl, e3, z⟩ := rw'
        refine ⟨b, ns, rfl, e3, ?_⟩
        rcases z with ⟨o, z⟩ | z
        · refine .inl ⟨o, (upd_ne fun y => ?_).trans z⟩
          subst y; rw [hH] at z; cases z
        · exact .inr z
  · have low : ∀ (j : Nat) (sj : Sl), c'.n[j]? = some (some sj) → sj.held = true → ∃ s' : Sl, c.n[j]? = some (some s') ∧ s'.held = true := fun j sj q qh => by
      by_cases hj : j = i
      · subst hj; exact ⟨sl, e, hh⟩
      · exact ⟨sj, old j sj hj q, qh⟩
    obtain ⟨s1, z1, y1⟩ := low j sj e1 h1
    obtain ⟨s2, z2, y2⟩ := low k sk e2 h2
    exact S.sep j k s1 s2 b z1 z2 y1 y2 q1 q2
  · show upd c.H a (.lst us) b ≠ none
    rw [(fr b f).2]; exact S.fz b f
  · show upd c.H a (.lst us) b ≠ none
    by_cases hb : b = a
    · subst hb; rw [upd_same]; simp
    · rw [upd_ne hb]; exact n
  · by_cases hj : j = i
    · subst hj
      rw [e] at q
      cases q
      exact ⟨ys, by show (c.n.set j _)[j]? = _; rw [List.getElem?_set_self hi]; rfl, rfl⟩
    · exact ⟨xs, by show (c.n.set i _)[j]? = _; rw [List.getElem?_set_ne (Ne.symm hj)]; exact q, rfl⟩
/-- an own list is frozen where it stands -/
theorem Sim.frzSlot (S : Sim K c) {i : Nat} {xs : List PyData} (e : c.n[i]? = some (some (.own xs))) :
    ∃ a F', c.s[i]? = some (some (.ref a)) ∧ (let c' : Cf := ⟨c.n.set i (some (.val (.list xs))), c.s, c.H, F'⟩; Sim K c' ∧ Step c c' ∧ Rep K c'.H c'.F (.list xs) (.ref a)) := by
  obtain ⟨_, a, ws, es, nf, hH, r⟩ := S.held e rfl
  have hi : i < c.n.length := lt_of_get e
  have fr : ∀ b, c.F b → orEq c.F a b ∧ c.H b = c.H b := fun b f => ⟨.inl f, rfl⟩
  refine ⟨a, orEq c.F a, es, ?_⟩
  intro c'
  have rep : Rep K c.H (orEq c.F a) (.list xs) (.ref a) := Rep.mkList (.inr rfl) hH (Reps.keep fr _ _ r)
  have old : ∀ j sj, c'.n[j]? = some (some sj) → sj.held = true → j ≠ i ∧ c.n[j]? = some (some sj) := fun j sj q qh => by
    have q' : (c.n.set i (some (.val (.list xs))))[j]? = some (some sj) := q
    by_cases hj : i = j
    · subst hj
      rw [List.getElem?_set_self hi] at q'
      cases q'; cases qh
    · rw [List.getElem?_set_ne hj] at q'
      exact ⟨fun z => hj z.symm, q'⟩
  refine ⟨⟨by simp [c', S.len], fun j sj q => ?_, fun j k sj sk b e1 e2 h1 h2 q1 q2 => ?_, fun b f => ?_⟩, ⟨fun _ _ _ => rfl, fun _ h => h, fun b h => .inl h, fun b h => ?_, fun b h => ?_, fun b h => ?_, fun j ys q => ?_, by simp [c']⟩, rep⟩
  · show ∃ w, c.s[j]? = some (some w) ∧ SlRep K c.H (orEq c.F a) sj w
    by_cases hj : i = j
    · subst hj
      have q' : (c.n.set i (some (.val (.list xs))))[i]? = some (some sj) := q
      rw [List.getElem?_set_self hi] at q'
      cases q'
      exact ⟨_, es, rep⟩
    · have q' : (c.n.set i (some (.val (.list xs))))[j]? = some (some sj) := q
      rw [List.getElem?_set_ne hj] at q'
      obtain ⟨w, w1, rw'⟩ := S.slot j sj q'
      refine ⟨w, w1, ?_⟩
      have ne : sj.held = true → ∀ b, w = .ref b → b ≠ a := fun sh b z zz => by
        subst z; subst zz
        exact hj (S.sep i j _ sj b e q' rfl sh es w1)
      cases sj with
      | val d => exact Rep.keep fr d w rw'
      | own zs =>
        obtain ⟨b, vs, rfl, nb, hb, rb⟩ := rw'
        exact ⟨b, vs, rfl, fun z => z.elim nb (ne rfl b rfl), hb, Reps.keep fr _ _ rb⟩
      | lent zs =>
        obtain ⟨b, vs, rfl, nb, hb, rb⟩ := rw'
        exact ⟨b, vs, rfl, fun z => z.elim nb (ne rfl b rfl), hb, Reps.keep fr _ _ rb⟩
      | scr zs => exact rw'
  · obtain ⟨_, e1⟩ := old j sj e1 h1
    obtain ⟨_, e2⟩ := old k sk e2 h2
    exact S.sep j k sj sk b e1 e2 h1 h2 q1 q2
  · rcases f with f | f
    · exact S.fz b f
    · subst f
      show c.H b ≠ none
      rw [hH]; simp
  · rcases h with h | h
    · exact .inl h
    · subst h; exact .inr (.inr ⟨i, xs, e, es⟩)
  · obtain ⟨j, sj, q, qh, qs⟩ := h
    obtain ⟨_, q1⟩ := old j sj q qh
    exact .inl ⟨j, sj, q1, qh, qs⟩
  · obtain ⟨j, ys, q, qs⟩ := h
    obtain ⟨_, q1⟩ := old j _ q rfl
    exact .inl ⟨j, ys, q1, qs⟩
  · have hj : i ≠ j := fun z => by subst z; rw [e] at q; cases q
    exact ⟨ys, by show (c.n.set i _)[j]? = _; rw [List.getElem?_set_ne hj]; exact q, rfl⟩
end
end NL
end L2
/-! NL3: expressions. -/
namespace L2
namespace NL
open PySem PySem.Spec PyProof.Rows

/-- a value, or a held list read where it stands -/
def Rep1 (K : PySem.W.Frag) (H : Hp) (F : Fz) (d : PyData) (v : V) : Prop :=
  Rep K H F d v ∨ ∃ (a : Addr) (ws : List V) (xs : List PyData), d = .list xs ∧ v = .ref a ∧ H a = some (.lst ws) ∧ Reps K H F xs ws
def Reps1 (K : PySem.W.Frag) (H : Hp) (F : Fz) (ds : List PyData) (vs : List V) : Prop := Paired (Rep1 K H F) ds vs
section
variable {K : PySem.W.Frag} {H : Hp} {F : Fz}
theorem Rep1.dp {d : PyData} {v : V} (r : Rep1 K H F d v) (l : d.canLay0 = true) : Dp K H v d := by
  rcases r with r | ⟨a, ws, xs, rfl, rfl, h, r⟩
  · exact Rep.dp d v r l
  · unfold PyData.canLay0 at l
    exact .lst (SqL.of h) (Reps.dp xs ws r l)
theorem Rep1.int {i : Int} {v : V} (r : Rep1 K H F (.int i) v) : v = .int i := by
  rcases r with r | ⟨a, ws, xs, e, _⟩
  · exact r.int
  · cases e
theorem Rep1.bool {i : Bool} {v : V} (r : Rep1 K H F (.bool i) v) : v = .bl i := by
  rcases r with r | ⟨a, ws, xs, e, _⟩
  · exact r.bool
  · cases e
theorem Rep1.str {i : Str} {v : V} (r : Rep1 K H F (.str i) v) : v = .str i := by
  rcases r with r | ⟨a, ws, xs, e, _⟩
  · exact r.str
  · cases e
theorem Rep1.none {v : V} (r : Rep1 K H F .none v) : v = .non := by
  rcases r with r | ⟨a, ws, xs, e, _⟩
  · exact r.none
  · cases e
theorem Rep1.tuple {ds : List PyData} {v : V} (r : Rep1 K H F (.tuple ds) v) : ∃ a xs, v = .ref a ∧ SqT K H a xs ∧ Reps K H F ds xs := by
  rcases r with r | ⟨a, ws, xs, e, _⟩
  · exact r.tuple
  · cases e
theorem Rep1.list {ds : List PyData} {v : V} (r : Rep1 K H F (.list ds) v) : ∃ a xs, v = .ref a ∧ H a = some (.lst xs) ∧ Reps K H F ds xs := by
  rcases r with r | ⟨a, ws, xs, e, e2, h, r⟩
  · obtain ⟨a, xs, e, _, h, r⟩ := r.list
    exact ⟨a, xs, e, h, r⟩
  · cases e
    exact ⟨a, ws, e2, h, r⟩
theorem Rep1.dict {ds : List (PyData × PyData)} {v : V} (r : Rep1 K H F (.dict ds) v) : Rep K H F (.dict ds) v := by
  rcases r with r | ⟨a, ws, xs, e, _⟩
  · exact r
  · cases e
end

/-- an operand: an expression, or a held slot -/
inductive Opd where
  | e (f : NExp) | o (i : Nat)
def Opd.run (p : Opd) (n : NSt) : R AV := match p with
  | .e f => (f n).bind fun d n' => .ok (.v d) n'
  | .o i => match n[i]? with
    | some (some (.val d)) => .ok (.v d) n
    | some (some _) => .ok (.o i) n
    | _ => .bad
def AV.get (a : AV) (n : NSt) : Option PyData := match a with
  | .v d => some d
  | .o i => match n[i]? with
    | some (some sl) => sl.list?.map PyData.list
    | _ => none
def liftO {α : Type} (o : Option α) (n : NSt) : R α := match o with
  | some z => .ok z n
  | none => .bad
structure NE (X : Cx) (W : WX) (e : Expr) (f : NExp) : Prop where
  ex : ∃ t, PE X e t ∧ ∀ (c : Cf) (Q : VK), Sim X.K c → Pst X.K X.mg W (relE X.K) c Q (f c.n) → t c.s c.H Q
structure NEo (X : Cx) (W : WX) (e : Expr) (f : NSt → R (List PyData)) : Prop where
  ex : ∃ t, PE X e t ∧ ∀ (c : Cf) (Q : VK), Sim X.K c → Pst X.K X.mg W (relO X.K) c Q (f c.n) → t c.s c.H Q
def relV (K : PySem.W.Frag) : Rel AV V := fun _ c a v => AVRep K c a v
theorem mono_V {K : PySem.W.Frag} : Mono (relV K) := fun _ _ _ _ _ _ h => h
structure NO (X : Cx) (W : WX) (e : Expr) (p : Opd) : Prop where
  ex : ∃ t, PE X e t ∧ ∀ (c : Cf) (Q : VK), Sim X.K c → Pst X.K X.mg W (relV X.K) c Q (p.run c.n) → t c.s c.H Q
structure NT (X : Cx) (W : WX) (e : Expr) (f : NSt → R Bool) : Prop where
  ex : ∃ t, PT X e t ∧ ∀ (c : Cf) (Q : Bool → Hp → Prop), Sim X.K c → Pst X.K X.mg W relT c Q (f c.n) → t c.s c.H Q
structure NA (X : Cx) (W : WX) (es : List Expr) (f : NSt → R (List AV)) : Prop where
  ex : ∃ t, PA X es t ∧ ∀ (c : Cf) (Q : List V → Hp → Prop), Sim X.K c → Pst X.K X.mg W (relA X.K) c Q (f c.n) → t c.s c.H Q

section
variable {X : Cx} {W : WX} {e e2 : Expr} {f g : NExp}
theorem Sim.avGet {K : PySem.W.Frag} {c : Cf} (S : Sim K c) {a : AV} {d : PyData} {v : V} (r : AVRep K c a v) (h : a.get c.n = some d) : Rep1 K c.H c.F d v := by
  cases a with
  | v x =>
    have e : x = d := Option.some.inj h
    subst e
    exact .inl r
  | o i =>
    unfold AV.get at h
    dsimp only at h
    split at h
    · rename_i sl q
      cases z : sl.list? with
      | none => rw [z] at h; cases h
      | some xs =>
        rw [z] at h
        have e : PyData.list xs = d := Option.some.inj h
        subst e
        obtain ⟨_, b, ws, es, _, hH, rr⟩ := S.held q z
        have r' : c.s[i]? = some (some v) := r
        rw [es] at r'
        cases r'
        exact .inr ⟨b, ws, xs, rfl, rfl, hH, rr⟩
    · cases h
theorem AVRep.step {K : PySem.W.Frag} {c c' : Cf} (st : Step c c') (S : Sim K c) (hs : c'.s = c.s) {a : AV} {v : V} (r : AVRep K c a v) : AVRep K c' a v := by
  cases a with
  | v d => exact st.rep S r
  | o i =>
    show c'.s[i]? = some (some v)
    rw [hs]; exact r

theorem no_e (h : NE X W e f) : NO X W e (.e f) := by
  obtain ⟨t, pe, s⟩ := h.ex
  refine ⟨t, pe, fun c Q S p => s c Q S ?_⟩
  exact Pst.seq (rel := relE X.K) (rel' := relV X.K) mono_V p fun d n' v H' F' _ st S' r q => q v H' F' (Step.refl _) S' r
theorem no_o (i : Nat) {x : Str} {pos : Pos} (hN : X.N[i]? = some x := by rfl) (hv : Vis X.env.scope x := by first | exact Or.inl rfl | exact Or.inr (Or.inl rfl) | exact Or.inr (Or.inr rfl)) (hd : (x == ("__debug__" : Str)) = false := by decide)
    (hcd : (x == ("__classdict__" : Str)) = false := by decide) : NO X W (.Name x pos) (.o i) := by
  refine ⟨tVar i, pe_var hN hv hd hcd, fun c Q S p => ?_⟩
  unfold Opd.run at p
  dsimp only at p
  split at p
  · rename_i d e
    obtain ⟨v, e1, r⟩ := S.slot i _ e
    exact ⟨v, e1, p v c.H c.F (Step.refl _) S r⟩
  · rename_i sl _ e
    obtain ⟨v, e1, _⟩ := S.slot i _ e
    exact ⟨v, e1, p v c.H c.F (Step.refl _) S e1⟩
  · exact p.elim

/-! ### names, constants -/
def nV (i : Nat) : NExp := fun n => match n[i]? with
  | some (some (.val d)) => .ok d n
  | _ => .bad
theorem ne_v (i : Nat) {x : Str} {pos : Pos} (hN : X.N[i]? = some x := by rfl) (hv : Vis X.env.scope x := by first | exact Or.inl rfl | exact Or.inr (Or.inl rfl) | exact Or.inr (Or.inr rfl)) (hd : (x == ("__debug__" : Str)) = false := by decide)
    (hcd : (x == ("__classdict__" : Str)) = false := by decide) : NE X W (.Name x pos) (nV i) := by
  refine ⟨tVar i, pe_var hN hv hd hcd, fun c Q S p => ?_⟩
  unfold nV at p
  split at p
  · rename_i d e
    obtain ⟨v, e1, r⟩ := S.slot i _ e
    exact ⟨v, e1, p v c.H c.F (Step.refl _) S r⟩
  · exact p.elim
/-- an own list, frozen as it is read -/
def nF (i : Nat) : NExp := fun n => match n[i]? with
  | some (some (.own xs)) => .ok (.list xs) (n.set i (some (.val (.list xs))))
  | some (some (.val d)) => .ok d n
  | _ => .bad
theorem ne_f (i : Nat) {x : Str} {pos : Pos} (hN : X.N[i]? = some x := by rfl) (hv : Vis X.env.scope x := by first | exact Or.inl rfl | exact Or.inr (Or.inl rfl) | exact Or.inr (Or.inr rfl)) (hd : (x == ("__debug__" : Str)) = false := by decide)
    (hcd : (x == ("__classdict__" : Str)) = false := by decide) : NE X W (.Name x pos) (nF i) := by
  refine ⟨tVar i, pe_var hN hv hd hcd, fun c Q S p => ?_⟩
  unfold nF at p
  split at p
  · rename_i xs e
    obtain ⟨a, F', e1, S', st, r⟩ := S.frzSlot e
    exact ⟨_, e1, p _ c.H F' st S' r⟩
  · rename_i d e
    obtain ⟨v, e1, r⟩ := S.slot i _ e
    exact ⟨v, e1, p v c.H c.F (Step.refl _) S r⟩
  · exact p.elim
def nC (d : PyData) : NExp := fun n => .ok d n
theorem ne_c {d : PyData} {v : V} (h : PE X e (tC v)) (r : ∀ H F, Rep X.K H F d v) : NE X W e (nC d) := ⟨tC v, h, fun c Q S p => p v c.H c.F (Step.refl _) S (r _ _)⟩
theorem ne_int {i : Int} {j pos} : NE X W (.Constant (.int i) j pos) (nC (.int i)) := ne_c pe_int fun _ _ => Rep.mkInt
theorem ne_bool {i : Bool} {j pos} : NE X W (.Constant (.bool i) j pos) (nC (.bool i)) := ne_c pe_bl fun _ _ => Rep.mkBool
theorem ne_none {j pos} : NE X W (.Constant .none j pos) (nC .none) := ne_c pe_non fun _ _ => Rep.mkNone
theorem ne_str {i : Str} {j pos} : NE X W (.Constant (.str i) j pos) (nC (.str i)) := ne_c pe_str fun _ _ => Rep.mkStr
/-- what the written part says a module's name is -/
def Gv (K : PySem.W.Frag) (mg : Str → Option Value) (x : Str) (d : PyData) : Prop := ∃ v u, mg x = some u ∧ RelV v u ∧ ∀ H F, Rep K H F d v
theorem ne_g {x : Str} {pos : Pos} {d : PyData} (g : Gv X.K X.mg x d) (hg : Gl X x := by rfl) (hd : (x == ("__debug__" : Str)) = false := by decide) : NE X W (.Name x pos) (nC d) := by
  obtain ⟨v, u, hm, r, q⟩ := g
  exact ne_c (pe_glob hg hm r hd) q

/-! ### operators -/
def Op2 (X : Cx) (r : R2) (o : PyData → PyData → Option PyData) : Prop := ∀ (c : Cf) (x y z : PyData) (vx vy : V) (Q : VK), Sim X.K c → Rep1 X.K c.H c.F x vx → Rep1 X.K c.H c.F y vy → o x y = some z →
  (∀ v H' F', Step c ⟨c.n, c.s, H', F'⟩ → Sim X.K ⟨c.n, c.s, H', F'⟩ → Rep X.K H' F' z v → Q v H') → r vx vy c.H Q
def nOp2 (o : PyData → PyData → Option PyData) (p q : Opd) : NExp := fun n => (p.run n).bind fun a n1 => (q.run n1).bind fun b n2 => match a.get n2, b.get n2 with
  | some x, some y => liftO (o x y) n2
  | _, _ => .bad
/-- two operands, then what is asked of both -/
theorem two {p q : Opd} {ta tb : TE} {o : PyData → PyData → Option PyData} {r : R2} (sa : ∀ (c : Cf) (Q : VK), Sim X.K c → Pst X.K X.mg W (relV X.K) c Q (p.run c.n) → ta c.s c.H Q)
    (sb : ∀ (c : Cf) (Q : VK), Sim X.K c → Pst X.K X.mg W (relV X.K) c Q (q.run c.n) → tb c.s c.H Q) (no : Op2 X r o) {c : Cf} {Q : VK} (S : Sim X.K c) (h : Pst X.K X.mg W (relE X.K) c Q (nOp2 o p q c.n)) :
    ta c.s c.H fun x H1 => tb c.s H1 fun y H2 => r x y H2 Q := by
  refine sa c _ S (Pst.seq (rel := relV X.K) mono_E h fun a n1 vx H1 F1 _ st1 S1 rx h1 => ?_)
  refine sb ⟨n1, c.s, H1, F1⟩ _ S1 (Pst.seq (rel := relV X.K) mono_E h1 fun b n2 vy H2 F2 _ st2 S2 ry h2 => ?_)
  cases ea : a.get n2 with
  | none => rw [ea] at h2; exact h2.elim
  | some x =>
    cases eb : b.get n2 with
    | none => rw [ea, eb] at h2; exact h2.elim
    | some y =>
      rw [ea, eb] at h2
      dsimp only at h2
      cases eo : o x y with
      | none => rw [eo] at h2; exact h2.elim
      | some z =>
        rw [eo] at h2
        exact no ⟨n2, c.s, H2, F2⟩ x y z vx vy Q S2 (S2.avGet (AVRep.step st2 S1 rfl rx) ea) (S2.avGet ry eb) eo fun v H' F' st' S' r' => h2 v H' F' st' S' r'
theorem ne_op {op : Operator} {r : R2} {o : PyData → PyData → Option PyData} {p q : Opd} {pos : Pos} (ho : OpR X (binaryOp op) r) (no : Op2 X r o) (ha : NO X W e p) (hb : NO X W e2 q) : NE X W (.BinOp e op e2 pos) (nOp2 o p q) := by
  obtain ⟨ta, pa, sa⟩ := ha.ex
  obtain ⟨tb, pb, sb⟩ := hb.ex
  exact ⟨tOp r ta tb, pe_op ho pa pb, fun c Q S h => two sa sb no S h⟩
theorem ne_cmp {op : CmpOp} {r : R2} {o : PyData → PyData → Option PyData} {p q : Opd} {pos : Pos} (ho : OpR X (compareOp op) r) (no : Op2 X r o) (ha : NO X W e p) (hb : NO X W e2 q) (hm : behindInMarks op e2 = false) : NE X W (.Compare e [op] [e2] pos) (nOp2 o p q) := by
  obtain ⟨ta, pa, sa⟩ := ha.ex
  obtain ⟨tb, pb, sb⟩ := hb.ex
  exact ⟨tOp r ta tb, pe_cmpR ho pa pb hm, fun c Q S h => two sa sb no S h⟩
/-- a value that is a truth value, as a test -/
def asB (f : NExp) : NSt → R Bool := fun n => (f n).bind fun d n' => match d with
  | .bool b => .ok b n'
  | _ => .bad
theorem asB_st {c : Cf} {t : TE} {Q : Bool → Hp → Prop} (s : ∀ (c : Cf) (Q : VK), Sim X.K c → Pst X.K X.mg W (relE X.K) c Q (f c.n) → t c.s c.H Q) (S : Sim X.K c) (h : Pst X.K X.mg W relT c Q (asB f c.n)) :
    t c.s c.H fun x H' => ∃ k, x = .bl k ∧ Q k H' := by
  refine s c _ S (Pst.seq (rel := relE X.K) (rel' := relT) mono_T h fun d n' v H' F' _ st S' r q => ?_)
  cases d with
  | bool b => exact ⟨b, Rep.bool (K := X.K) (H := H') (F := F') r, q b H' F' (Step.refl _) S' rfl⟩
  | _ => exact q.elim
theorem nt_cmp {op : CmpOp} {r : R2} {o : PyData → PyData → Option PyData} {p q : Opd} {pos : Pos} (ho : OpR X (compareOp op) r) (no : Op2 X r o) (ha : NO X W e p) (hb : NO X W e2 q) (hm : behindInMarks op e2 = false) : NT X W (.Compare e [op] [e2] pos) (asB (nOp2 o p q)) := by
  obtain ⟨ta, pa, sa⟩ := ha.ex
  obtain ⟨tb, pb, sb⟩ := hb.ex
  exact ⟨tTest (tOp r ta tb), pt_cmpR ho pa pb hm, fun c Q S h => asB_st (t := tOp r ta tb) (fun c Q S h => two sa sb no S h) S h⟩
/-- any expression whose test is its value's truth value -/
theorem nt_b (h : NE X W e f) (he : ∀ whole, isTrue e X.env whole = (do let v ← whole; standAt e.pos; holding [v] (truthy v)) := by intro _; rfl) : NT X W e (asB f) := by
  obtain ⟨t, pe, s⟩ := h.ex
  exact ⟨_, pt_val pe he, fun c Q S p => asB_st s S p⟩
def truthOf : PyData → Option Bool
  | .none => some false
  | .bool b => some b
  | .int i => some (i != 0)
  | .str y => if y.length ≤ sizeLine then some ((y.length : Int) != 0) else none
  | .list xs => some !xs.isEmpty
  | .tuple xs => some !xs.isEmpty
  | .dict _ => none
theorem Reps.isEmpty {K : PySem.W.Frag} {H : Hp} {F : Fz} : ∀ {ds : List PyData} {vs : List V}, Reps K H F ds vs → vs.isEmpty = ds.isEmpty
  | [], _, r => by unfold Reps at r; subst r; rfl
  | d :: ds, _, r => by
    unfold Reps at r
    obtain ⟨v, vs, rfl, _, _⟩ := r
    rfl
theorem truthOf_ok {K : PySem.W.Frag} {H : Hp} {F : Fz} {d : PyData} {v : V} {k : Bool} (r : Rep1 K H F d v) (h : truthOf d = some k) : TruV K v H k := by
  cases d with
  | none => rw [r.none]; cases h; rfl
  | bool b => rw [r.bool]; cases h; rfl
  | int i => rw [r.int]; cases h; rfl
  | str y =>
    rw [r.str]
    have h : (if y.length ≤ sizeLine then some ((y.length : Int) != 0) else Option.none) = some k := h
    split at h
    · rename_i q
      cases h
      exact ⟨q, rfl⟩
    · cases h
  | list xs =>
    obtain ⟨a, ws, rfl, h1, r1⟩ := r.list
    cases h
    exact .inl ⟨ws, SqL.of h1, by rw [r1.isEmpty]⟩
  | tuple xs =>
    obtain ⟨a, ws, rfl, h1, r1⟩ := r.tuple
    cases h
    exact .inr (.inl ⟨ws, h1, by rw [r1.isEmpty]⟩)
  | dict kvs => cases h
def asT (p : Opd) : NSt → R Bool := fun n => (p.run n).bind fun a n' => match a.get n' with
  | some d => liftO (truthOf d) n'
  | none => .bad
/-- any expression's truth -/
theorem nt_t {p : Opd} (h : NO X W e p) (he : ∀ whole, isTrue e X.env whole = (do let v ← whole; standAt e.pos; holding [v] (truthy v)) := by intro _; rfl) : NT X W e (asT p) := by
  obtain ⟨t, pe, s⟩ := h.ex
  refine ⟨_, pt_truth pe he, fun c Q S q => ?_⟩
  refine s c _ S (Pst.seq (rel := relV X.K) (rel' := relT) mono_T q fun a n' v H' F' _ st S' r q' => ?_)
  cases ea : a.get n' with
  | none => rw [ea] at q'; exact q'.elim
  | some d =>
    rw [ea] at q'
    dsimp only at q'
    cases ed : truthOf d with
    | none => rw [ed] at q'; exact q'.elim
    | some k =>
      rw [ed] at q'
      exact ⟨k, truthOf_ok (S'.avGet r ea) ed, q' k H' F' (Step.refl _) S' rfl⟩

/-! ### and, or, not, if else -/
def tAnd' (f g : NSt → R Bool) : NSt → R Bool := fun n => (f n).bind fun b n' => if b = true then g n' else .ok false n'
def tOr' (f g : NSt → R Bool) : NSt → R Bool := fun n => (f n).bind fun b n' => if b = true then .ok true n' else g n'
def tNot' (f : NSt → R Bool) : NSt → R Bool := fun n => (f n).bind fun b n' => .ok (!b) n'
structure NW (X : Cx) (W : WX) (e : Expr) (f : NSt → R Bool) : Prop where
  ex : ∃ t, PW X e t ∧ ∀ (c : Cf) (Q : Bool → Hp → Prop), Sim X.K c → Pst X.K X.mg W relT c Q (f c.n) → t c.s c.H Q
section
variable {a b : Expr} {rest : List Expr} {pos : Pos} {fa fb : NSt → R Bool} {va vb : NExp}
theorem NW.t (h : NW X W e fa) : NT X W e fa := let ⟨t, p, s⟩ := h.ex; ⟨t, p.pt, s⟩
theorem nw_and1 (h : NT X W a fa) : NW X W (.BoolOp .And [a] pos) fa := let ⟨t, p, s⟩ := h.ex; ⟨t, pw_and1 p, s⟩
theorem nw_or1 (h : NT X W a fa) : NW X W (.BoolOp .Or [a] pos) fa := let ⟨t, p, s⟩ := h.ex; ⟨t, pw_or1 p, s⟩
theorem nw_and (ha : NT X W a fa) (hb : NW X W (.BoolOp .And (b :: rest) pos) fb) : NW X W (.BoolOp .And (a :: b :: rest) pos) (tAnd' fa fb) := by
  obtain ⟨ta, pa, sa⟩ := ha.ex
  obtain ⟨tb, pb, sb⟩ := hb.ex
  refine ⟨tAnd ta tb, pw_and pa pb, fun c Q S h => ?_⟩
  refine sa c _ S (Pst.seq (rel := relT) (rel' := relT) mono_T h fun k n' k' H' F' _ st S' r q => ?_)
  cases r
  cases k with
  | true => exact iteT (sb ⟨n', c.s, H', F'⟩ Q S' q)
  | false => exact iteF (q false H' F' (Step.refl _) S' rfl)
theorem nw_or (ha : NT X W a fa) (hb : NW X W (.BoolOp .Or (b :: rest) pos) fb) : NW X W (.BoolOp .Or (a :: b :: rest) pos) (tOr' fa fb) := by
  obtain ⟨ta, pa, sa⟩ := ha.ex
  obtain ⟨tb, pb, sb⟩ := hb.ex
  refine ⟨tOr ta tb, pw_or pa pb, fun c Q S h => ?_⟩
  refine sa c _ S (Pst.seq (rel := relT) (rel' := relT) mono_T h fun k n' k' H' F' _ st S' r q => ?_)
  cases r
  cases k with
  | true => exact iteT (q true H' F' (Step.refl _) S' rfl)
  | false => exact iteF (sb ⟨n', c.s, H', F'⟩ Q S' q)
theorem nt_not (ha : NT X W a fa) : NT X W (.UnaryOp .Not a pos) (tNot' fa) := by
  obtain ⟨ta, pa, sa⟩ := ha.ex
  refine ⟨tNot ta, pt_not pa, fun c Q S h => ?_⟩
  refine sa c _ S (Pst.seq (rel := relT) (rel' := relT) mono_T h fun k n' k' H' F' _ st S' r q => ?_)
  cases r
  exact q (!k) H' F' (Step.refl _) S' rfl
def nAnd (f g : NExp) : NExp := fun n => (f n).bind fun d n' => match d with
  | .bool true => g n'
  | .bool false => .ok (.bool false) n'
  | _ => .bad
def nOr (f g : NExp) : NExp := fun n => (f n).bind fun d n' => match d with
  | .bool true => .ok (.bool true) n'
  | .bool false => g n'
  | _ => .bad
def nNot (f : NExp) : NExp := fun n => (f n).bind fun d n' => match d with
  | .bool b => .ok (.bool (!b)) n'
  | _ => .bad
theorem ne_one {op} (h : NE X W a va) : NE X W (.BoolOp op [a] pos) va := let ⟨t, p, s⟩ := h.ex; ⟨t, pe_one p, s⟩
theorem ne_and (ha : NE X W a va) (hb : NE X W (.BoolOp .And (b :: rest) pos) vb) : NE X W (.BoolOp .And (a :: b :: rest) pos) (nAnd va vb) := by
  obtain ⟨ta, pa, sa⟩ := ha.ex
  obtain ⟨tb, pb, sb⟩ := hb.ex
  refine ⟨tAndV ta tb, pe_and pa pb, fun c Q S h => ?_⟩
  refine sa c _ S (Pst.seq (rel := relE X.K) (rel' := relE X.K) mono_E h fun d n' v H' F' _ st S' r q => ?_)
  cases d with
  | bool k =>
    refine ⟨k, Rep.bool (K := X.K) (H := H') (F := F') r, ?_⟩
    cases k with
    | true => exact iteT (sb ⟨n', c.s, H', F'⟩ Q S' q)
    | false => exact iteF (q _ H' F' (Step.refl _) S' Rep.mkBool)
  | _ => exact q.elim
theorem ne_or (ha : NE X W a va) (hb : NE X W (.BoolOp .Or (b :: rest) pos) vb) : NE X W (.BoolOp .Or (a :: b :: rest) pos) (nOr va vb) := by
  obtain ⟨ta, pa, sa⟩ := ha.ex
  obtain ⟨tb, pb, sb⟩ := hb.ex
  refine ⟨tOrV ta tb, pe_or pa pb, fun c Q S h => ?_⟩
  refine sa c _ S (Pst.seq (rel := relE X.K) (rel' := relE X.K) mono_E h fun d n' v H' F' _ st S' r q => ?_)
  cases d with
  | bool k =>
    refine ⟨k, Rep.bool (K := X.K) (H := H') (F := F') r, ?_⟩
    cases k with
    | true => exact iteT (q _ H' F' (Step.refl _) S' Rep.mkBool)
    | false => exact iteF (sb ⟨n', c.s, H', F'⟩ Q S' q)
  | _ => exact q.elim
theorem ne_not (ha : NE X W a va) : NE X W (.UnaryOp .Not a pos) (nNot va) := by
  obtain ⟨ta, pa, sa⟩ := ha.ex
  refine ⟨tNotV ta, pe_not pa, fun c Q S h => ?_⟩
  refine sa c _ S (Pst.seq (rel := relE X.K) (rel' := relE X.K) mono_E h fun d n' v H' F' _ st S' r q => ?_)
  cases d with
  | bool k => exact ⟨k, Rep.bool (K := X.K) (H := H') (F := F') r, q _ H' F' (Step.refl _) S' Rep.mkBool⟩
  | _ => exact q.elim
def nIf (t : NSt → R Bool) (f g : NExp) : NExp := fun n => (t n).bind fun b n' => if b = true then f n' else g n'
theorem ne_if {c : Expr} {ft : NSt → R Bool} (hc : NT X W c ft) (ha : NE X W a va) (hb : NE X W b vb) : NE X W (.IfExp c a b pos) (nIf ft va vb) := by
  obtain ⟨tc, pc, sc⟩ := hc.ex
  obtain ⟨ta, pa, sa⟩ := ha.ex
  obtain ⟨tb, pb, sb⟩ := hb.ex
  refine ⟨tIf tc ta tb, pe_ifExp pc pa pb, fun c Q S h => ?_⟩
  refine sc c _ S (Pst.seq (rel := relT) (rel' := relE X.K) mono_E h fun k n' k' H' F' _ st S' r q => ?_)
  cases r
  cases k with
  | true => exact iteT (sa ⟨n', c.s, H', F'⟩ Q S' q)
  | false => exact iteF (sb ⟨n', c.s, H', F'⟩ Q S' q)
end
/-! ### unary -/
def nNeg (f : NExp) : NExp := fun n => (f n).bind fun d n' => match d with
  | .int i => .ok (.int (-i)) n'
  | _ => .bad
theorem ne_neg {pos : Pos} (ha : NE X W e f) : NE X W (.UnaryOp .USub e pos) (nNeg f) := by
  obtain ⟨ta, pa, sa⟩ := ha.ex
  refine ⟨tUn (rU fun i => .int (-i)) ta, pe_un un_neg pa, fun c Q S h => ?_⟩
  refine sa c _ S (Pst.seq (rel := relE X.K) (rel' := relE X.K) mono_E h fun d n' v H' F' _ st S' r q => ?_)
  cases d with
  | int k => exact ⟨k, Rep.int (K := X.K) (H := H') (F := F') r, q _ H' F' (Step.refl _) S' Rep.mkInt⟩
  | _ => exact q.elim
/-! ### argument lists -/
def aNil : NSt → R (List AV) := fun n => .ok [] n
def aCons (p : Opd) (f : NSt → R (List AV)) : NSt → R (List AV) := fun n => (p.run n).bind fun a n1 => (f n1).bind fun as n2 => .ok (a :: as) n2
theorem na_nil : NA X W [] aNil := ⟨tNil, pa_nil, fun c Q S h => h [] c.H c.F (Step.refl _) S .nil⟩
theorem Paired.mapAV {K : PySem.W.Frag} {c c' : Cf} (st : Step c c') (S : Sim K c) (hs : c'.s = c.s) : ∀ {as : List AV} {vs : List V}, Paired (AVRep K c) as vs → Paired (AVRep K c') as vs
  | _, _, .nil => .nil
  | _, _, .cons r t => .cons (AVRep.step st S hs r) (Paired.mapAV st S hs t)
theorem na_cons {es : List Expr} {p : Opd} {fs : NSt → R (List AV)} (ha : NO X W e p) (hr : NA X W es fs) (hs : starEach (e :: es) X.env = (false, eval e X.env) :: starEach es X.env := by rfl) : NA X W (e :: es) (aCons p fs) := by
  obtain ⟨ta, pa, sa⟩ := ha.ex
  obtain ⟨tr, pr, sr⟩ := hr.ex
  refine ⟨tCons ta tr, pa_cons pa pr hs, fun c Q S h => ?_⟩
  refine sa c _ S (Pst.seq (rel := relV X.K) (rel' := relA X.K) mono_A h fun a n1 v H1 F1 _ st1 S1 r1 h1 => ?_)
  refine sr ⟨n1, c.s, H1, F1⟩ _ S1 (Pst.seq (rel := relA X.K) (rel' := relA X.K) mono_A h1 fun as n2 vs H2 F2 _ st2 S2 r2 h2 => ?_)
  exact h2 (v :: vs) H2 F2 (Step.refl _) S2 (.cons (AVRep.step st2 S1 rfl r1) r2)
def getAll (n : NSt) : List AV → Option (List PyData)
  | [] => some []
  | a :: as => match a.get n, getAll n as with
    | some d, some ds => some (d :: ds)
    | _, _ => none
theorem Sim.getAll {K : PySem.W.Frag} {c : Cf} (S : Sim K c) : ∀ {as : List AV} {vs : List V} {ds : List PyData}, Paired (AVRep K c) as vs → NL.getAll c.n as = some ds → Reps1 K c.H c.F ds vs
  | _, _, _, .nil, h => by cases h; exact .nil
  | a :: as, v :: vs, ds, .cons r t, h => by
    unfold NL.getAll at h
    cases e1 : a.get c.n with
    | none => rw [e1] at h; cases h
    | some d =>
      cases e2 : NL.getAll c.n as with
      | none => rw [e1, e2] at h; cases h
      | some ds' =>
        rw [e1, e2] at h
        cases h
        exact .cons (S.avGet r e1) (S.getAll t e2)
/-- a built-in's call, by values -/
def CallN (X : Cx) (r : List V → Hp → VK → Prop) (o : List PyData → Option PyData) : Prop := ∀ (c : Cf) (ds : List PyData) (z : PyData) (vs : List V) (Q : VK), Sim X.K c → Reps1 X.K c.H c.F ds vs → o ds = some z →
  (∀ v H' F', Step c ⟨c.n, c.s, H', F'⟩ → Sim X.K ⟨c.n, c.s, H', F'⟩ → Rep X.K H' F' z v → Q v H') → r vs c.H Q
def nCB (o : List PyData → Option PyData) (fs : NSt → R (List AV)) : NExp := fun n => (fs n).bind fun as n1 => match getAll n1 as with
  | some ds => liftO (o ds) n1
  | none => .bad
theorem cb_st {fs : NSt → R (List AV)} {t : TA} {r : List V → Hp → VK → Prop} {o : List PyData → Option PyData} (s : ∀ (c : Cf) (Q : List V → Hp → Prop), Sim X.K c → Pst X.K X.mg W (relA X.K) c Q (fs c.n) → t c.s c.H Q) (no : CallN X r o)
    {c : Cf} {Q : VK} (S : Sim X.K c) (h : Pst X.K X.mg W (relE X.K) c Q (nCB o fs c.n)) : t c.s c.H fun vs H1 => r vs H1 Q := by
  refine s c _ S (Pst.seq (rel := relA X.K) (rel' := relE X.K) mono_E h fun as n1 vs H1 F1 _ st1 S1 r1 h1 => ?_)
  cases e : NL.getAll n1 as with
  | none => rw [e] at h1; exact h1.elim
  | some ds =>
    rw [e] at h1
    dsimp only at h1
    cases eo : o ds with
    | none => rw [eo] at h1; exact h1.elim
    | some z =>
      rw [eo] at h1
      exact no ⟨n1, c.s, H1, F1⟩ ds z vs Q S1 (S1.getAll r1 e) eo fun v H' F' st' S' r' => h1 v H' F' st' S' r'
theorem ne_cb {x : Str} {p pos : Pos} {es : List Expr} {fs : NSt → R (List AV)} {id : String} {r : List V → Hp → VK → Prop} {o : List PyData → Option PyData} (hc : CallR X (.builtin id) r) (no : CallN X r o) (hm : X.mg x = none) (hv : bootBuiltins x = some (.builtin id)) (ha : NA X W (e :: es) fs)
    (hg : Gl X x := by rfl) (hn : x ≠ "__name__" := by decide) (hdb : (x == ("__debug__" : Str)) = false := by decide)
    (he : starEach (e :: es) X.env = (false, eval e X.env) :: starEach es X.env := by rfl) (hpl : (backTo pos (starEach es X.env)).any (·.1) = false := by rfl) : NE X W (.Call (.Name x p) (e :: es) [] pos) (nCB o fs) := by
  obtain ⟨t, pa, s⟩ := ha.ex
  exact ⟨_, pe_callB hc hg hm hv pa hn hdb he hpl, fun c Q S h => cb_st s no S h⟩
theorem ne_cty {x : Str} {p pos : Pos} {es : List Expr} {fs : NSt → R (List AV)} {T : String} {r : List V → Hp → VK → Prop} {o : List PyData → Option PyData} (hc : CallR X (.type T) r) (no : CallN X r o) (hm : X.mg x = none) (hv : bootBuiltins x = some (.type T)) (ha : NA X W (e :: es) fs)
    (hg : Gl X x := by rfl) (hn : x ≠ "__name__" := by decide) (hdb : (x == ("__debug__" : Str)) = false := by decide)
    (he : starEach (e :: es) X.env = (false, eval e X.env) :: starEach es X.env := by rfl) (hpl : (backTo pos (starEach es X.env)).any (·.1) = false := by rfl) : NE X W (.Call (.Name x p) (e :: es) [] pos) (nCB o fs) := by
  obtain ⟨t, pa, s⟩ := ha.ex
  exact ⟨_, pe_callTy hc hg hm hv pa hn hdb he hpl, fun c Q S h => cb_st s no S h⟩
/-! ### displays -/
def nTup (fs : NSt → R (List AV)) : NExp := fun n => (fs n).bind fun as n1 => match plains as with
  | some ds => if ds.length ≤ sizeLine then .ok (.tuple ds) n1 else .bad
  | none => .bad
where plains : List AV → Option (List PyData)
  | [] => some []
  | .v d :: as => (plains as).map (d :: ·)
  | .o _ :: _ => none
theorem plains_ok {K : PySem.W.Frag} {c : Cf} : ∀ {as : List AV} {vs : List V} {ds : List PyData}, Paired (AVRep K c) as vs → nTup.plains as = some ds → Reps K c.H c.F ds vs
  | _, _, _, .nil, h => by cases h; exact Reps.nil
  | .v d :: as, v :: vs, ds, .cons r t, h => by
    unfold nTup.plains at h
    cases e : nTup.plains as with
    | none => rw [e] at h; cases h
    | some ds' =>
      rw [e] at h
      cases h
      exact Reps.cons r (plains_ok t e)
  | .o i :: as, _, _, .cons _ _, h => by cases h
theorem ne_tup {es : List Expr} {fs : NSt → R (List AV)} {x1} {pos : Pos} (h : NA X W es fs) : NE X W (.Tuple es x1 pos) (nTup fs) := by
  obtain ⟨t, pa, s⟩ := h.ex
  refine ⟨tTup t, pe_tup pa, fun c Q S h => ?_⟩
  refine s c _ S (Pst.seq (rel := relA X.K) (rel' := relE X.K) mono_E h fun as n1 vs H1 F1 _ st1 S1 r1 h1 => ?_)
  cases e : nTup.plains as with
  | none => rw [e] at h1; exact h1.elim
  | some ds =>
    rw [e] at h1
    dsimp only at h1
    split at h1
    · rename_i hz
      have rr : Reps X.K H1 F1 ds vs := plains_ok (c := ⟨n1, c.s, H1, F1⟩) r1 e
      refine ⟨by rw [rr.length]; exact hz, fun p hp => ?_⟩
      obtain ⟨S2, st2, r2⟩ := S1.newTup (p := p) hp rr
      exact h1 _ _ _ st2 S2 r2
    · exact h1.elim
def nLstO (fs : NSt → R (List AV)) : NSt → R (List PyData) := fun n => (fs n).bind fun as n1 => match nTup.plains as with
  | some ds => if ds.length ≤ sizeLine then .ok ds n1 else .bad
  | none => .bad
theorem neo_lst {es : List Expr} {fs : NSt → R (List AV)} {pos : Pos} (h : NA X W es fs) : NEo X W (.List es pos) (nLstO fs) := by
  obtain ⟨t, pa, s⟩ := h.ex
  refine ⟨tLst t, pe_lst pa, fun c Q S h => ?_⟩
  refine s c _ S (Pst.seq (rel := relA X.K) (rel' := relO X.K) mono_O h fun as n1 vs H1 F1 _ st1 S1 r1 h1 => ?_)
  cases e : nTup.plains as with
  | none => rw [e] at h1; exact h1.elim
  | some ds =>
    rw [e] at h1
    dsimp only at h1
    split at h1
    · rename_i hz
      have rr : Reps X.K H1 F1 ds vs := plains_ok (c := ⟨n1, c.s, H1, F1⟩) r1 e
      refine ⟨by rw [rr.length]; exact hz, fun p hp => ?_⟩
      obtain ⟨S2, st2, r2⟩ := S1.newLst (p := p) hp rr
      exact h1 _ _ _ st2 S2 r2
    · exact h1.elim
/-- a new list, frozen at once -/
def nL (f : NSt → R (List PyData)) : NExp := fun n => (f n).bind fun xs n' => .ok (.list xs) n'
theorem ne_l {fo : NSt → R (List PyData)} (h : NEo X W e fo) : NE X W e (nL fo) := by
  obtain ⟨t, pe, s⟩ := h.ex
  refine ⟨t, pe, fun c Q S h => ?_⟩
  refine s c _ S ?_
  unfold nL at h
  cases q : fo c.n with
  | ok xs n' =>
    rw [q] at h
    intro v H' F' st S' r
    obtain ⟨F2, S2, st2, r2⟩ := Sim.freeze S st S' r
    exact h v H' F2 st2 S2 r2
  | err x n' => rw [q] at h; exact h
  | bad => rw [q] at h; exact h
end
end NL
end L2
/-! NLrev: list(reversed(a list)). -/
namespace RT
open PySem PySem.Spec PyProof.Rows
section
variable {prog : Program} {w : World} {A : Around} {E : Value → Shared → Prop} {s : Shared}
theorem extend_rev {R : Result → Shared → Prop} {it l S : Addr} {items : Array Value} {res : Value} {c₀ : Nat} (hh : A.handled = none) (hit : s.heap.IsRevIter it l ((items.size : Int) - 1)) (hl : s.heap.IsList l items) (hn : items.size ≤ sizeLine)
    (hne : l ≠ it) (hSi : S ≠ it) (hSl : S ≠ l) (hS₁ : s.heap.get? S = some { cls := .type "list", data := .seq #[] c₀ })
    (hR : ∀ h' tk acc' c', (∀ b o, b ≠ S → b ≠ it → s.heap.get? b = some o → h'.get? b = some o) → h'.get? S = some { cls := .type "list", dict := none, data := .seq acc' c', slots := #[] } →
      ItemsOf (fun i v => items[items.size - 1 - i]? = some v) acc' items.size → R (.ok (.ret res)) { s with heap := h', toks := tk }) :
    wpAny (model prog w) A.in1 (Builtin.List.listExtendWith (.ref S) (.ref it) res)
      (fun fin s' => match fin with | .done f => R (.ok f) s' | .again c' => c'.quiet = true ∧ codeAny (model prog w) A c' R s') (fun e s' => R (.error e) s') s := by
  have W := (Walks.listRev (prog := prog) (w := w) (A := A.in1) hh it l hne items).toS
  have hSf : S ∉ [it, l] := by simp only [List.mem_cons, List.not_mem_nil, or_false, not_or]; exact ⟨hSi, hSl⟩
  have hT : s.TypeIs (.ref it) "list_reverseiterator" := hit.typeIs
  have h1 : Builtin.List.listSameRef (.ref S) (.ref it) = false := by simp [Builtin.List.listSameRef, hSi]
  unfold Builtin.List.listExtendWith
  refine wpAny_bind (wpAny_typeOf hT ?_)
  rw [if_neg (by rw [h1]; decide)]
  refine wpAny_bind (wpAny_pyIter_revIter hit ?_)
  refine wpAny_bind (wpAny_holding ?_)
  unfold Builtin.List.listLengthHint
  refine wpAny_bind (wpAny_specialOf hT nolen_lri ?_)
  show wpAny _ A.in1 (specialOf (Value.ref it) (Str.ofString "__length_hint__") >>= _) _ _ _
  refine wpAny_bind (wpAny_specialOf hT hint_lri ?_)
  generalize hid : ("list_reverseiterator.__length_hint__" : String) = id0
  wp_delta
  rw [show splitId id0 = some ("list_reverseiterator", "__length_hint__") from by subst hid; decide +kernel]
  subst hid
  refine wpAny_bind (wpAny_isInstance (b := true) hT (by rw [isSubtype_type]; kernel_rfl) ?_)
  refine wpAny_pure ?_
  have e0 : ((items.size : Nat) : Int) - 1 - ((0 : Nat) : Int) = (items.size : Int) - 1 := by omega
  have key : ∀ (h : Heap) (c₁ tk : Nat), h.IsRevIter it l ((items.size : Int) - 1) → h.IsList l items → (∀ b o, b ≠ S → s.heap.get? b = some o → h.get? b = some o) →
      h.get? S = some { cls := .type "list", data := .seq #[] c₁ } → codeAny (model prog w) A (.builtin "list.extend.loop" ⟨[.ref S, .ref it, res], []⟩) R { s with heap := h, toks := tk } := by
    intro h c₁ tk hit' hl' hk hS'
    refine codeAny_extend_loopS W hn S hSf res items.size 0 _ #[] c₁ rfl (Nat.zero_le _) ⟨Nat.zero_le _, by rw [e0]; exact hit', hl'⟩ hS' (ItemsOf.nil _) fun s' acc' c' hm hS2 hacc => ?_
    rw [Moved.eq_with hm]
    refine hR s'.heap s'.toks acc' c' (fun b o hb hb2 e => hm.heap b o (fun hmem => ?_) (hk b o hb e)) hS2 hacc
    rcases List.mem_cons.mp hmem with e' | hmem
    · exact hb e'
    · exact hb2 (List.mem_singleton.mp hmem)
  rw [if_neg (by decide)]
  exact wpAny_pure ⟨plainId_quiet F.plain_extend_loop _, key _ c₀ _ hit hl (fun b o _ e => e) hS₁⟩
theorem list_init_rev {R : Result → Shared → Prop} {it l S : Addr} {items : Array Value} (hh : A.handled = none) (hit : s.heap.IsRevIter it l ((items.size : Int) - 1)) (hl : s.heap.IsList l items) (hn : items.size ≤ sizeLine)
    (hne : l ≠ it) (hSi : S ≠ it) (hSl : S ≠ l) (hS : s.heap.get? S = some { cls := .type "list", data := .seq #[] })
    (hR : ∀ h' tk acc' c', (∀ b o, b ≠ S → b ≠ it → s.heap.get? b = some o → h'.get? b = some o) → h'.get? S = some { cls := .type "list", dict := none, data := .seq acc' c', slots := #[] } →
      ItemsOf (fun i v => items[items.size - 1 - i]? = some v) acc' items.size → R (.ok (.ret .none)) { s with heap := h', toks := tk }) :
    wpAny (model prog w) A.in1 (Builtin.«list.__init__» ⟨[.ref S, .ref it], []⟩)
      (fun fin s' => match fin with | .done f => R (.ok f) s' | .again c' => c'.quiet = true ∧ codeAny (model prog w) A c' R s') (fun e s' => R (.error e) s') s := by
  show wpAny _ _ (do let old ← Builtin.List.listItems (.ref S); Builtin.List.listUpdate (.ref S) (fun _ => #[]); letGo old.toList.reverse; Builtin.List.listExtendWith (.ref S) (.ref it) .none) _ _ s
  refine wpAny_bind ?_
  unfold Builtin.List.listItems
  refine wpAny_bind (wpAny_seqItems hS rfl (wpAny_pure ?_))
  show wpAny _ _ (updateSeq S (fun _ => #[]) >>= fun _ => letGo (#[] : Array Value).toList.reverse >>= fun _ => Builtin.List.listExtendWith (.ref S) (.ref it) .none) _ _ s
  refine wpAny_bind (wpAny_updateSeq hS rfl ?_)
  have hS₂ := Heap.get?_update_self (Obj.mapSeq (fun _ => (#[] : Array Value))) hS rfl
  have oth : ∀ b o, b ≠ S → s.heap.get? b = some o → (s.heap.update S (Obj.mapSeq (fun _ => (#[] : Array Value)))).get? b = some o :=
    fun b o hb e => (Heap.get?_update_other _ _ (Ne.symm hb)).trans e
  refine wpAny_bind (wpAny_letGo ?_)
  obtain ⟨ol, hol, hr⟩ := hl
  refine extend_rev (s := { s with heap := s.heap.update S (Obj.mapSeq (fun _ => (#[] : Array Value))) }) hh (hit.at fun o e => oth it o (Ne.symm hSi) e) ⟨ol, oth l ol (Ne.symm hSl) hol, hr⟩ hn hne hSi hSl hS₂ fun h' tk acc' c' hk hS' hacc => ?_
  exact hR h' tk acc' c' (fun b o hb hb2 e => hk b o hb hb2 (oth b o hb e)) hS' hacc
theorem call_list_rev {it l : Addr} {items : Array Value} {Q : Value → Shared → Prop} (hh : A.handled = none) (hit : s.heap.IsRevIter it l ((items.size : Int) - 1)) (hl : s.heap.IsList l items) (hne : l ≠ it) (hn : items.size ≤ sizeLine)
    (hQ : ∀ h' tk acc' c', (∀ b o, b ≠ it → s.heap.get? b = some o → h'.get? b = some o) →
      h'.get? s.heap.objs.size = some { cls := .type "list", dict := none, data := .seq acc' c', slots := #[] } → ItemsOf (fun i v => items[items.size - 1 - i]? = some v) acc' items.size → Q (.ref s.heap.objs.size) { s with heap := h', toks := tk }) :
    wpAny (model prog w) A (call (.type "list") [.ref it]) Q E s := by
  obtain ⟨oi, hoi, _⟩ := id hit
  obtain ⟨ol, hol, hr⟩ := id hl
  refine callType_codes (Q₁ := fun obj s₁ => obj = .ref s.heap.objs.size ∧ s₁ = { s with heap := s.heap.push { cls := .type "list", data := .seq #[] } }) F.called_list (F.typeCall_list_1 _) F.entry_list_init
    (code_list_new _ ⟨rfl, rfl⟩) fun obj s₁ h₁ => ?_
  obtain ⟨rfl, rfl⟩ := h₁
  have hS : (s.heap.push { cls := .type "list", data := .seq #[] }).get? s.heap.objs.size = some { cls := .type "list", data := .seq #[] } := Heap.get?_push_size _ rfl
  refine ⟨⟨_, hS, rfl⟩, F.args_list_init_2 _ _, list_init_rev (A := A.in1) hh (hit.at fun o e => Heap.get?_push_of_some _ e) (hl.push _) hn hne (Nat.ne_of_gt (Heap.lt_size hoi)) (Nat.ne_of_gt (Heap.lt_size hol)) hS fun h' tk acc' c' hk hS' hacc => ?_⟩
  exact ⟨rfl, hQ h' tk acc' c' (fun b o hb e => hk b o (Nat.ne_of_lt (Heap.lt_size e)) hb (Heap.get?_push_of_some _ e)) hS' hacc⟩
end
end RT
namespace L2
open PySem PySem.Spec PyProof.Rows RT
section
variable {X : Cx}
/-- list(reversed(x)), x a list: a new list -/
def tLstRev (K : PySem.W.Frag) (te : TE) : TE := fun σ H Q => te σ H fun v H1 => ∃ (a : Addr) (xs : List V), v = .ref a ∧ SqL K H1 a xs ∧ ∀ q, H1 q = none → Q (.ref q) (upd H1 q (.lst xs.reverse))
theorem pe_listRev {e : Expr} {te : TE} {p p2 pos pos2 : Pos} (hc : X.calm = true) (hg : Gl X "list") (hm : X.mg "list" = none) (hg2 : Gl X "reversed") (hm2 : X.mg "reversed" = none) (he : PE X e te)
    (hs : starEach [e] X.env = (false, eval e X.env) :: starEach [] X.env := by rfl)
    (hs2 : starEach [.Call (.Name "reversed" p2) [e] [] pos2] X.env = (false, eval (.Call (.Name "reversed" p2) [e] [] pos2) X.env) :: starEach [] X.env := by rfl) :
    PE X (.Call (.Name "list" p) [.Call (.Name "reversed" p2) [e] [] pos2] [] pos) (tLstRev X.K te) := by
  refine ⟨fun pins s σ H Q I h => ?_⟩
  refine Call_ (ld_blt I hg hm boot_list (PyProof.Rows.callWith_type1 (args_cons (Call_ (ld_blt I hg2 hm2 PyProof.Rows.boot_reversed (PyProof.Rows.callWith_type1 (args_cons (thn (he.run pins s σ H _ I h) fun u s1 ⟨v, H1, I1, r1, q1⟩ => args_nil ?_) hs) hs rfl))) hs2) hs2 rfl))
  obtain ⟨a, xs, ev, hq, q⟩ := q1
  subst ev
  obtain rfl : u = Value.ref a := r1
  obtain ⟨its, rv, p', hz⟩ := I1.list hq
  refine call_reversed_list p'.isList (args_nil ?_)
  have k0 : ∀ b o, s1.heap.get? b = some o → (s1.heap.push (revObj a ((its.toArray.size : Int) - 1))).get? b = some o := fun b o e => Heap.get?_push_of_some _ e
  have I2 : Inv X pins σ H1 { s1 with heap := s1.heap.push (revObj a ((its.toArray.size : Int) - 1)) } := I1.kept (t' := s1.toks) k0
  obtain ⟨f0, f1, f2, f3, f4, f5⟩ := I1.fpOk (H' := H1) (b := s1.heap.objs.size) (Nat.le_refl _) (I1.hok.fresh (Nat.le_refl _))
  have hl := p'.isList
  obtain ⟨ol, hol, _⟩ := id hl
  have hne : a ≠ s1.heap.objs.size := Nat.ne_of_lt (Heap.lt_size hol)
  have hn : its.toArray.size ≤ sizeLine := by rw [List.size_toArray, ← rv.length]; exact hz
  refine call_list_rev (s := { s1 with heap := s1.heap.push (revObj a ((its.toArray.size : Int) - 1)) }) (I1.ok.hd hc) ⟨_, Heap.get?_push_size _ rfl, rfl, rfl⟩ (hl.push _) hne hn fun h' tk acc c' hk e' hi => ?_
  have hfree : H1 (s1.heap.push (revObj a ((its.toArray.size : Int) - 1))).objs.size = none := I2.hok.fresh (Nat.le_refl _)
  have hlt : ∀ b o, s1.heap.get? b = some o → b < s1.heap.objs.size := fun b o e => Heap.lt_size e
  refine ⟨.ref (s1.heap.push (revObj a ((its.toArray.size : Int) - 1))).objs.size, upd H1 _ (.lst xs.reverse), ?_, rfl, q _ hfree⟩
  -- the iterator has turned; the new list stands
  refine I1.un (h' := h') (t' := tk) (Un.laid (fun b o e => hk b o (Nat.ne_of_lt (hlt b o e)) (k0 b o e)) (by rw [Heap.size_push]; exact Nat.le_succ _) hfree) ?_
  refine I1.hok.laid (fun b o e => hk b o (Nat.ne_of_lt (hlt b o e)) (k0 b o e)) (by rw [Heap.size_push]; exact Nat.le_succ _) ⟨by rw [List.length_reverse]; exact hz, acc.toList, c', vals_rev rv hi, ?_⟩
  rw [Array.toArray_toList]; exact e'
end
end L2
/-! NL4: the operators on plain data. -/
namespace L2
namespace NL
open PySem PySem.Spec PyProof.Rows

section
variable {X : Cx}
theorem Sim.stay {K : PySem.W.Frag} {c : Cf} (S : Sim K c) : Step c ⟨c.n, c.s, c.H, c.F⟩ ∧ Sim K ⟨c.n, c.s, c.H, c.F⟩ := ⟨Step.refl _, S⟩
/-- the answer needs no heap -/
theorem fin0 {K : PySem.W.Frag} {c : Cf} {z : PyData} {v : V} {Q : VK} (S : Sim K c) (h : ∀ v H' F', Step c ⟨c.n, c.s, H', F'⟩ → Sim K ⟨c.n, c.s, H', F'⟩ → Rep K H' F' z v → Q v H') (r : Rep K c.H c.F z v) : Q v c.H :=
  h v c.H c.F (Step.refl _) S r
theorem finTup {K : PySem.W.Frag} {c : Cf} {ds : List PyData} {ws : List V} {Q : VK} (S : Sim K c) (h : ∀ v H' F', Step c ⟨c.n, c.s, H', F'⟩ → Sim K ⟨c.n, c.s, H', F'⟩ → Rep K H' F' (.tuple ds) v → Q v H') (r : Reps K c.H c.F ds ws) :
    ∀ p, c.H p = none → Q (.ref p) (upd c.H p (.tup ws)) := fun p hp => by
  obtain ⟨S2, st2, r2⟩ := S.newTup (p := p) hp r
  exact h _ _ _ st2 S2 r2
theorem finLst {K : PySem.W.Frag} {c : Cf} {ds : List PyData} {ws : List V} {Q : VK} (S : Sim K c) (h : ∀ v H' F', Step c ⟨c.n, c.s, H', F'⟩ → Sim K ⟨c.n, c.s, H', F'⟩ → Rep K H' F' (.list ds) v → Q v H') (r : Reps K c.H c.F ds ws) :
    ∀ p, c.H p = none → Q (.ref p) (upd c.H p (.lst ws)) := fun p hp => by
  obtain ⟨S2, st2, r2⟩ := S.newLst (p := p) hp r
  obtain ⟨F', S3, st3, r3⟩ := Sim.freeze S st2 S2 r2
  exact h _ _ _ st3 S3 r3
theorem tup_refl {K : PySem.W.Frag} {H : Hp} {F : Fz} {d : PyData} {v : V} (r : Rep1 K H F d v) (h : ∀ xs, d ≠ .list xs) : Rep K H F d v := by
  rcases r with r | ⟨a, ws, xs, e, _⟩
  · exact r
  · exact absurd e (h xs)
/-! ### arithmetic -/
def oAdd : PyData → PyData → Option PyData
  | .int a, .int b => some (.int (a + b))
  | .str a, .str b => if a.length + b.length ≤ sizeLine then some (.str (a ++ b)) else none
  | .tuple a, .tuple b => if a.length + b.length ≤ sizeLine then some (.tuple (a ++ b)) else none
  | .list a, .list b => if a.length + b.length ≤ sizeLine then some (.list (a ++ b)) else none
  | _, _ => none
def rAddN (K : PySem.W.Frag) : R2 := fun x y H Q => rI0 (fun i j => .int (i + j)) x y H Q ∨ (∃ i j, x = .str i ∧ y = .str j ∧ i.length + j.length ≤ sizeLine ∧ Q (.str (i ++ j)) H) ∨ rCatA K x y H Q ∨ rCat x y H Q
theorem op_addN : OpR X (binaryOp .Add) (rAddN X.K) := op_add.or (op_add_str.or (op_catA.or op_cat))
theorem no_add : Op2 X (rAddN X.K) oAdd := by
  intro c x y z vx vy Q S rx ry e h
  unfold oAdd at e
  split at e
  · cases e
    exact .inl ⟨_, _, rx.int, ry.int, fin0 S h Rep.mkInt⟩
  · split at e
    · rename_i hz
      cases e
      exact .inr (.inl ⟨_, _, rx.str, ry.str, hz, fin0 S h Rep.mkStr⟩)
    · cases e
  · split at e
    · rename_i xs ys hz
      cases e
      obtain ⟨a, vs, rfl, ha, ra⟩ := rx.tuple
      obtain ⟨b, ws, rfl, hb, rb⟩ := ry.tuple
      refine .inr (.inr (.inl ⟨a, b, vs, ws, rfl, rfl, ha, hb, by rw [ra.length, rb.length]; exact hz, fun e1 => ?_, fun _ e1 => ?_, fun _ _ => finTup S h (ra.append rb)⟩))
      · have e2 : xs = [] := by
          have := ra.length
          rw [e1] at this
          exact List.length_eq_zero_iff.mp this.symm
        refine fin0 S h ?_
        rw [e2, List.nil_append]
        exact tup_refl ry fun _ z => by cases z
      · have e2 : ys = [] := by
          have := rb.length
          rw [e1] at this
          exact List.length_eq_zero_iff.mp this.symm
        refine fin0 S h ?_
        rw [e2, List.append_nil]
        exact tup_refl rx fun _ z => by cases z
    · cases e
  · split at e
    · rename_i hz
      cases e
      obtain ⟨a, vs, rfl, ha, ra⟩ := rx.list
      obtain ⟨b, ws, rfl, hb, rb⟩ := ry.list
      exact .inr (.inr (.inr ⟨a, b, vs, ws, rfl, rfl, ha, hb, by rw [ra.length, rb.length]; exact hz, finLst S h (ra.append rb)⟩))
    · cases e
  · cases e
def oSub : PyData → PyData → Option PyData
  | .int a, .int b => some (.int (a - b))
  | _, _ => none
theorem no_sub : Op2 X (rI0 fun i j => .int (i - j)) oSub := by
  intro c x y z vx vy Q S rx ry e h
  unfold oSub at e
  split at e
  · cases e
    exact ⟨_, _, rx.int, ry.int, fin0 S h Rep.mkInt⟩
  · cases e
instance {i j : Int} : Decidable (CMul i j) := by unfold CMul; infer_instance
instance {i j : Int} : Decidable (CMulW i j) := by unfold CMulW; infer_instance
instance {i j : Int} : Decidable (CDivN i j) := by unfold CDivN; infer_instance
instance {i j : Int} : Decidable (CDivW i j) := by unfold CDivW; infer_instance
instance {i j : Int} : Decidable (CPow i j) := by unfold CPow; infer_instance
def oMul : PyData → PyData → Option PyData
  | .int a, .int b => if CMul a b ∨ CMulW a b then some (.int (a * b)) else none
  | .list a, .int k => if -(2 ^ 63) ≤ k ∧ k < 2 ^ 63 ∧ a.length * k.toNat ≤ sizeLine then some (.list (List.replicate k.toNat a).flatten) else none
  | .tuple a, .int k => if a ≠ [] ∧ 2 ≤ k ∧ k ≤ 1000 ∧ a.length ≤ 1000 then some (.tuple (List.replicate k.toNat a).flatten) else none
  | _, _ => none
def rMulN (K : PySem.W.Frag) : R2 := fun x y H Q => rI CMul (fun i j => .int (i * j)) x y H Q ∨ rI CMulW (fun i j => .int (i * j)) x y H Q ∨ rRep x y H Q ∨ rRepT K x y H Q
theorem op_mulN : OpR X (binaryOp .Mult) (rMulN X.K) := op_mul.or (op_mulW.or (op_rep.or op_repT))
theorem no_mul : Op2 X (rMulN X.K) oMul := by
  intro c x y z vx vy Q S rx ry e h
  unfold oMul at e
  split at e
  · split at e
    · rename_i hz
      cases e
      rcases hz with hz | hz
      · exact .inl ⟨_, _, rx.int, ry.int, hz, fin0 S h Rep.mkInt⟩
      · exact .inr (.inl ⟨_, _, rx.int, ry.int, hz, fin0 S h Rep.mkInt⟩)
    · cases e
  · split at e
    · rename_i hz
      cases e
      obtain ⟨a, vs, rfl, ha, ra⟩ := rx.list
      exact .inr (.inr (.inl ⟨a, _, vs, rfl, ry.int, ha, hz.1, hz.2.1, by rw [ra.length]; exact hz.2.2, finLst S h (ra.rep _)⟩))
    · cases e
  · split at e
    · rename_i xs k hz
      cases e
      obtain ⟨a, vs, rfl, ha, ra⟩ := rx.tuple
      refine .inr (.inr (.inr ⟨a, _, vs, rfl, ry.int, ha, fun e1 => hz.1 ?_, hz.2.1, hz.2.2.1, by rw [ra.length]; exact hz.2.2.2, finTup S h (ra.rep _)⟩))
      have := ra.length
      rw [e1] at this
      exact List.length_eq_zero_iff.mp this.symm
    · cases e
  · cases e
def oFdiv : PyData → PyData → Option PyData
  | .int a, .int b => if CDivN a b then some (.int (a.fdiv b)) else if CDivW a b then some (.int (a.fdiv b)) else none
  | _, _ => none
def rFdivN : R2 := fun x y H Q => rI CDivN (fun i j => .int (i.fdiv j)) x y H Q ∨ rI CDivW (fun i j => .int (i / j)) x y H Q
theorem op_fdivNN : OpR X (binaryOp .FloorDiv) rFdivN := op_fdivN.or op_fdivW
theorem no_fdiv : Op2 X rFdivN oFdiv := by
  intro c x y z vx vy Q S rx ry e h
  unfold oFdiv at e
  split at e
  · split at e
    · rename_i hz
      cases e
      exact .inl ⟨_, _, rx.int, ry.int, hz, fin0 S h Rep.mkInt⟩
    · split at e
      · rename_i a b _ hz
        cases e
        refine .inr ⟨_, _, rx.int, ry.int, hz, fin0 S h ?_⟩
        have h0 : 0 < b := hz.1
        rw [Int.fdiv_eq_ediv_of_nonneg a (by omega)]
        exact Rep.mkInt
      · cases e
  · cases e
def oMod : PyData → PyData → Option PyData
  | .int a, .int b => if b ≠ 0 then some (.int (a.fmod b)) else none
  | _, _ => none
theorem no_mod : Op2 X (rI (fun _ j => j ≠ 0) fun i j => .int (i.fmod j)) oMod := by
  intro c x y z vx vy Q S rx ry e h
  unfold oMod at e
  split at e
  · split at e
    · rename_i hz
      cases e
      exact ⟨_, _, rx.int, ry.int, hz, fin0 S h Rep.mkInt⟩
    · cases e
  · cases e
def oPow : PyData → PyData → Option PyData
  | .int a, .int b => if CPow a b then some (.int (a ^ b.toNat)) else none
  | _, _ => none
theorem no_pow : Op2 X (rI CPow fun i j => .int (i ^ j.toNat)) oPow := by
  intro c x y z vx vy Q S rx ry e h
  unfold oPow at e
  split at e
  · split at e
    · rename_i hz
      cases e
      exact ⟨_, _, rx.int, ry.int, hz, fin0 S h Rep.mkInt⟩
    · cases e
  · cases e
/-! ### comparisons -/
def eqOk : PyData → PyData → Bool
  | .int _, .int _ => true
  | .bool _, .bool _ => true
  | .str _, .str _ => true
  | x, y => SeqAt.shaped x && SeqAt.shaped y
def oEq (x y : PyData) : Option PyData := if eqOk x y = true then some (.bool (PyData.eqv x y)) else none
def oNe (x y : PyData) : Option PyData := if eqOk x y = true then some (.bool (!PyData.eqv x y)) else none
def rEqN (K : PySem.W.Frag) : R2 := fun x y H Q => rEq x y H Q ∨ rEqD K x y H Q
def rNeN (K : PySem.W.Frag) : R2 := fun x y H Q => rNe x y H Q ∨ rNeD K x y H Q
theorem op_eqN (hu : X.A.units + 64 < cLine) : OpR X (compareOp .Eq) (rEqN X.K) := op_eq.or (op_eqD hu)
theorem op_neN (hu : X.A.units + 64 < cLine) : OpR X (compareOp .NotEq) (rNeN X.K) := op_ne.or (op_neD hu)
theorem no_eq : Op2 X (rEqN X.K) oEq := by
  intro c x y z vx vy Q S rx ry e h
  unfold oEq at e
  split at e
  · rename_i ok
    cases e
    unfold eqOk at ok
    split at ok
    · refine .inl ?_
      rw [rx.int, ry.int]
      refine ⟨rfl, fin0 S h ?_⟩
      rw [dec_int]; exact Rep.mkBool
    · refine .inl ?_
      rw [rx.bool, ry.bool]
      refine ⟨rfl, fin0 S h ?_⟩
      rw [dec_bl]; exact Rep.mkBool
    · refine .inl ?_
      rw [rx.str, ry.str]
      refine ⟨rfl, fin0 S h ?_⟩
      rw [dec_str]; exact Rep.mkBool
    · obtain ⟨h1, h2⟩ := Bool.and_eq_true_iff.mp ok
      exact .inr ⟨_, _, rx.dp (SeqAt.canLay_of_shaped h1), ry.dp (SeqAt.canLay_of_shaped h2), h1, h2, fin0 S h Rep.mkBool⟩
  · cases e
theorem no_ne : Op2 X (rNeN X.K) oNe := by
  intro c x y z vx vy Q S rx ry e h
  unfold oNe at e
  split at e
  · rename_i ok
    cases e
    unfold eqOk at ok
    split at ok
    · refine .inl ?_
      rw [rx.int, ry.int]
      refine ⟨rfl, fin0 S h ?_⟩
      rw [dec_int]; exact Rep.mkBool
    · refine .inl ?_
      rw [rx.bool, ry.bool]
      refine ⟨rfl, fin0 S h ?_⟩
      rw [dec_bl]; exact Rep.mkBool
    · refine .inl ?_
      rw [rx.str, ry.str]
      refine ⟨rfl, fin0 S h ?_⟩
      rw [dec_str]; exact Rep.mkBool
    · obtain ⟨h1, h2⟩ := Bool.and_eq_true_iff.mp ok
      exact .inr ⟨_, _, rx.dp (SeqAt.canLay_of_shaped h1), ry.dp (SeqAt.canLay_of_shaped h2), h1, h2, fin0 S h Rep.mkBool⟩
  · cases e
/-- < of anything alike -/
def rLtD (K : PySem.W.Frag) : R2 := fun x y H Q => ∃ d e, Dp K H x d ∧ Dp K H y e ∧ PySem.W.alike d e = true ∧ d ≠ .none ∧ d.depth ≤ 64 ∧ Q (.bl (PySem.W.dataLt d e)) H
theorem op_ltD (hu : X.A.units + 64 < cLine) : OpR X (compareOp .Lt) (rLtD X.K) := by
  intro pins s σ H x y v u Q I rx ry h
  obtain ⟨d, e, hd, he, al, nn, dp, q⟩ := h
  obtain ⟨as, r1⟩ := Dp.reads I d x v hd rx
  obtain ⟨bs, r2⟩ := Dp.reads I e y u he ry
  have h1 : min d.depth e.depth ≤ d.depth := Nat.min_le_left _ _
  exact PySem.W.rcLt_alike d e _ _ _ _ as bs r1 r2 al nn (by omega) _ _ _ _ ⟨.bl _, H, I, rfl, q⟩
def oLt : PyData → PyData → Option PyData
  | .int a, .int b => some (.bool (decide (a < b)))
  | .str a, .str b => some (.bool (decide (a.cps.toList < b.cps.toList)))
  | .tuple a, .tuple b => if PySem.W.alike (.tuple a) (.tuple b) = true ∧ PyData.depth (.tuple a) ≤ 64 ∧ PyData.canLay0 (.tuple a) = true ∧ PyData.canLay0 (.tuple b) = true then some (.bool (PySem.W.dataLt (.tuple a) (.tuple b))) else none
  | .list a, .list b => if PySem.W.alike (.list a) (.list b) = true ∧ PyData.depth (.list a) ≤ 64 ∧ PyData.canLay0 (.list a) = true ∧ PyData.canLay0 (.list b) = true then some (.bool (PySem.W.dataLt (.list a) (.list b))) else none
  | _, _ => none
def rLtN (K : PySem.W.Frag) : R2 := fun x y H Q => rI0 (fun i j => .bl (decide (i < j))) x y H Q ∨ (∃ i j, x = .str i ∧ y = .str j ∧ Q (.bl (decide (i.cps.toList < j.cps.toList))) H) ∨ rLtD K x y H Q
theorem op_ltN (hu : X.A.units + 64 < cLine) : OpR X (compareOp .Lt) (rLtN X.K) := op_lt.or (op_lt_str.or (op_ltD hu))
theorem no_lt : Op2 X (rLtN X.K) oLt := by
  intro c x y z vx vy Q S rx ry e h
  unfold oLt at e
  split at e
  · cases e
    exact .inl ⟨_, _, rx.int, ry.int, fin0 S h Rep.mkBool⟩
  · cases e
    exact .inr (.inl ⟨_, _, rx.str, ry.str, fin0 S h Rep.mkBool⟩)
  · split at e
    · rename_i hz
      cases e
      exact .inr (.inr ⟨_, _, rx.dp hz.2.2.1, ry.dp hz.2.2.2, hz.1, (fun z => by cases z), hz.2.1, fin0 S h Rep.mkBool⟩)
    · cases e
  · split at e
    · rename_i hz
      cases e
      exact .inr (.inr ⟨_, _, rx.dp hz.2.2.1, ry.dp hz.2.2.2, hz.1, (fun z => by cases z), hz.2.1, fin0 S h Rep.mkBool⟩)
    · cases e
  · cases e
def oLe : PyData → PyData → Option PyData
  | .int a, .int b => some (.bool (decide (a ≤ b)))
  | .str a, .str b => some (.bool (!decide (b.cps.toList < a.cps.toList)))
  | _, _ => none
def oGt : PyData → PyData → Option PyData
  | .int a, .int b => some (.bool (decide (b < a)))
  | .str a, .str b => some (.bool (decide (b.cps.toList < a.cps.toList)))
  | _, _ => none
def oGe : PyData → PyData → Option PyData
  | .int a, .int b => some (.bool (decide (b ≤ a)))
  | .str a, .str b => some (.bool (!decide (a.cps.toList < b.cps.toList)))
  | _, _ => none
def rLeN : R2 := fun x y H Q => rI0 (fun i j => .bl (decide (i ≤ j))) x y H Q ∨ (∃ i j, x = .str i ∧ y = .str j ∧ Q (.bl (!decide (j.cps.toList < i.cps.toList))) H)
def rGtN : R2 := fun x y H Q => rI0 (fun i j => .bl (decide (j < i))) x y H Q ∨ (∃ i j, x = .str i ∧ y = .str j ∧ Q (.bl (decide (j.cps.toList < i.cps.toList))) H)
def rGeN : R2 := fun x y H Q => rI0 (fun i j => .bl (decide (j ≤ i))) x y H Q ∨ (∃ i j, x = .str i ∧ y = .str j ∧ Q (.bl (!decide (i.cps.toList < j.cps.toList))) H)
theorem op_leN : OpR X (compareOp .LtE) rLeN := op_le.or op_le_str
theorem op_gtN : OpR X (compareOp .Gt) rGtN := op_gt.or op_gt_str
theorem op_geN : OpR X (compareOp .GtE) rGeN := op_ge.or op_ge_str
theorem no_le : Op2 X rLeN oLe := by
  intro c x y z vx vy Q S rx ry e h
  unfold oLe at e
  split at e
  · cases e; exact .inl ⟨_, _, rx.int, ry.int, fin0 S h Rep.mkBool⟩
  · cases e; exact .inr ⟨_, _, rx.str, ry.str, fin0 S h Rep.mkBool⟩
  · cases e
theorem no_gt : Op2 X rGtN oGt := by
  intro c x y z vx vy Q S rx ry e h
  unfold oGt at e
  split at e
  · cases e; exact .inl ⟨_, _, rx.int, ry.int, fin0 S h Rep.mkBool⟩
  · cases e; exact .inr ⟨_, _, rx.str, ry.str, fin0 S h Rep.mkBool⟩
  · cases e
theorem no_ge : Op2 X rGeN oGe := by
  intro c x y z vx vy Q S rx ry e h
  unfold oGe at e
  split at e
  · cases e; exact .inl ⟨_, _, rx.int, ry.int, fin0 S h Rep.mkBool⟩
  · cases e; exact .inr ⟨_, _, rx.str, ry.str, fin0 S h Rep.mkBool⟩
  · cases e
/-! ### is -/
def isNoneD : PyData → Bool
  | .none => true
  | _ => false
theorem isNone_ok {K : PySem.W.Frag} {H : Hp} {F : Fz} {d : PyData} {v : V} (r : Rep1 K H F d v) : decide (v = V.non) = isNoneD d := by
  cases d with
  | none => rw [r.none]; rfl
  | bool b => rw [r.bool]; rfl
  | int b => rw [r.int]; rfl
  | str b => rw [r.str]; rfl
  | list b => obtain ⟨a, vs, rfl, _⟩ := r.list; rfl
  | tuple b => obtain ⟨a, vs, rfl, _⟩ := r.tuple; rfl
  | dict b => obtain ⟨a, ws, rfl, _⟩ := r.dict.dict; rfl
def oIs : PyData → PyData → Option PyData
  | x, .none => some (.bool (isNoneD x))
  | .bool a, .bool b => some (.bool (decide (a = b)))
  | _, _ => none
def oIsNot : PyData → PyData → Option PyData
  | x, .none => some (.bool (!isNoneD x))
  | .bool a, .bool b => some (.bool (!decide (a = b)))
  | _, _ => none
def rIsN : R2 := fun x y H Q => (y = .non ∧ Q (.bl (decide (x = .non))) H) ∨ rIsB x y H Q
def rNotN : R2 := fun x y H Q => (y = .non ∧ Q (.bl (!decide (x = .non))) H) ∨ rNotB x y H Q
theorem op_isNN : OpR X (compareOp .Is) rIsN := op_isN.or op_isBl
theorem op_notNN : OpR X (compareOp .IsNot) rNotN := op_notN.or op_notBl
theorem no_is : Op2 X rIsN oIs := by
  intro c x y z vx vy Q S rx ry e h
  unfold oIs at e
  split at e
  · cases e
    refine .inl ⟨ry.none, ?_⟩
    rw [isNone_ok rx]; exact fin0 S h Rep.mkBool
  · cases e
    exact .inr ⟨_, _, rx.bool, ry.bool, fin0 S h Rep.mkBool⟩
  · cases e
theorem no_isnot : Op2 X rNotN oIsNot := by
  intro c x y z vx vy Q S rx ry e h
  unfold oIsNot at e
  split at e
  · cases e
    refine .inl ⟨ry.none, ?_⟩
    rw [isNone_ok rx]; exact fin0 S h Rep.mkBool
  · cases e
    exact .inr ⟨_, _, rx.bool, ry.bool, fin0 S h Rep.mkBool⟩
  · cases e
/-! ### in -/
def rInT (K : PySem.W.Frag) (neg : Bool) : R2 := fun x y H Q => ∃ d ds, Dp K H x d ∧ Dp K H y (.tuple ds) ∧ SeqAt.shaped d = true ∧ SeqAt.shaped (.tuple ds) = true ∧ Q (.bl (if neg then !ds.any (fun z => PyData.eqv z d) else ds.any fun z => PyData.eqv z d)) H
theorem room_shT {ds : List PyData} {d : PyData} {A : Around} (sd : SeqAt.shaped d = true) (hu : A.units + 65 < cLine) : A.units + 1 + min (PyData.depthAll ds) d.depth < cLine := by
  have h1 := SeqAt.depth_of_shaped sd
  have h2 : min (PyData.depthAll ds) d.depth ≤ d.depth := Nat.min_le_right _ _
  omega
theorem canLayT {ds : List PyData} (h : SeqAt.shaped (.tuple ds) = true) : PyData.canLayAll0 ds = true := by
  have := SeqAt.canLay_of_shaped h
  simpa [PyData.canLay0] using this
theorem op_inT (hu : X.A.units + 65 < cLine) : OpR X (compareOp .In) (rInT X.K false) := by
  intro pins s σ H x y v u Q I rx ry h
  obtain ⟨d, ds, hd, he, sd, se, q⟩ := h
  obtain ⟨as, r1⟩ := Dp.reads I d x v hd rx
  obtain ⟨bs, r2⟩ := Dp.reads I (.tuple ds) y u he ry
  exact SeqAt.in_tuple_reads r2 r1 (canLayT se) (SeqAt.canLay_of_shaped sd) (room_shT sd hu) ⟨.bl _, H, I, rfl, q⟩
theorem op_notInT (hu : X.A.units + 65 < cLine) : OpR X (compareOp .NotIn) (rInT X.K true) := by
  intro pins s σ H x y v u Q I rx ry h
  obtain ⟨d, ds, hd, he, sd, se, q⟩ := h
  obtain ⟨as, r1⟩ := Dp.reads I d x v hd rx
  obtain ⟨bs, r2⟩ := Dp.reads I (.tuple ds) y u he ry
  exact SeqAt.notIn_tuple_reads r2 r1 (canLayT se) (SeqAt.canLay_of_shaped sd) (room_shT sd hu) ⟨.bl _, H, I, rfl, q⟩
def inD : PyData → PyData → Option Bool
  | x, .list ys => if SeqAt.shaped x = true ∧ SeqAt.shaped (.list ys) = true then some (ys.any fun z => PyData.eqv z x) else none
  | x, .tuple ys => if SeqAt.shaped x = true ∧ SeqAt.shaped (.tuple ys) = true then some (ys.any fun z => PyData.eqv z x) else none
  | .str ⟨⟨[c]⟩⟩, .str z => some (decide (c ∈ z.cps.toList))
  | _, _ => none
def oIn (x y : PyData) : Option PyData := (inD x y).map PyData.bool
def oNotIn (x y : PyData) : Option PyData := (inD x y).map fun b => PyData.bool (!b)
def rInN (K : PySem.W.Frag) : R2 := fun x y H Q => rInD K x y H Q ∨ rInT K false x y H Q ∨ (∃ (c : Nat) (z : Str), x = .str ⟨#[c]⟩ ∧ y = .str z ∧ Q (.bl (decide (c ∈ z.cps.toList))) H)
def rNotInN (K : PySem.W.Frag) : R2 := fun x y H Q => rNotInD K x y H Q ∨ rInT K true x y H Q ∨ (∃ (c : Nat) (z : Str), x = .str ⟨#[c]⟩ ∧ y = .str z ∧ Q (.bl (!decide (c ∈ z.cps.toList))) H)
theorem op_inN (hu : X.A.units + 65 < cLine) : OpR X (compareOp .In) (rInN X.K) := (op_inD hu).or ((op_inT hu).or op_in_sign)
theorem op_notInN (hu : X.A.units + 65 < cLine) : OpR X (compareOp .NotIn) (rNotInN X.K) := (op_notInD hu).or ((op_notInT hu).or op_notIn_sign)
theorem no_in : Op2 X (rInN X.K) oIn := by
  intro c x y z vx vy Q S rx ry e h
  unfold oIn at e
  cases q : inD x y with
  | none => rw [q] at e; cases e
  | some b =>
    rw [q] at e
    cases e
    unfold inD at q
    split at q
    · split at q
      · rename_i hz
        cases q
        exact .inl ⟨_, _, rx.dp (SeqAt.canLay_of_shaped hz.1), ry.dp (SeqAt.canLay_of_shaped hz.2), hz.1, hz.2, fin0 S h Rep.mkBool⟩
      · cases q
    · split at q
      · rename_i hz
        cases q
        exact .inr (.inl ⟨_, _, rx.dp (SeqAt.canLay_of_shaped hz.1), ry.dp (SeqAt.canLay_of_shaped hz.2), hz.1, hz.2, fin0 S h Rep.mkBool⟩)
      · cases q
    · cases q
      exact .inr (.inr ⟨_, _, rx.str, ry.str, fin0 S h Rep.mkBool⟩)
    · cases q
theorem no_notin : Op2 X (rNotInN X.K) oNotIn := by
  intro c x y z vx vy Q S rx ry e h
  unfold oNotIn at e
  cases q : inD x y with
  | none => rw [q] at e; cases e
  | some b =>
    rw [q] at e
    cases e
    unfold inD at q
    split at q
    · split at q
      · rename_i hz
        cases q
        exact .inl ⟨_, _, rx.dp (SeqAt.canLay_of_shaped hz.1), ry.dp (SeqAt.canLay_of_shaped hz.2), hz.1, hz.2, fin0 S h Rep.mkBool⟩
      · cases q
    · split at q
      · rename_i hz
        cases q
        exact .inr (.inl ⟨_, _, rx.dp (SeqAt.canLay_of_shaped hz.1), ry.dp (SeqAt.canLay_of_shaped hz.2), hz.1, hz.2, fin0 S h Rep.mkBool⟩)
      · cases q
    · cases q
      exact .inr (.inr ⟨_, _, rx.str, ry.str, fin0 S h Rep.mkBool⟩)
    · cases q
end
/-! ### a < b < c -/
section
variable {X : Cx} {W : WX} {a b d : Expr} {p q u : Opd} {pos : Pos}
/-- the middle one is asked once; the answers are truth values -/
def nChain (o o' : PyData → PyData → Option PyData) (p q u : Opd) : NExp := fun n => (p.run n).bind fun x n1 => (q.run n1).bind fun y n2 => match x.get n2, y.get n2 with
  | some dx, some dy => match o dx dy with
    | some (.bool true) => (u.run n2).bind fun z n3 => match y.get n3, z.get n3 with
      | some ey, some dz => liftO (o' ey dz) n3
      | _, _ => .bad
    | some (.bool false) => .ok (.bool false) n2
    | _ => .bad
  | _, _ => .bad
theorem chain_st {ta tb tc : TE} {o o' : PyData → PyData → Option PyData} {r r' : R2} (sa : ∀ (c : Cf) (Q : VK), Sim X.K c → Pst X.K X.mg W (relV X.K) c Q (p.run c.n) → ta c.s c.H Q)
    (sb : ∀ (c : Cf) (Q : VK), Sim X.K c → Pst X.K X.mg W (relV X.K) c Q (q.run c.n) → tb c.s c.H Q) (sc : ∀ (c : Cf) (Q : VK), Sim X.K c → Pst X.K X.mg W (relV X.K) c Q (u.run c.n) → tc c.s c.H Q)
    (no : Op2 X r o) (no' : Op2 X r' o') {c : Cf} {Q : VK} (S : Sim X.K c) (h : Pst X.K X.mg W (relE X.K) c Q (nChain o o' p q u c.n)) : tChain r r' ta tb tc c.s c.H Q := by
  refine sa c _ S (Pst.seq (rel := relV X.K) mono_E h fun x n1 vx H1 F1 _ st1 S1 rx h1 => ?_)
  refine sb ⟨n1, c.s, H1, F1⟩ _ S1 (Pst.seq (rel := relV X.K) mono_E h1 fun y n2 vy H2 F2 _ st2 S2 ry h2 => ?_)
  cases ea : x.get n2 with
  | none => rw [ea] at h2; exact h2.elim
  | some dx =>
    cases eb : y.get n2 with
    | none => rw [ea, eb] at h2; exact h2.elim
    | some dy =>
      rw [ea, eb] at h2
      dsimp only at h2
      have rx2 : AVRep X.K ⟨n2, c.s, H2, F2⟩ x vx := AVRep.step st2 S1 rfl rx
      cases eo : o dx dy with
      | none => rw [eo] at h2; exact h2.elim
      | some z =>
        rw [eo] at h2
        cases z with
        | bool k =>
          refine no ⟨n2, c.s, H2, F2⟩ dx dy (.bool k) vx vy _ S2 (S2.avGet rx2 ea) (S2.avGet ry eb) eo fun v H3 F3 st3 S3 r3 => ⟨k, Rep.bool (K := X.K) (H := H3) (F := F3) r3, ?_⟩
          cases k with
          | false =>
            refine iteF ?_
            exact h2 _ H3 F3 st3 S3 Rep.mkBool
          | true =>
            refine iteT ?_
            have h3 : Pst X.K X.mg W (relE X.K) ⟨n2, c.s, H3, F3⟩ Q ((u.run n2).bind fun z n3 => match y.get n3, z.get n3 with
              | some ey, some dz => liftO (o' ey dz) n3
              | _, _ => .bad) := Pst.step (c := ⟨n2, c.s, H2, F2⟩) (c1 := ⟨n2, c.s, H3, F3⟩) mono_E rfl st3 h2
            refine sc ⟨n2, c.s, H3, F3⟩ _ S3 (Pst.seq (rel := relV X.K) mono_E h3 fun z n4 vz H4 F4 _ st4 S4 rz h4 => ?_)
            have ry4 : AVRep X.K ⟨n4, c.s, H4, F4⟩ y vy := AVRep.step st4 S3 rfl (AVRep.step st3 S2 rfl ry)
            cases ec : y.get n4 with
            | none => rw [ec] at h4; exact h4.elim
            | some ey =>
              cases ed : z.get n4 with
              | none => rw [ec, ed] at h4; exact h4.elim
              | some dz =>
                rw [ec, ed] at h4
                dsimp only at h4
                cases eo' : o' ey dz with
                | none => rw [eo'] at h4; exact h4.elim
                | some z' =>
                  rw [eo'] at h4
                  exact no' ⟨n4, c.s, H4, F4⟩ ey dz z' vy vz Q S4 (S4.avGet ry4 ec) (S4.avGet rz ed) eo' fun v H' F' st' S' r' => h4 v H' F' st' S' r'
        | _ => exact h2.elim
theorem ne_chain {op op' : CmpOp} {r r' : R2} {o o' : PyData → PyData → Option PyData} (ho : OpR X (compareOp op) r) (ho' : OpR X (compareOp op') r') (no : Op2 X r o) (no' : Op2 X r' o') (ha : NO X W a p) (hb : NO X W b q) (hc : NO X W d u)
    (hm : lastMarks [op, op'] [b, d] = false := by with_unfolding_all rfl) : NE X W (.Compare a [op, op'] [b, d] pos) (nChain o o' p q u) := by
  obtain ⟨ta, pa, sa⟩ := ha.ex
  obtain ⟨tb, pb, sb⟩ := hb.ex
  obtain ⟨tc, pc, sc⟩ := hc.ex
  exact ⟨_, pe_chain ho ho' pa pb pc hm, fun c Q S h => chain_st sa sb sc no no' S h⟩
theorem nt_chain {op op' : CmpOp} {r r' : R2} {o o' : PyData → PyData → Option PyData} (ho : OpR X (compareOp op) r) (ho' : OpR X (compareOp op') r') (no : Op2 X r o) (no' : Op2 X r' o') (ha : NO X W a p) (hb : NO X W b q) (hc : NO X W d u)
    (hm : lastMarks [op, op'] [b, d] = false := by with_unfolding_all rfl) : NT X W (.Compare a [op, op'] [b, d] pos) (asB (nChain o o' p q u)) := by
  obtain ⟨ta, pa, sa⟩ := ha.ex
  obtain ⟨tb, pb, sb⟩ := hb.ex
  obtain ⟨tc, pc, sc⟩ := hc.ex
  exact ⟨_, pt_chain ho ho' pa pb pc hm, fun c Q S h => asB_st (t := tChain r r' ta tb tc) (fun c Q S h => chain_st sa sb sc no no' S h) S h⟩
end
end NL
end L2
/-! NL5: statements, loops, defs and their calls. -/
namespace L2
namespace NL
open PySem PySem.Spec PyProof.Rows

structure NS (X : Cx) (W : WX) (st : Stmt) (f : NStm) : Prop where
  ex : ∃ t, PS X st t ∧ ∀ (c : Cf) (D : Ends), Sim X.K c → PstS X.K X.mg W c D (f c.n) → t D c.s c.H
structure NSs (X : Cx) (W : WX) (sts : List Stmt) (f : NStm) : Prop where
  ex : ∃ t, PSs X sts t ∧ ∀ (c : Cf) (D : Ends), Sim X.K c → PstS X.K X.mg W c D (f c.n) → t D c.s c.H
def NR.seq (r : NR) (k : NStm) : NR := match r with
  | .nx n => k n
  | r => r
def sNil : NStm := fun n => .nx n
def sSeq (f g : NStm) : NStm := fun n => (f n).seq g
section
variable {X : Cx} {W : WX} {st : Stmt} {rest : List Stmt} {f g : NStm} {e e2 : Expr} {v w : NExp} {pos : Pos}
theorem nss_nil : NSs X W [] sNil := ⟨tNext, pss_nil, fun c D S h => h c.s c.H c.F (Step.refl _) S⟩
theorem nss_one (h : NS X W st f) : NSs X W [st] f := let ⟨t, p, s⟩ := h.ex; ⟨t, pss_one p, s⟩
theorem nss_cons (h1 : NS X W st f) (h2 : NSs X W rest g) : NSs X W (st :: rest) (sSeq f g) := by
  obtain ⟨t, p, s⟩ := h1.ex
  obtain ⟨u, q, s2⟩ := h2.ex
  refine ⟨tSeq t u, pss_cons p q, fun c D S h => ?_⟩
  refine s c { D with nx := u D } S ?_
  unfold sSeq at h
  cases e : f c.n with
  | nx n =>
    rw [e] at h
    intro σ' H' F' st1 S1
    exact s2 ⟨n, σ', H', F'⟩ D S1 (PstS.step (c := c) st1 h)
  | ret d n => rw [e] at h; exact h
  | brk n => rw [e] at h; exact h
  | ct n => rw [e] at h; exact h
  | err x n => rw [e] at h; exact h
  | bad => rw [e] at h; exact h
def sPass : NStm := fun n => .nx n
theorem ns_pass : NS X W (.Pass pos) sPass := ⟨tNext, ps_pass, fun c D S h => h c.s c.H c.F (Step.refl _) S⟩
def sBreak : NStm := fun n => .brk n
theorem ns_break : NS X W (.Break pos) sBreak := ⟨tBreak, ps_break, fun c D S h => h c.s c.H c.F (Step.refl _) S⟩
def sCont : NStm := fun n => .ct n
theorem ns_cont : NS X W (.Continue pos) sCont := ⟨tCont, ps_continue, fun c D S h => h c.s c.H c.F (Step.refl _) S⟩
def sExpr (v : NExp) : NStm := fun n => (v n).st fun _ n' => .nx n'
theorem ns_expr (h : NE X W e v) (hs : swapsWith e none pos.line X.env = pure false := by rfl) : NS X W (.Expr e pos) (sExpr v) := by
  obtain ⟨t, p, s⟩ := h.ex
  refine ⟨tDrop t, ps_expr p hs, fun c D S q => ?_⟩
  exact s c _ S (Pst.seqS (rel := relE X.K) q fun d n' u H' F' _ st1 S1 r h1 => h1 c.s H' F' (Step.refl _) S1)
def sRet (v : NExp) : NStm := fun n => (v n).st fun d n' => .ret d n'
theorem ns_ret (h : NE X W e v) : NS X W (.Return (some e) pos) (sRet v) := by
  obtain ⟨t, p, s⟩ := h.ex
  refine ⟨tRet t, ps_ret p, fun c D S q => ?_⟩
  exact s c _ S (Pst.seqS (rel := relE X.K) q fun d n' u H' F' _ st1 S1 r h1 => h1 u c.s H' F' (Step.refl _) S1 r)
def sIf (t : NSt → R Bool) (f g : NStm) : NStm := fun n => (t n).st fun b n' => if b = true then f n' else g n'
theorem ns_if {c : Expr} {a b : List Stmt} {t : NSt → R Bool} (hc : NT X W c t) (ha : NSs X W a f) (hb : NSs X W b g) : NS X W (.If c a b pos) (sIf t f g) := by
  obtain ⟨tc, pc, sc⟩ := hc.ex
  obtain ⟨ta, pa, sa⟩ := ha.ex
  obtain ⟨tb, pb, sb⟩ := hb.ex
  refine ⟨tIfS tc ta tb, ps_if pc pa pb, fun c D S q => ?_⟩
  refine sc c _ S (Pst.seqS (rel := relT) q fun k n' k' H' F' _ st1 S1 r h1 => ?_)
  cases r
  cases k with
  | true => exact iteT (sa ⟨n', c.s, H', F'⟩ D S1 h1)
  | false => exact iteF (sb ⟨n', c.s, H', F'⟩ D S1 h1)

/-! ### targets -/
/-- a target: what it stores; vs: the slots that it may change -/
structure NG (X : Cx) (tg : Expr) (vs : List Nat) (g : PyData → NSt → Option NSt) : Prop where
  ex : ∃ t, PG X tg t ∧ ∀ (c : Cf) (d : PyData) (v : V) (n' : NSt) (Q : L2.St → Hp → Prop), Sim X.K c → Rep X.K c.H c.F d v → g d c.n = some n' →
    (∀ σ', Step c ⟨n', σ', c.H, c.F⟩ → Sim X.K ⟨n', σ', c.H, c.F⟩ → (∀ j, j ∉ vs → σ'[j]? = c.s[j]? ∧ n'[j]? = c.n[j]?) → σ'.length = c.s.length → Q σ' c.H) → t v c.s c.H Q
def gN (i : Nat) : PyData → NSt → Option NSt := fun d n => if notLent n i = true then some (n.set i (some (.val d))) else none
theorem ng_name (i : Nat) {x : Str} (hN : X.N.Nodup) (hi : X.N[i]? = some x) (hx : Loc X.env.scope x) (hf : X.fn x = true ∨ X.env.scope.names.lookup x = some .local := by first | exact .inl rfl | exact .inr rfl | assumption) : NG X (.Name x pos) [i] (gN i) := by
  refine ⟨gName i, pg_name hN hi hx hf, fun c d v n' Q S r e h => ?_⟩
  unfold gN at e
  split at e
  · rename_i hl
    cases e
    obtain ⟨S', st'⟩ := S.setVal hl r
    refine h _ st' S' (fun j hj => ?_) (by simp)
    have hj' : i ≠ j := fun z => hj (by simp [z])
    exact ⟨by rw [List.getElem?_set_ne hj'], by rw [List.getElem?_set_ne hj']⟩
  · cases e
/-- several targets -/
structure NGs (X : Cx) (tgs : List Expr) (vs : List Nat) (g : List PyData → NSt → Option NSt) : Prop where
  ex : ∃ t, PGs X tgs t ∧ ∀ (c : Cf) (ds : List PyData) (ws : List V) (n' : NSt) (Q : L2.St → Hp → Prop), Sim X.K c → Reps X.K c.H c.F ds ws → g ds c.n = some n' →
    (∀ σ', Step c ⟨n', σ', c.H, c.F⟩ → Sim X.K ⟨n', σ', c.H, c.F⟩ → (∀ j, j ∉ vs → σ'[j]? = c.s[j]? ∧ n'[j]? = c.n[j]?) → σ'.length = c.s.length → Q σ' c.H) → t ws c.s c.H Q
def gNil' : List PyData → NSt → Option NSt
  | [], n => some n
  | _, _ => none
def gCons' (g : PyData → NSt → Option NSt) (gs : List PyData → NSt → Option NSt) : List PyData → NSt → Option NSt
  | d :: ds, n => (g d n).bind (gs ds)
  | _, _ => none
theorem ngs_nil : NGs X [] [] gNil' := by
  refine ⟨gNil, pgs_nil, fun c ds ws n' Q S r e h => ?_⟩
  cases ds with
  | nil =>
    unfold Reps at r
    subst r
    cases e
    exact ⟨rfl, h c.s (Step.refl _) S (fun _ _ => ⟨rfl, rfl⟩) rfl⟩
  | cons d ds => cases e
theorem ngs_cons {tg : Expr} {tgs : List Expr} {vs ws : List Nat} {g : PyData → NSt → Option NSt} {gs : List PyData → NSt → Option NSt} (h1 : NG X tg vs g) (h2 : NGs X tgs ws gs)
    (hs : (assignEach (tg :: tgs) X.env).map (·.2) = assign tg X.env :: (assignEach tgs X.env).map (·.2) := by rfl) : NGs X (tg :: tgs) (vs ++ ws) (gCons' g gs) := by
  obtain ⟨t, p, s⟩ := h1.ex
  obtain ⟨u, q, s2⟩ := h2.ex
  refine ⟨gCons t u, pgs_cons p q hs, fun c ds us n' Q S r e h => ?_⟩
  cases ds with
  | nil => cases e
  | cons d ds =>
    unfold Reps at r
    obtain ⟨v, vs', rfl, r1, r2⟩ := r
    have e' : (g d c.n).bind (gs ds) = some n' := e
    cases eg : g d c.n with
    | none => rw [eg] at e'; cases e'
    | some n1 =>
      rw [eg] at e'
      refine ⟨v, vs', rfl, s c d v n1 _ S r1 eg fun σ1 st1 S1 k1 l1 => ?_⟩
      refine s2 ⟨n1, σ1, c.H, c.F⟩ ds vs' n' Q S1 r2 e' fun σ2 st2 S2 k2 l2 => h σ2 (st1.trans st2) S2 (fun j hj => ?_) (l2.trans l1)
      have hj1 : j ∉ vs := fun z => hj (List.mem_append_left _ z)
      have hj2 : j ∉ ws := fun z => hj (List.mem_append_right _ z)
      exact ⟨(k2 j hj2).1.trans (k1 j hj1).1, (k2 j hj2).2.trans (k1 j hj1).2⟩
def gT (gs : List PyData → NSt → Option NSt) : PyData → NSt → Option NSt
  | .tuple ds, n => gs ds n
  | _, _ => none
theorem gs_len {tgs : List Expr} {vs : List Nat} {gs : List PyData → NSt → Option NSt} (k : Nat) (hk : ∀ ds n n', gs ds n = some n' → ds.length = k) : ∀ ds n n', gs ds n = some n' → ds.length = k := hk
theorem gNil_len : ∀ ds n n', gNil' ds n = some n' → ds.length = 0 := fun ds n n' h => by
  cases ds with
  | nil => rfl
  | cons => cases h
theorem gCons_len {g : PyData → NSt → Option NSt} {gs : List PyData → NSt → Option NSt} {k : Nat} (h : ∀ ds n n', gs ds n = some n' → ds.length = k) : ∀ ds n n', gCons' g gs ds n = some n' → ds.length = k + 1 := fun ds n n' e => by
  cases ds with
  | nil => cases e
  | cons d ds =>
    have e' : (g d n).bind (gs ds) = some n' := e
    cases eg : g d n with
    | none => rw [eg] at e'; cases e'
    | some n1 =>
      rw [eg] at e'
      simp [h ds n1 n' e']
theorem ng_tup {es : List Expr} {k x1 : Nat} {vs : List Nat} {gs : List PyData → NSt → Option NSt} (hc : X.calm = true) (h : NGs X es vs gs) (hk : ∀ ds n n', gs ds n = some n' → ds.length = k)
    (hn : (assignEach es X.env).length = k := by rfl) (hst : (assignEach es X.env).findIdx? (·.1) = none := by rfl) : NG X (.Tuple es x1 pos) vs (gT gs) := by
  obtain ⟨t, p, s⟩ := h.ex
  refine ⟨gTup X.K k t, pg_tup hc p hn hst, fun c d v n' Q S r e q => ?_⟩
  cases d with
  | tuple ds =>
    obtain ⟨a, xs, rfl, hq, rs⟩ := Rep.tuple (K := X.K) (H := c.H) (F := c.F) r
    exact ⟨a, xs, rfl, hq, by rw [rs.length]; exact hk _ _ _ e, s c ds xs n' Q S rs e q⟩
  | _ => cases e
/-! ### assignments -/
def sAsg (v : NExp) (g : PyData → NSt → Option NSt) : NStm := fun n => (v n).st fun d n1 => match g d n1 with
  | some n2 => .nx n2
  | none => .bad
theorem ns_asg {tg : Expr} {vs : List Nat} {gg : PyData → NSt → Option NSt} (he : NE X W e v) (hg : NG X tg vs gg) (hs : swapsWithSole [tg] e pos.line X.env = pure false := by rfl) (hw : swappedStores [tg] e X.env = pure none := by rfl)
    (ha : (assignEach [tg] X.env).map (·.2) = [assign tg X.env] := by rfl) : NS X W (.Assign [tg] e pos) (sAsg v gg) := by
  obtain ⟨t, p, s⟩ := he.ex
  obtain ⟨u, q, s2⟩ := hg.ex
  refine ⟨tAsg t u, ps_asg p q hs hw ha, fun c D S h => ?_⟩
  refine s c _ S (Pst.seqS (rel := relE X.K) h fun d n1 x H1 F1 _ st1 S1 r h1 => ?_)
  cases eg : gg d n1 with
  | none => rw [eg] at h1; exact h1.elim
  | some n2 =>
    rw [eg] at h1
    exact s2 ⟨n1, c.s, H1, F1⟩ d x n2 _ S1 r eg fun σ2 st2 S2 _ _ => h1 σ2 H1 F1 st2 S2
/-- x = [..] where x's own list it becomes -/
def sOwn (i : Nat) (fo : NSt → R (List PyData)) : NStm := fun n => (fo n).st fun xs n1 => if notLent n1 i = true then .nx (n1.set i (some (.own xs))) else .bad
theorem own_st {i : Nat} {fo : NSt → R (List PyData)} {t : TE} (s : ∀ (c : Cf) (Q : VK), Sim X.K c → Pst X.K X.mg W (relO X.K) c Q (fo c.n) → t c.s c.H Q) {c : Cf} {D : Ends} (S : Sim X.K c) (h : PstS X.K X.mg W c D (sOwn i fo c.n)) :
    t c.s c.H fun x H1 => D.nx (c.s.set i (some x)) H1 := by
  refine s c _ S ?_
  unfold sOwn at h
  cases q : fo c.n with
  | ok xs n1 =>
    rw [q] at h
    intro x H1 F1 st1 S1 r
    have h' : PstS X.K X.mg W c D (if notLent n1 i = true then .nx (n1.set i (some (.own xs))) else .bad) := h
    split at h'
    · rename_i hl
      obtain ⟨S2, st2⟩ := Sim.setOwn st1 S1 hl r
      exact h' _ _ _ st2 S2
    · exact h'.elim
  | err x n1 => rw [q] at h; exact fun cls d H' F' s1 S1 r1 => h cls d c.s H' F' s1 S1 r1
  | bad => rw [q] at h; exact h
theorem ns_own (i : Nat) {x : Str} {pos' : Pos} {fo : NSt → R (List PyData)} (hN : X.N.Nodup) (hi : X.N[i]? = some x) (hx : Loc X.env.scope x) (he : NEo X W e fo) (hs : swapsWith e (some (.Name x pos')) pos.line X.env = pure false := by rfl)
    (hf : X.fn x = true ∨ X.env.scope.names.lookup x = some .local := by first | exact .inl rfl | exact .inr rfl | assumption) : NS X W (.Assign [.Name x pos'] e pos) (sOwn i fo) := by
  obtain ⟨t, p, s⟩ := he.ex
  exact ⟨_, ps_set hN hi hx p hs hf, fun c D S h => own_st s S h⟩
/-! ### loops -/
/-- what a for walks: it yields the items ds -/
def Gives (K : PySem.W.Frag) (J : It) (ds : List PyData) (c1 : Cf) : Prop := ∀ c2 : Cf, Step c1 c2 → Sim K c2 → ∀ i, i ≤ ds.length →
  (∀ d, ds[i]? = some d → J.go i c2.H ∧ ∀ x H', J.yld i c2.H x H' → ∃ F', Step c2 ⟨c2.n, c2.s, H', F'⟩ ∧ Sim K ⟨c2.n, c2.s, H', F'⟩ ∧ Rep K H' F' d x) ∧ (i = ds.length → J.stop i c2.H)
structure NI (X : Cx) (W : WX) (tg iter : Expr) (f : NSt → R (List PyData)) : Prop where
  ex : ∃ wi, PI X tg iter wi ∧ ∀ (c : Cf) (Q : It → Hp → Prop), Sim X.K c → Pst X.K X.mg W (fun _ c1 ds J => Gives X.K J ds c1) c Q (f c.n) → wi c.s c.H Q
def sForL (g : PyData → NSt → Option NSt) (body : NStm) : List PyData → NStm
  | [], n => .nx n
  | d :: ds, n => match g d n with
    | none => .bad
    | some n1 => match body n1 with
      | .nx n2 => sForL g body ds n2
      | .ct n2 => sForL g body ds n2
      | .brk n2 => .nx n2
      | r => r
def sFor (fi : NSt → R (List PyData)) (g : PyData → NSt → Option NSt) (body : NStm) : NStm := fun n => (fi n).st fun ds n1 => sForL g body ds n1
theorem mono_I {K : PySem.W.Frag} : Mono (fun _ c1 ds J => Gives K J ds c1) := fun _ _ _ _ _ _ h => h
theorem ns_for {tg iter : Expr} {body : List Stmt} {vs : List Nat} {gg : PyData → NSt → Option NSt} {fi : NSt → R (List PyData)} (hp : PassesOwn (model X.prog X.w) X.A X.env X.xe) (hc : X.calm = true) (hi : NI X W tg iter fi) (hg : NG X tg vs gg) (hb : NSs X W body f)
    (hs : ∀ x, foldedSetIterable iter X.env x = pure x := by intro _; rfl) : NS X W (.For tg iter body [] pos) (sFor fi gg f) := by
  obtain ⟨wi, pi, si⟩ := hi.ex
  obtain ⟨t, pg, sg⟩ := hg.ex
  obtain ⟨tb, pb, sb⟩ := hb.ex
  refine ⟨tFor wi t tb, ps_for hp hc pi pg pb hs, fun c D S h => ?_⟩
  refine si c _ S (Pst.seqS (rel := fun _ c1 ds J => Gives X.K J ds c1) h fun ds n1 J H1 F1 _ st1 S1 gv h1 => ?_)
  let c1 : Cf := ⟨n1, c.s, H1, F1⟩
  refine ⟨fun i m σ H => ∃ c2 : Cf, c2.s = σ ∧ c2.H = H ∧ i ≤ ds.length ∧ m = ds.length - i ∧ Step c1 c2 ∧ Sim X.K c2 ∧ PstS X.K X.mg W c2 D (sForL gg f (ds.drop i) c2.n), ⟨ds.length, c1, rfl, rfl, Nat.zero_le _, rfl, Step.refl _, S1, h1⟩, ?_⟩
  rintro i m σ H ⟨c2, rfl, rfl, hi, rfl, st2, S2, h2⟩
  obtain ⟨gi, gs⟩ := gv c2 st2 S2 i hi
  by_cases hlt : i < ds.length
  · have ed : ds[i]? = some ds[i] := List.getElem?_eq_getElem hlt
    obtain ⟨go, gy⟩ := gi _ ed
    have edr : ds.drop i = ds[i] :: ds.drop (i + 1) := List.drop_eq_getElem_cons hlt
    rw [edr] at h2
    refine .inr ⟨go, fun σ' H' => ∃ c3 : Cf, c3.s = σ' ∧ c3.H = H' ∧ Step c1 c3 ∧ Sim X.K c3 ∧ PstS X.K X.mg W c3 D (sForL gg f (ds.drop (i + 1)) c3.n), fun σ' H' ⟨c3, e1, e2, st3, S3, h3⟩ => ⟨ds.length - (i + 1), by omega, c3, e1, e2, hlt, rfl, st3, S3, h3⟩, fun x H' y => ?_⟩
    obtain ⟨F', st3, S3, r3⟩ := gy x H' y
    unfold sForL at h2
    cases eg : gg ds[i] c2.n with
    | none => rw [eg] at h2; exact h2.elim
    | some n3 =>
      rw [eg] at h2
      refine sg ⟨c2.n, c2.s, H', F'⟩ _ x n3 _ S3 r3 eg fun σ4 st4 S4 _ _ => ?_
      have st24 : Step c2 ⟨n3, σ4, H', F'⟩ := st3.trans st4
      refine sb ⟨n3, σ4, H', F'⟩ _ S4 ?_
      dsimp only at h2
      cases er : f n3 with
      | nx n5 =>
        rw [er] at h2
        exact fun σ5 H5 F5 st5 S5 => ⟨⟨n5, σ5, H5, F5⟩, rfl, rfl, st2.trans (st24.trans st5), S5, PstS.step (c := c2) (st24.trans st5) h2⟩
      | ct n5 =>
        rw [er] at h2
        exact fun σ5 H5 F5 st5 S5 => ⟨⟨n5, σ5, H5, F5⟩, rfl, rfl, st2.trans (st24.trans st5), S5, PstS.step (c := c2) (st24.trans st5) h2⟩
      | brk n5 =>
        rw [er] at h2
        exact fun σ5 H5 F5 st5 S5 => h2 σ5 H5 F5 (st24.trans st5) S5
      | ret d n5 =>
        rw [er] at h2
        exact fun v5 σ5 H5 F5 st5 S5 r5 => h2 v5 σ5 H5 F5 (st24.trans st5) S5 r5
      | err x n5 =>
        rw [er] at h2
        exact fun cls d5 σ5 H5 F5 st5 S5 r5 => h2 cls d5 σ5 H5 F5 (st24.trans st5) S5 r5
      | bad => rw [er] at h2; exact h2.elim
  · have e : i = ds.length := by omega
    subst e
    refine .inl ⟨gs rfl, ?_⟩
    rw [List.drop_length] at h2
    exact h2 c2.s c2.H c2.F (Step.refl _) S2
/-- at most so many turns -/
def sWhile : Nat → (NSt → R Bool) → NStm → NStm
  | 0, _, _, _ => .bad
  | k + 1, t, body, n => (t n).st fun b n1 => if b = true then (match body n1 with
      | .nx n2 => sWhile k t body n2
      | .ct n2 => sWhile k t body n2
      | .brk n2 => .nx n2
      | r => r) else .nx n1
theorem ns_while (k : Nat) {c : Expr} {body : List Stmt} {t : NSt → R Bool} (hp : PassesOwn (model X.prog X.w) X.A X.env X.xe) (hc : NT X W c t) (hb : NSs X W body f) : NS X W (.While c body [] pos) (sWhile k t f) := by
  obtain ⟨tc, pc, sc⟩ := hc.ex
  obtain ⟨tb, pb, sb⟩ := hb.ex
  refine ⟨tWhile tc tb, ps_while hp pc pb, fun c D S h => ?_⟩
  refine ⟨fun m σ H => ∃ c2 : Cf, c2.s = σ ∧ c2.H = H ∧ Step c c2 ∧ Sim X.K c2 ∧ PstS X.K X.mg W c2 D (sWhile m t f c2.n), ⟨k, c, rfl, rfl, Step.refl _, S, h⟩, ?_⟩
  rintro m σ H ⟨c2, rfl, rfl, st2, S2, h2⟩
  cases m with
  | zero => exact h2.elim
  | succ m =>
    refine sc c2 _ S2 (Pst.seqS (rel := relT) h2 fun b n3 b' H3 F3 _ st3 S3 r h3 => ?_)
    cases r
    cases b with
    | false => exact iteF (h3 c2.s H3 F3 (Step.refl _) S3)
    | true =>
      refine iteT ⟨fun σ' H' => ∃ c3 : Cf, c3.s = σ' ∧ c3.H = H' ∧ Step c c3 ∧ Sim X.K c3 ∧ PstS X.K X.mg W c3 D (sWhile m t f c3.n), fun σ' H' q => ⟨m, Nat.lt_succ_self m, q⟩, ?_⟩
      refine sb ⟨n3, c2.s, H3, F3⟩ _ S3 ?_
      have h3 : PstS X.K X.mg W ⟨n3, c2.s, H3, F3⟩ D (match f n3 with
        | .nx n2 => sWhile m t f n2
        | .ct n2 => sWhile m t f n2
        | .brk n2 => .nx n2
        | r => r) := h3
      have st23 : Step c ⟨n3, c2.s, H3, F3⟩ := st2.trans st3
      cases er : f n3 with
      | nx n5 =>
        rw [er] at h3
        exact fun σ5 H5 F5 st5 S5 => ⟨⟨n5, σ5, H5, F5⟩, rfl, rfl, st23.trans st5, S5, PstS.step (c := ⟨n3, c2.s, H3, F3⟩) st5 h3⟩
      | ct n5 =>
        rw [er] at h3
        exact fun σ5 H5 F5 st5 S5 => ⟨⟨n5, σ5, H5, F5⟩, rfl, rfl, st23.trans st5, S5, PstS.step (c := ⟨n3, c2.s, H3, F3⟩) st5 h3⟩
      | brk n5 => rw [er] at h3; exact h3
      | ret d n5 => rw [er] at h3; exact h3
      | err x n5 => rw [er] at h3; exact h3
      | bad => rw [er] at h3; exact h3.elim
end

/-! ### defs -/
/-- a def's promise: g, over its arguments -/
def NProm (K : PySem.W.Frag) (mg : Str → Option Value) (k : Nat) (g : NExp) : Sp := fun vs H Q E => ∃ (a : NSt) (F : Fz), a.length = k ∧ (∀ (i : Nat) (xs : List PyData), a[i]? ≠ some (some (Sl.own xs))) ∧ (∀ o ∈ a, o ≠ none) ∧ Sim K ⟨a, vs.map some, H, F⟩ ∧
  Pst K mg (fun cls d _ H' => E cls d H') (relE K) ⟨a, vs.map some, H, F⟩ Q (g a)
/-- a def of the text, where it stands, what it promises -/
structure NFn (P : Program) (w : World) (K : PySem.W.Frag) (mg : Str → Option Value) (base : Heap) (k : Nat) (x : Str) (n : Nat) (g : NExp) : Prop where
  ex : ∃ (f : Addr) (fd : FuncData) (ps : List Str), FnOk P w K mg base (L2.CX P w) k f fd ps (NProm K mg n g) ∧ mg x = some (.ref f) ∧ PySem.W.keepIn K (.ref f) = true ∧ Binds K fd ps []
theorem NFn.mono {P : Program} {w : World} {K : PySem.W.Frag} {mg : Str → Option Value} {base : Heap} {k k' : Nat} {x : Str} {n : Nat} {g : NExp} (h : NFn P w K mg base k x n g) (hk : k ≤ k') : NFn P w K mg base k' x n g :=
  let ⟨f, fd, ps, F, m, kp, b⟩ := h.ex; ⟨f, fd, ps, F.mono hk, m, kp, b⟩
def outs (a n' : NSt) : NSt := List.zipWith (fun s s' => match s with
  | some (.lent _) => s'
  | s => s) a n'
def runD (N : Nat) (body : NStm) : NExp := fun a => match body (a ++ List.replicate (N - a.length) none) with
  | .ret d n' => .ok d (outs a n')
  | .nx n' => .ok .none (outs a n')
  | .err x n' => .err x (outs a n')
  | _ => .bad
theorem outs_get {a n' : NSt} {i : Nat} {s : Option Sl} (h : a[i]? = some s) (hl : a.length ≤ n'.length) : (outs a n')[i]? = some (match s with
  | some (.lent _) => n'[i]?.getD none
  | s => s) := by
  unfold outs
  have hi : i < a.length := lt_of_get h
  have hi' : i < n'.length := Nat.lt_of_lt_of_le hi hl
  rw [List.getElem?_zipWith]
  cases s with
  | none => simp [h, List.getElem?_eq_getElem hi']
  | some sl => cases sl <;> simp [h, List.getElem?_eq_getElem hi']
theorem outs_len {a n' : NSt} (hl : a.length ≤ n'.length) : (outs a n').length = a.length := by
  unfold outs
  rw [List.length_zipWith]
  omega
section
variable {K : PySem.W.Frag}
/-- behind a body, seen by its arguments -/
theorem Sim.outs {a n' : NSt} {vs : List V} {H H' : Hp} {F F' : Fz} {N : Nat} {σ' : L2.St} (S0 : Sim K ⟨a, vs.map some, H, F⟩) (hl : a.length ≤ N) (no : ∀ (i : Nat) (xs : List PyData), a[i]? ≠ some (some (Sl.own xs)))
    (st : Step ⟨a ++ List.replicate (N - a.length) none, vs.map some ++ List.replicate (N - a.length) none, H, F⟩ ⟨n', σ', H', F'⟩) (S : Sim K ⟨n', σ', H', F'⟩) :
    Step ⟨a, vs.map some, H, F⟩ ⟨NL.outs a n', vs.map some, H', F'⟩ ∧ Sim K ⟨NL.outs a n', vs.map some, H', F'⟩ := by
  have hN : n'.length = N := by
    have := st.ln
    simp only [List.length_append, List.length_replicate] at this
    omega
  have hln : a.length ≤ n'.length := by omega
  have hav : a.length = (vs.map some).length := S0.len
  have big : ∀ (i : Nat) (s : Sl), a[i]? = some (some s) → (a ++ List.replicate (N - a.length) none)[i]? = some (some s) := fun i s e => by
    rw [List.getElem?_append_left (lt_of_get e)]; exact e
  have small : ∀ (i : Nat) (s : Sl), (a ++ List.replicate (N - a.length) none)[i]? = some (some s) → a[i]? = some (some s) ∧ i < a.length := fun i s e => by
    by_cases hi : i < a.length
    · rw [List.getElem?_append_left hi] at e
      exact ⟨e, hi⟩
    · rw [List.getElem?_append_right (by omega), List.getElem?_replicate] at e
      split at e <;> cases e
  have sv : ∀ (i : Nat), i < a.length → (vs.map some ++ List.replicate (N - a.length) none : L2.St)[i]? = (vs.map some)[i]? := fun i hi => List.getElem?_append_left (by rw [← hav]; exact hi)
  let cA : Cf := ⟨a, vs.map some, H, F⟩
  let c0 : Cf := ⟨a ++ List.replicate (N - a.length) none, vs.map some ++ List.replicate (N - a.length) none, H, F⟩
  have hd0 : ∀ b, c0.Hd b → cA.Hd b := fun b ⟨i, s, e1, e2, e3⟩ => by
    obtain ⟨e4, hi⟩ := small i s e1
    exact ⟨i, s, e4, e2, by rw [← sv i hi]; exact e3⟩
  have hdA : ∀ b, cA.Hd b → c0.Hd b := fun b ⟨i, s, e1, e2, e3⟩ => ⟨i, s, big i s e1, e2, by
    show (vs.map some ++ List.replicate (N - a.length) none : L2.St)[i]? = _
    rw [sv i (lt_of_get e1)]; exact e3⟩
  have ow0 : ∀ b, ¬ c0.Ow b := fun b ⟨i, xs, e1, e2⟩ => no i xs (small i _ e1).1
  have frA : ∀ b, F b → F' b ∧ H' b = H b := fun b f => ⟨st.fz b f, st.keep b (S0.fz b f) fun z => S0.nohd (c := cA) f (hd0 b z)⟩
  -- a lent slot
  have lent : ∀ (i : Nat) (xs : List PyData), a[i]? = some (some (.lent xs)) → ∃ ys, n'[i]? = some (some (.lent ys)) ∧ σ'[i]? = (vs.map some)[i]? ∧ (NL.outs a n')[i]? = some (some (.lent ys)) := fun i xs e => by
    obtain ⟨ys, e1, e2⟩ := st.mu i xs (big i _ e)
    have e1' : n'[i]? = some (some (.lent ys)) := e1
    refine ⟨ys, e1', by rw [← sv i (lt_of_get e)]; exact e2, ?_⟩
    rw [outs_get e hln]
    show some (n'[i]?.getD none) = _
    rw [e1']; rfl
  have slotOf : ∀ (i : Nat) (s : Sl), (NL.outs a n')[i]? = some (some s) → (∃ xs, s = .lent xs ∧ ∃ ys, a[i]? = some (some (.lent ys)) ∧ n'[i]? = some (some (.lent xs)) ∧ σ'[i]? = (vs.map some)[i]?) ∨ (a[i]? = some (some s) ∧ s.held = false) := fun i s e => by
    have hi : i < a.length := by
      have := lt_of_get e
      rw [outs_len hln] at this; exact this
    cases q : a[i]? with
    | none => rw [List.getElem?_eq_getElem hi] at q; cases q
    | some o =>
      cases o with
      | none =>
        rw [outs_get q hln] at e
        cases e
      | some t =>
        cases t with
        | lent ys =>
          obtain ⟨zs, e1, e2, e3⟩ := lent i ys q
          rw [e3] at e
          cases e
          exact .inl ⟨zs, rfl, ys, rfl, e1, e2⟩
        | own ys => exact absurd q (no i ys)
        | val d =>
          rw [outs_get q hln] at e
          cases e
          exact .inr ⟨rfl, rfl⟩
        | scr d =>
          rw [outs_get q hln] at e
          cases e
          exact .inr ⟨rfl, rfl⟩
  have hdO : ∀ b, (⟨NL.outs a n', vs.map some, H', F'⟩ : Cf).Hd b → cA.Hd b := fun b ⟨i, s, e1, e2, e3⟩ => by
    rcases slotOf i s e1 with ⟨xs, rfl, ys, h1, h2, h3⟩ | ⟨h1, h2⟩
    · exact ⟨i, _, h1, rfl, e3⟩
    · rw [h2] at e2; cases e2
  refine ⟨⟨fun b n nh => st.keep b n fun z => nh (hd0 b z), st.live, st.fz, fun b f => ?_, fun b h => .inl (hdO b h), fun b ⟨i, xs, e1, e2⟩ => ?_, fun i xs e => ?_, outs_len hln⟩, ⟨by rw [show (NL.outs a n').length = a.length from outs_len hln]; exact hav, fun i s e => ?_, fun i j si sj b e1 e2 h1 h2 q1 q2 => ?_, S.fz⟩⟩
  · rcases st.fn b f with z | z | z
    · exact .inl z
    · exact .inr (.inl z)
    · exact absurd z (ow0 b)
  · rcases slotOf i _ e1 with ⟨zs, z, _⟩ | ⟨h1, h2⟩
    · cases z
    · cases h2
  · obtain ⟨ys, _, _, e3⟩ := lent i xs e
    exact ⟨ys, e3, rfl⟩
  · rcases slotOf i s e with ⟨xs, rfl, ys, h1, h2, h3⟩ | ⟨h1, h2⟩
    · obtain ⟨v, e1, r⟩ := S.slot i _ h2
      exact ⟨v, by show (vs.map some)[i]? = _; rw [← h3]; exact e1, r⟩
    · obtain ⟨v, e1, r⟩ := S0.slot i s h1
      refine ⟨v, e1, ?_⟩
      cases s with
      | val d => exact Rep.keep frA d v r
      | own d => cases h2
      | lent d => cases h2
      | scr d =>
        obtain ⟨b, ns, e2, e3, z⟩ := r
        refine ⟨b, ns, e2, e3, ?_⟩
        rcases z with ⟨o, z⟩ | z
        · refine .inl ⟨o, (st.keep b (by show H b ≠ none; rw [show H b = _ from z]; simp) fun hh => ?_).trans z⟩
          obtain ⟨k, t, q1, q2, q3⟩ := hd0 b hh
          obtain ⟨u, q4, q5⟩ := S0.slot k t q1
          have q3' : (vs.map some)[k]? = some (some (V.ref b)) := q3
          have q4' : (vs.map some)[k]? = some (some u) := q4
          rw [q3'] at q4'
          cases q4'
          cases t with
          | val d => cases q2
          | scr d => cases q2
          | own d =>
            obtain ⟨b', ws, y1, _, y2, _⟩ := q5
            cases y1
            have z2 := z.symm.trans y2
            cases z2
          | lent d =>
            obtain ⟨b', ws, y1, _, y2, _⟩ := q5
            cases y1
            have z2 := z.symm.trans y2
            cases z2
        · exact .inr z
  · have low : ∀ (i : Nat) (s : Sl), (NL.outs a n')[i]? = some (some s) → s.held = true → ∃ t : Sl, a[i]? = some (some t) ∧ t.held = true := fun i s e hh => by
      rcases slotOf i s e with ⟨xs, rfl, ys, h1, h2, h3⟩ | ⟨h1, h2⟩
      · exact ⟨_, h1, rfl⟩
      · rw [h2] at hh; cases hh
    obtain ⟨t1, z1, y1⟩ := low i si e1 h1
    obtain ⟨t2, z2, y2⟩ := low j sj e2 h2
    exact S0.sep i j t1 t2 b z1 z2 y1 y2 q1 q2
theorem map_some_none {vs : List V} {m : Nat} : (vs.map some ++ List.replicate m none : L2.St) = vs.map some ++ List.replicate m none := rfl
/-- ahead of a body -/
theorem Sim.enter {a : NSt} {vs : List V} {H : Hp} {F : Fz} (S : Sim K ⟨a, vs.map some, H, F⟩) (m : Nat) : Sim K ⟨a ++ List.replicate m none, vs.map some ++ List.replicate m none, H, F⟩ := by
  have hav : a.length = (vs.map some).length := S.len
  have small : ∀ (i : Nat) (s : Sl), (a ++ List.replicate m none)[i]? = some (some s) → a[i]? = some (some s) ∧ i < a.length := fun i s e => by
    by_cases hi : i < a.length
    · rw [List.getElem?_append_left hi] at e
      exact ⟨e, hi⟩
    · rw [List.getElem?_append_right (by omega), List.getElem?_replicate] at e
      split at e <;> cases e
  have sv : ∀ (i : Nat), i < a.length → (vs.map some ++ List.replicate m none : L2.St)[i]? = (vs.map some)[i]? := fun i hi => List.getElem?_append_left (by rw [← hav]; exact hi)
  refine ⟨by simp only [List.length_append, List.length_replicate]; rw [hav], fun i s e => ?_, fun i j si sj b e1 e2 h1 h2 q1 q2 => ?_, S.fz⟩
  · obtain ⟨e1, hi⟩ := small i s e
    obtain ⟨v, e2, r⟩ := S.slot i s e1
    exact ⟨v, by show (vs.map some ++ List.replicate m none : L2.St)[i]? = _; rw [sv i hi]; exact e2, r⟩
  · obtain ⟨e1, hi⟩ := small i si e1
    obtain ⟨e2, hj⟩ := small j sj e2
    refine S.sep i j si sj b e1 e2 h1 h2 ?_ ?_
    · show (vs.map some)[i]? = _
      rw [← sv i hi]; exact q1
    · show (vs.map some)[j]? = _
      rw [← sv j hj]; exact q2
end
section
variable {P : Program} {w : World} {K : PySem.W.Frag} {mg : Str → Option Value} {base : Heap}
/-- THE RULE for a def -/
theorem NFn.ok {nm qual : Str} {params : Arguments} {sbody : List Stmt} {scope : Scope} {f : Addr} {fd : FuncData} {N ps : List Str} {k n : Nat} {body : NStm} (F : FunD K nm qual params sbody scope [] [] f fd) (S : FnScope N ps scope)
    (hn : n = ps.length)
    (hbody : ∀ (cdv : Value) (A : Around) (outer : List Env) (s : Shared) (H : Hp) (E : XK), Room k (A.deeper (envOfC qual scope s.heap.objs.size f cdv)) →
      NSs (cxOf (L2.CX P w) P w K mg base N qual scope f cdv A outer s H E) (fun cls d _ H' => E cls d H') sbody body) : FnOk P w K mg base (L2.CX P w) (k + 1) f fd ps (NProm K mg n (runD N.length body)) := by
  refine F.ok S (fun vs H Q E ⟨a, F', hl, _, _, S0, _⟩ => ?_) fun cdv A outer s H vs Q E hr hsp => ?_
  · have h1 : a.length = (vs.map some).length := S0.len
    rw [List.length_map] at h1
    omega
  · obtain ⟨t, p, sd⟩ := (hbody cdv A outer s H E hr).ex
    refine ⟨t, p, ?_⟩
    obtain ⟨a, F', hl, no, _, S0, q⟩ := hsp
    have h1 : a.length = (vs.map some).length := S0.len
    have hvl : vs.length = a.length := by rw [List.length_map] at h1; exact h1.symm
    have hN : a.length ≤ N.length := by
      have := congrArg List.length S.pre
      rw [List.length_take] at this
      omega
    have est : start N vs = vs.map some ++ List.replicate (N.length - a.length) none := by
      unfold start
      rw [hvl]
    rw [est]
    refine sd ⟨a ++ List.replicate (N.length - a.length) none, vs.map some ++ List.replicate (N.length - a.length) none, H, F'⟩ _ (S0.enter _) ?_
    unfold runD at q
    cases er : body (a ++ List.replicate (N.length - a.length) none) with
    | nx n' =>
      rw [er] at q
      intro σ' H' F2 st S2
      obtain ⟨st3, S3⟩ := Sim.outs S0 hN no st S2
      exact q .non H' F2 st3 S3 Rep.mkNone
    | ret d n' =>
      rw [er] at q
      intro v σ' H' F2 st S2 r
      obtain ⟨st3, S3⟩ := Sim.outs S0 hN no st S2
      exact q v H' F2 st3 S3 r
    | err x n' =>
      rw [er] at q
      intro cls d σ' H' F2 st S2 r
      obtain ⟨st3, S3⟩ := Sim.outs S0 hN no st S2
      exact q cls d H' F2 st3 S3 r
    | brk n' => rw [er] at q; exact q.elim
    | ct n' => rw [er] at q; exact q.elim
    | bad => rw [er] at q; exact q.elim
theorem NFn.of {x nm qual : Str} {params : Arguments} {sbody : List Stmt} {scope : Scope} {f : Addr} {fd : FuncData} {N ps : List Str} {k n : Nat} {body : NStm} (F : FunD K nm qual params sbody scope [] [] f fd) (hm : mg x = some (.ref f)) (S : FnScope N ps scope)
    (hb : Binds K fd ps []) (hn : n = ps.length)
    (hbody : ∀ (cdv : Value) (A : Around) (outer : List Env) (s : Shared) (H : Hp) (E : XK), Room k (A.deeper (envOfC qual scope s.heap.objs.size f cdv)) →
      NSs (cxOf (L2.CX P w) P w K mg base N qual scope f cdv A outer s H E) (fun cls d _ H' => E cls d H') sbody body) : NFn P w K mg base (k + 1) x n (runD N.length body) :=
  ⟨f, fd, ps, NFn.ok F S hn hbody, hm, F.kp, hb⟩
end
/-! ### calls -/
/-- the arguments, resolved in the state of the call -/
def resolve (n : NSt) : List AV → Option NSt
  | [] => some []
  | .v d :: as => (resolve n as).map (some (Sl.val d) :: ·)
  | .o i :: as => match n[i]? with
    | some (some (.own xs)) => (resolve n as).map (some (Sl.lent xs) :: ·)
    | some (some (.lent xs)) => (resolve n as).map (some (Sl.lent xs) :: ·)
    | some (some (.scr xs)) => (resolve n as).map (some (Sl.scr xs) :: ·)
    | _ => none
def ixs : List AV → List Nat
  | [] => []
  | .v _ :: as => ixs as
  | .o i :: as => i :: ixs as
/-- the lent lists come back -/
def putBack (n : NSt) (i : Nat) (o : Option Sl) : NSt := match o with
  | some (.lent ys) => (match n[i]? with
    | some (some sl) => n.set i (some (sl.put ys))
    | _ => n)
  | _ => n
def back (n : NSt) : List AV → NSt → NSt
  | [], _ => n
  | .v _ :: as, os => back n as os.tail
  | .o i :: as, os => back (putBack n i (os.head?.getD none)) as os.tail
def nCall (g : NExp) (fs : NSt → R (List AV)) : NExp := fun n => (fs n).bind fun as n1 => if (ixs as).Nodup then (match resolve n1 as with
  | some a => match g a with
    | .ok d os => .ok d (back n1 as os)
    | .err x os => .err x (back n1 as os)
    | .bad => .bad
  | none => .bad) else .bad

section
variable {K : PySem.W.Frag}
theorem resolve_len : ∀ {as : List AV} {n a : NSt}, resolve n as = some a → a.length = as.length
  | [], n, a, h => by cases h; rfl
  | .v d :: as, n, a, h => by
    unfold resolve at h
    cases e : resolve n as with
    | none => rw [e] at h; cases h
    | some b => rw [e] at h; cases h; simp [resolve_len e]
  | .o i :: as, n, a, h => by
    unfold resolve at h
    split at h
    all_goals first | cases h | skip
    all_goals
      cases e : resolve n as with
      | none => rw [e] at h; cases h
      | some b => rw [e] at h; cases h; simp [resolve_len e]
/-- where the j-th argument comes from -/
def From (n : NSt) (av : AV) (o : Option Sl) : Prop := match av with
  | .v d => o = some (.val d)
  | .o i => (∃ xs, n[i]? = some (some (.own xs)) ∧ o = some (.lent xs)) ∨ (∃ xs, n[i]? = some (some (.lent xs)) ∧ o = some (.lent xs)) ∨ (∃ xs, n[i]? = some (some (.scr xs)) ∧ o = some (.scr xs))
theorem resolve_at : ∀ {as : List AV} {n a : NSt} {j : Nat} {o : Option Sl}, resolve n as = some a → a[j]? = some o → ∃ av, as[j]? = some av ∧ From n av o
  | [], n, a, j, o, h, e => by cases h; simp at e
  | .v d :: as, n, a, j, o, h, e => by
    unfold resolve at h
    cases q : resolve n as with
    | none => rw [q] at h; cases h
    | some b =>
      rw [q] at h
      cases h
      cases j with
      | zero => simp at e; exact ⟨_, rfl, e.symm⟩
      | succ j =>
        obtain ⟨av, h1, h2⟩ := resolve_at (j := j) q (by simpa using e)
        exact ⟨av, by simpa using h1, h2⟩
  | .o i :: as, n, a, j, o, h, e => by
    unfold resolve at h
    split at h
    · rename_i xs hx
      cases q : resolve n as with
      | none => rw [q] at h; cases h
      | some b =>
        rw [q] at h
        cases h
        cases j with
        | zero => simp at e; exact ⟨_, rfl, .inl ⟨xs, hx, e.symm⟩⟩
        | succ j =>
          obtain ⟨av, h1, h2⟩ := resolve_at (j := j) q (by simpa using e)
          exact ⟨av, by simpa using h1, h2⟩
    · rename_i xs hx
      cases q : resolve n as with
      | none => rw [q] at h; cases h
      | some b =>
        rw [q] at h
        cases h
        cases j with
        | zero => simp at e; exact ⟨_, rfl, .inr (.inl ⟨xs, hx, e.symm⟩)⟩
        | succ j =>
          obtain ⟨av, h1, h2⟩ := resolve_at (j := j) q (by simpa using e)
          exact ⟨av, by simpa using h1, h2⟩
    · rename_i xs hx
      cases q : resolve n as with
      | none => rw [q] at h; cases h
      | some b =>
        rw [q] at h
        cases h
        cases j with
        | zero => simp at e; exact ⟨_, rfl, .inr (.inr ⟨xs, hx, e.symm⟩)⟩
        | succ j =>
          obtain ⟨av, h1, h2⟩ := resolve_at (j := j) q (by simpa using e)
          exact ⟨av, by simpa using h1, h2⟩
    · cases h
theorem ixs_mem : ∀ {as : List AV} {j i : Nat}, as[j]? = some (.o i) → i ∈ ixs as
  | [], j, i, h => by simp at h
  | .v d :: as, 0, i, h => by simp at h
  | .v d :: as, j + 1, i, h => by
    have := ixs_mem (as := as) (j := j) (i := i) (by simpa using h)
    simpa [ixs] using this
  | .o k :: as, 0, i, h => by simp at h; simp [ixs, h]
  | .o k :: as, j + 1, i, h => by
    have := ixs_mem (as := as) (j := j) (i := i) (by simpa using h)
    simp [ixs, this]
theorem ixs_inj : ∀ {as : List AV} {j k i : Nat}, (ixs as).Nodup → as[j]? = some (.o i) → as[k]? = some (.o i) → j = k
  | [], j, k, i, _, h, _ => by simp at h
  | .v d :: as, 0, k, i, _, h, _ => by simp at h
  | .v d :: as, j + 1, 0, i, _, _, h => by simp at h
  | .v d :: as, j + 1, k + 1, i, nd, h, h' => by
    exact congrArg (· + 1) (ixs_inj (as := as) (i := i) (j := j) (k := k) nd (by simpa using h) (by simpa using h'))
  | .o m :: as, 0, 0, i, _, _, _ => rfl
  | .o m :: as, 0, k + 1, i, nd, h, h' => by
    have e : m = i := by simpa using h
    subst e
    have := ixs_mem (as := as) (j := k) (i := m) (by simpa using h')
    exact absurd this (List.nodup_cons.mp nd).1
  | .o m :: as, j + 1, 0, i, nd, h, h' => by
    have e : m = i := by simpa using h'
    subst e
    have := ixs_mem (as := as) (j := j) (i := m) (by simpa using h)
    exact absurd this (List.nodup_cons.mp nd).1
  | .o m :: as, j + 1, k + 1, i, nd, h, h' => by
    exact congrArg (· + 1) (ixs_inj (as := as) (i := i) (j := j) (k := k) (List.nodup_cons.mp nd).2 (by simpa using h) (by simpa using h'))
theorem paired_at {α β : Type} {G : α → β → Prop} {l : List α} {m : List β} (h : Paired G l m) : ∀ {j : Nat} {a : α} {b : β}, l[j]? = some a → m[j]? = some b → G a b := by
  induction h with
  | nil => intro j a b e; simp at e
  | cons r t ih =>
    intro j a b e1 e2
    cases j with
    | zero => simp at e1 e2; subst e1 e2; exact r
    | succ j => exact ih (by simpa using e1) (by simpa using e2)
/-- what stands in a slot behind the call -/
theorem putBack_len {n : NSt} {i : Nat} {o : Option Sl} : (putBack n i o).length = n.length := by
  unfold putBack
  split
  · split <;> simp
  · rfl
theorem putBack_out {n : NSt} {i k : Nat} {o : Option Sl} (h : k ≠ i) : (putBack n k o)[i]? = n[i]? := by
  unfold putBack
  split
  · split
    · rw [List.getElem?_set_ne h]
    · rfl
  · rfl
theorem putBack_lent {n : NSt} {i : Nat} {ys : List PyData} {sl : Sl} (h : n[i]? = some (some sl)) : (putBack n i (some (.lent ys)))[i]? = some (some (sl.put ys)) := by
  unfold putBack
  simp only [h]
  rw [List.getElem?_set_self (lt_of_get h)]
theorem putBack_else {n : NSt} {i : Nat} {o : Option Sl} (h : ∀ ys, o ≠ some (.lent ys)) : putBack n i o = n := by
  unfold putBack
  split
  · rename_i ys
    exact absurd rfl (h ys)
  · rfl
theorem back_len : ∀ {as : List AV} {n os : NSt}, (back n as os).length = n.length
  | [], n, os => rfl
  | .v d :: as, n, os => by
    show (back n as os.tail).length = _
    exact back_len
  | .o i :: as, n, os => by
    show (back (putBack n i _) as os.tail).length = _
    rw [back_len, putBack_len]
theorem back_out : ∀ {as : List AV} {n os : NSt} {i : Nat}, i ∉ ixs as → (back n as os)[i]? = n[i]?
  | [], n, os, i, _ => rfl
  | .v d :: as, n, os, i, h => by
    show (back n as os.tail)[i]? = _
    exact back_out (as := as) (by simpa [ixs] using h)
  | .o k :: as, n, os, i, h => by
    have h1 : k ≠ i := fun z => h (by simp [ixs, z])
    have h2 : i ∉ ixs as := fun z => h (by simp [ixs, z])
    show (back (putBack n k _) as os.tail)[i]? = _
    rw [back_out (as := as) h2, putBack_out h1]
theorem back_at : ∀ {as : List AV} {n os : NSt} {i j : Nat} {sl : Sl}, (ixs as).Nodup → as[j]? = some (.o i) → n[i]? = some (some sl) →
    (∀ ys, os[j]? = some (some (.lent ys)) → (back n as os)[i]? = some (some (sl.put ys))) ∧ ((∀ ys, os[j]? ≠ some (some (.lent ys))) → (back n as os)[i]? = some (some sl))
  | [], n, os, i, j, sl, _, h, _ => by simp at h
  | .v d :: as, n, os, i, 0, sl, _, h, _ => by simp at h
  | .v d :: as, n, os, i, j + 1, sl, nd, h, e => by
    have := back_at (as := as) (n := n) (os := os.tail) (i := i) (j := j) (sl := sl) nd (by simpa using h) e
    have et : os.tail[j]? = os[j + 1]? := by cases os <;> simp
    rw [et] at this
    exact this
  | .o k :: as, n, os, i, 0, sl, nd, h, e => by
    have ek : k = i := by simpa using h
    subst ek
    have hk : k ∉ ixs as := (List.nodup_cons.mp nd).1
    have e0 : os[0]? = os.head? := by cases os <;> simp
    refine ⟨fun ys hy => ?_, fun hn => ?_⟩
    · rw [e0] at hy
      show (back (putBack n k (os.head?.getD none)) as os.tail)[k]? = _
      rw [back_out hk, hy]
      exact putBack_lent e
    · show (back (putBack n k (os.head?.getD none)) as os.tail)[k]? = _
      rw [back_out hk, putBack_else]
      · exact e
      · intro ys z
        cases q : os.head? with
        | none => rw [q] at z; cases z
        | some o =>
          rw [q] at z
          have z' : o = some (.lent ys) := z
          exact hn ys (by rw [e0, q, z'])
  | .o k :: as, n, os, i, j + 1, sl, nd, h, e => by
    have h' : as[j]? = some (.o i) := by simpa using h
    have hne : k ≠ i := fun z => by
      subst z
      exact (List.nodup_cons.mp nd).1 (ixs_mem h')
    have := back_at (as := as) (n := putBack n k (os.head?.getD none)) (os := os.tail) (i := i) (j := j) (sl := sl) (List.nodup_cons.mp nd).2 h' (by rw [putBack_out hne]; exact e)
    have et : os.tail[j]? = os[j + 1]? := by cases os <;> simp
    rw [et] at this
    exact this
theorem mem_ixs : ∀ {as : List AV} {i : Nat}, i ∈ ixs as → ∃ j : Nat, as[j]? = some (AV.o i)
  | [], i, h => by simp [ixs] at h
  | .v d :: as, i, h => by
    obtain ⟨j, e⟩ := mem_ixs (as := as) (i := i) (by simpa [ixs] using h)
    exact ⟨j + 1, by simpa using e⟩
  | .o k :: as, i, h => by
    by_cases e : i = k
    · exact ⟨0, by simp [e]⟩
    · obtain ⟨j, q⟩ := mem_ixs (as := as) (i := i) (by simpa [ixs, e] using h)
      exact ⟨j + 1, by simpa using q⟩
/-- the arguments as a state of their own -/
theorem Sim.args {c : Cf} (S : Sim K c) {as : List AV} {vs : List V} {a : NSt} (nd : (ixs as).Nodup) (r : Paired (AVRep K c) as vs) (e : resolve c.n as = some a) :
    Sim K ⟨a, vs.map some, c.H, c.F⟩ ∧ (∀ (i : Nat) (xs : List PyData), a[i]? ≠ some (some (Sl.own xs))) ∧ (∀ o ∈ a, o ≠ none) ∧ (∀ b, (⟨a, vs.map some, c.H, c.F⟩ : Cf).Hd b → ∃ (j i : Nat) (sl : Sl), as[j]? = some (.o i) ∧ c.n[i]? = some (some sl) ∧ sl.held = true ∧ c.s[i]? = some (some (.ref b))) := by
  have hlen : a.length = as.length := resolve_len e
  have hv : as.length = vs.length := Paired.length r
  have valAt : ∀ (j : Nat) (av : AV), as[j]? = some av → ∃ v, vs[j]? = some v ∧ AVRep K c av v := fun j av q => by
    have hj : j < vs.length := by rw [← hv]; exact lt_of_get q
    exact ⟨vs[j], List.getElem?_eq_getElem hj, paired_at r q (List.getElem?_eq_getElem hj)⟩
  have heldAt : ∀ (j : Nat) (s : Sl), a[j]? = some (some s) → s.held = true → ∃ (i : Nat) (xs : List PyData) (sl : Sl), as[j]? = some (.o i) ∧ c.n[i]? = some (some sl) ∧ sl.held = true ∧ sl.list? = some xs ∧ s = .lent xs := fun j s q hh => by
    obtain ⟨av, h1, h2⟩ := resolve_at e q
    cases av with
    | v d =>
      have h2' : some s = some (Sl.val d) := h2
      cases h2'; cases hh
    | o i =>
      rcases h2 with ⟨xs, h3, h4⟩ | ⟨xs, h3, h4⟩ | ⟨xs, h3, h4⟩
      · cases h4; exact ⟨i, xs, _, h1, h3, rfl, rfl, rfl⟩
      · cases h4; exact ⟨i, xs, _, h1, h3, rfl, rfl, rfl⟩
      · cases h4; cases hh
  have hdAt : ∀ (j : Nat) (s : Sl) (b : Addr), a[j]? = some (some s) → s.held = true → (vs.map some)[j]? = some (some (V.ref b)) → ∃ (i : Nat) (sl : Sl), as[j]? = some (.o i) ∧ c.n[i]? = some (some sl) ∧ sl.held = true ∧ c.s[i]? = some (some (.ref b)) := fun j s b q hh es => by
    obtain ⟨i, xs, sl, h1, h2, h3, _, _⟩ := heldAt j s q hh
    obtain ⟨v, hv1, hv2⟩ := valAt j _ h1
    have es' : (vs.map some)[j]? = some (some v) := by rw [List.getElem?_map, hv1]; rfl
    rw [es'] at es
    cases es
    exact ⟨i, sl, h1, h2, h3, hv2⟩
  refine ⟨⟨by show a.length = (vs.map some).length; rw [List.length_map]; omega, fun j s q => ?_, fun j k sj sk b e1 e2 h1 h2 q1 q2 => ?_, S.fz⟩, fun j xs q => ?_, fun o ho => ?_, fun b ⟨j, s, q, hh, es⟩ => ?_⟩
  · obtain ⟨av, h1, h2⟩ := resolve_at e q
    obtain ⟨v, hv1, hv2⟩ := valAt j av h1
    refine ⟨v, by show (vs.map some)[j]? = _; rw [List.getElem?_map, hv1]; rfl, ?_⟩
    cases av with
    | v d =>
      have h2' : some s = some (Sl.val d) := h2
      cases h2'
      exact hv2
    | o i =>
      have hv2' : c.s[i]? = some (some v) := hv2
      rcases h2 with ⟨xs, h3, h4⟩ | ⟨xs, h3, h4⟩ | ⟨xs, h3, h4⟩
      · cases h4
        obtain ⟨u, u1, u2⟩ := S.slot i _ h3
        rw [hv2'] at u1; cases u1
        exact u2
      · cases h4
        obtain ⟨u, u1, u2⟩ := S.slot i _ h3
        rw [hv2'] at u1; cases u1
        exact u2
      · cases h4
        obtain ⟨u, u1, u2⟩ := S.slot i _ h3
        rw [hv2'] at u1; cases u1
        exact u2
  · obtain ⟨i1, s1, z1, z2, z3, z4⟩ := hdAt j sj b e1 h1 q1
    obtain ⟨i2, s2, y1, y2, y3, y4⟩ := hdAt k sk b e2 h2 q2
    have := S.sep i1 i2 s1 s2 b z2 y2 z3 y3 z4 y4
    subst this
    exact ixs_inj nd z1 y1
  · obtain ⟨av, h1, h2⟩ := resolve_at e q
    cases av with
    | v d =>
      have h2' : some (Sl.own xs) = some (Sl.val d) := h2
      cases h2'
    | o i => rcases h2 with ⟨xs, h3, h4⟩ | ⟨xs, h3, h4⟩ | ⟨xs, h3, h4⟩ <;> cases h4
  · obtain ⟨j, hj⟩ := List.mem_iff_getElem?.mp ho
    obtain ⟨av, h1, h2⟩ := resolve_at e hj
    cases av with
    | v d =>
      have h2' : o = some (Sl.val d) := h2
      rw [h2']; simp
    | o i => rcases h2 with ⟨xs, h3, h4⟩ | ⟨xs, h3, h4⟩ | ⟨xs, h3, h4⟩ <;> (rw [h4]; simp)
  · obtain ⟨i, sl, h1, h2, h3, h4⟩ := hdAt j s b q hh es
    exact ⟨j, i, sl, h1, h2, h3, h4⟩
/-- behind the call -/
theorem Sim.back {c : Cf} (S : Sim K c) {as : List AV} {vs : List V} {a os : NSt} {H' : Hp} {F' : Fz} (nd : (ixs as).Nodup) (r : Paired (AVRep K c) as vs) (e : resolve c.n as = some a)
    (st : Step ⟨a, vs.map some, c.H, c.F⟩ ⟨os, vs.map some, H', F'⟩) (S' : Sim K ⟨os, vs.map some, H', F'⟩) :
    Step c ⟨back c.n as os, c.s, H', F'⟩ ∧ Sim K ⟨back c.n as os, c.s, H', F'⟩ ∧ ∀ b, (⟨back c.n as os, c.s, H', F'⟩ : Cf).Hd b → c.Hd b := by
  obtain ⟨SA, noown, _, hdA⟩ := S.args nd r e
  have hv : as.length = vs.length := Paired.length r
  have hdC : ∀ b, (⟨a, vs.map some, c.H, c.F⟩ : Cf).Hd b → c.Hd b := fun b h => let ⟨j, i, sl, h1, h2, h3, h4⟩ := hdA b h; ⟨i, sl, h2, h3, h4⟩
  have fr : ∀ b, c.F b → F' b ∧ H' b = c.H b := fun b f => ⟨st.fz b f, st.keep b (S.fz b f) fun z => S.nohd f (hdC b z)⟩
  have f' : ∀ b, F' b → c.F b ∨ c.H b = none := fun b f => by
    rcases st.fn b f with z | z | ⟨i, xs, z, _⟩
    · exact .inl z
    · exact .inr z
    · exact absurd z (noown i xs)
  -- the kind of a slot is kept
  have kind : ∀ (i : Nat) (sl : Sl), (NL.back c.n as os)[i]? = some (some sl) → ∃ sl0 : Sl, c.n[i]? = some (some sl0) ∧ (sl = sl0 ∨ ∃ ys, sl = sl0.put ys) := fun i sl q => by
    by_cases hi : i ∈ ixs as
    · obtain ⟨j, hj⟩ := mem_ixs hi
      have hn : i < c.n.length := by
        have := lt_of_get q
        rw [back_len] at this; exact this
      cases q0 : c.n[i]? with
      | none => rw [List.getElem?_eq_getElem hn] at q0; cases q0
      | some o =>
        cases o with
        | none =>
          -- an unset slot can't be an argument
          have : ∀ {as : List AV} {n a : NSt} {j : Nat}, resolve n as = some a → as[j]? = some (.o i) → n[i]? ≠ some none := fun {as n a j} h1 h2 h3 => by
            have hl := resolve_len h1
            have hja : j < a.length := by rw [hl]; exact lt_of_get h2
            obtain ⟨av, h4, h5⟩ := resolve_at h1 (List.getElem?_eq_getElem hja)
            rw [h2] at h4
            cases h4
            rcases h5 with ⟨xs, h6, _⟩ | ⟨xs, h6, _⟩ | ⟨xs, h6, _⟩ <;> (rw [h3] at h6; cases h6)
          exact absurd q0 (this e hj)
        | some sl0 =>
          obtain ⟨b1, b2⟩ := back_at (os := os) nd hj q0
          refine ⟨sl0, rfl, ?_⟩
          by_cases hy : ∃ ys, os[j]? = some (some (.lent ys))
          · obtain ⟨ys, hy⟩ := hy
            rw [b1 ys hy] at q
            cases q
            exact .inr ⟨ys, rfl⟩
          · rw [b2 fun ys z => hy ⟨ys, z⟩] at q
            cases q
            exact .inl rfl
    · rw [back_out hi] at q
      exact ⟨sl, q, .inl rfl⟩
  have putHeld : ∀ (sl0 sl : Sl), (sl = sl0 ∨ ∃ ys, sl = sl0.put ys) → sl.held = true → sl0.held = true := fun sl0 sl h hh => by
    rcases h with rfl | ⟨ys, rfl⟩
    · exact hh
    · cases sl0 <;> first | rfl | exact hh
  have hd' : ∀ b, (⟨NL.back c.n as os, c.s, H', F'⟩ : Cf).Hd b → c.Hd b := fun b ⟨i, sl, q, hh, es⟩ => by
    obtain ⟨sl0, q0, k⟩ := kind i sl q
    exact ⟨i, sl0, q0, putHeld sl0 sl k hh, es⟩
  refine ⟨⟨fun b n nh => st.keep b n fun z => nh (hdC b z), st.live, st.fz, fun b f => ?_, fun b h => .inl (hd' b h), fun b ⟨i, xs, q, es⟩ => ?_, fun i xs q => ?_, back_len⟩, ⟨by show (NL.back c.n as os).length = _; rw [back_len]; exact S.len, fun i sl q => ?_, fun i j si sj b e1 e2 h1 h2 q1 q2 => ?_, S'.fz⟩, hd'⟩
  · rcases f' b f with z | z
    · exact .inl z
    · exact .inr (.inl z)
  · obtain ⟨sl0, q0, k⟩ := kind i _ q
    rcases k with k | ⟨ys, k⟩
    · subst k
      exact .inl ⟨i, xs, q0, es⟩
    · cases sl0 with
      | own zs => exact .inl ⟨i, zs, q0, es⟩
      | lent zs => cases k
      | val zs => cases k
      | scr zs => cases k
  · show ∃ ys : List PyData, (NL.back c.n as os)[i]? = some (some (Sl.lent ys)) ∧ c.s[i]? = c.s[i]?
    by_cases hi : i ∈ ixs as
    · obtain ⟨j, hj⟩ := mem_ixs hi
      obtain ⟨b1, b2⟩ := back_at (os := os) nd hj q
      by_cases hy : ∃ ys, os[j]? = some (some (.lent ys))
      · obtain ⟨ys, hy⟩ := hy
        exact ⟨ys, b1 ys hy, rfl⟩
      · exact ⟨xs, b2 fun ys z => hy ⟨ys, z⟩, rfl⟩
    · exact ⟨xs, by rw [back_out hi]; exact q, rfl⟩
  · obtain ⟨sl0, q0, k⟩ := kind i sl q
    obtain ⟨v, e1, rv⟩ := S.slot i sl0 q0
    refine ⟨v, e1, ?_⟩
    -- an own list that was not lent
    have away : ∀ (b : Addr) (sl1 : Sl), c.n[i]? = some (some sl1) → sl1.held = true → c.s[i]? = some (some (.ref b)) → i ∉ ixs as → H' b = c.H b := fun b sl1 q1 hh es hi => by
      refine st.keep b (S.hdH ⟨i, sl1, q1, hh, es⟩) fun z => ?_
      obtain ⟨j, k, sl2, h1, h2, h3, h4⟩ := hdA b z
      have := S.sep i k sl1 sl2 b q1 h2 hh h3 es h4
      subst this
      exact hi (ixs_mem h1)
    cases sl0 with
    | val d =>
      have : sl = .val d := by rcases k with k | ⟨ys, k⟩ <;> exact k
      subst this
      exact Rep.keep fr d v rv
    | scr d =>
      have : sl = .scr d := by rcases k with k | ⟨ys, k⟩ <;> exact k
      subst this
      obtain ⟨b, ns, e2, e3, z⟩ := rv
      refine ⟨b, ns, e2, e3, ?_⟩
      rcases z with ⟨o, z⟩ | z
      · refine .inl ⟨o, (st.keep b (by show c.H b ≠ none; rw [z]; simp) fun hh => ?_).trans z⟩
        obtain ⟨k1, t, q1, q2, q3⟩ := hdC b hh
        obtain ⟨u, q4, q5⟩ := S.slot k1 t q1
        rw [q3] at q4
        cases q4
        cases t with
        | val d => cases q2
        | scr d => cases q2
        | own d =>
          obtain ⟨b', ws, y1, _, y2, _⟩ := q5
          cases y1
          have z2 := z.symm.trans y2
          cases z2
        | lent d =>
          obtain ⟨b', ws, y1, _, y2, _⟩ := q5
          cases y1
          have z2 := z.symm.trans y2
          cases z2
      · exact .inr z
    | own xs =>
      obtain ⟨b, ws, rfl, nf, hH, rr⟩ := rv
      by_cases hi : i ∈ ixs as
      · obtain ⟨j, hj⟩ := mem_ixs hi
        obtain ⟨b1, b2⟩ := back_at (os := os) nd hj q0
        have haj : a[j]? = some (some (.lent xs)) := by
          have hja : j < a.length := by rw [resolve_len e]; exact lt_of_get hj
          obtain ⟨av, h4, h5⟩ := resolve_at e (List.getElem?_eq_getElem hja)
          rw [hj] at h4
          cases h4
          rcases h5 with ⟨zs, h6, h7⟩ | ⟨zs, h6, h7⟩ | ⟨zs, h6, h7⟩
          · rw [q0] at h6; cases h6
            rw [List.getElem?_eq_getElem hja, h7]
          · rw [q0] at h6; cases h6
          · rw [q0] at h6; cases h6
        obtain ⟨ys, o1, o2⟩ := st.mu j xs haj
        have o1' : os[j]? = some (some (.lent ys)) := o1
        have q' := q
        rw [b1 ys o1'] at q'
        cases q'
        obtain ⟨u, u1, u2⟩ := S'.slot j _ o1'
        have vj : vs[j]? = some (.ref b) := by
          have hjv : j < vs.length := by rw [← hv]; exact lt_of_get hj
          have := paired_at r hj (List.getElem?_eq_getElem hjv)
          have e1' : c.s[i]? = some (some vs[j]) := this
          have z := Option.some.inj (Option.some.inj (e1.symm.trans e1'))
          rw [List.getElem?_eq_getElem hjv, ← z]
        have u1' : (vs.map some)[j]? = some (some u) := u1
        rw [List.getElem?_map, vj] at u1'
        cases u1'
        exact u2
      · have q' := q
        rw [back_out hi, q0] at q'
        cases q'
        refine ⟨b, ws, rfl, fun z => ?_, (away b _ q0 rfl e1 hi).trans hH, Reps.keep fr _ _ rr⟩
        rcases f' b z with y | y
        · exact nf y
        · rw [hH] at y; cases y
    | lent xs =>
      obtain ⟨b, ws, rfl, nf, hH, rr⟩ := rv
      by_cases hi : i ∈ ixs as
      · obtain ⟨j, hj⟩ := mem_ixs hi
        obtain ⟨b1, b2⟩ := back_at (os := os) nd hj q0
        have haj : a[j]? = some (some (.lent xs)) := by
          have hja : j < a.length := by rw [resolve_len e]; exact lt_of_get hj
          obtain ⟨av, h4, h5⟩ := resolve_at e (List.getElem?_eq_getElem hja)
          rw [hj] at h4
          cases h4
          rcases h5 with ⟨zs, h6, h7⟩ | ⟨zs, h6, h7⟩ | ⟨zs, h6, h7⟩
          · rw [q0] at h6; cases h6
          · rw [q0] at h6; cases h6
            rw [List.getElem?_eq_getElem hja, h7]
          · rw [q0] at h6; cases h6
        obtain ⟨ys, o1, o2⟩ := st.mu j xs haj
        have o1' : os[j]? = some (some (.lent ys)) := o1
        have q' := q
        rw [b1 ys o1'] at q'
        cases q'
        obtain ⟨u, u1, u2⟩ := S'.slot j _ o1'
        have vj : vs[j]? = some (.ref b) := by
          have hjv : j < vs.length := by rw [← hv]; exact lt_of_get hj
          have := paired_at r hj (List.getElem?_eq_getElem hjv)
          have e1' : c.s[i]? = some (some vs[j]) := this
          have z := Option.some.inj (Option.some.inj (e1.symm.trans e1'))
          rw [List.getElem?_eq_getElem hjv, ← z]
        have u1' : (vs.map some)[j]? = some (some u) := u1
        rw [List.getElem?_map, vj] at u1'
        cases u1'
        exact u2
      · have q' := q
        rw [back_out hi, q0] at q'
        cases q'
        refine ⟨b, ws, rfl, fun z => ?_, (away b _ q0 rfl e1 hi).trans hH, Reps.keep fr _ _ rr⟩
        rcases f' b z with y | y
        · exact nf y
        · rw [hH] at y; cases y
  · obtain ⟨t1, z1, k1⟩ := kind i si e1
    obtain ⟨t2, z2, k2⟩ := kind j sj e2
    exact S.sep i j t1 t2 b z1 z2 (putHeld _ _ k1 h1) (putHeld _ _ k2 h2) q1 q2
end
section
variable {X : Cx} {W : WX}
/-- f(..), an own def -/
theorem ne_call {k n : Nat} {x : Str} {g : NExp} {e : Expr} {es : List Expr} {fs : NSt → R (List AV)} {p pos : Pos} (F : NFn X.prog X.w X.K X.mg X.base k x n g) (hr : Room k X.A) (tk : Takes X W) (ha : NA X W (e :: es) fs) (hn : (e :: es).length = n) (hg : Gl X x := by rfl)
    (hl : ∀ (m : NSt) (as : List AV) (m' : NSt), fs m = .ok as m' → as.length = n)
    (hdb : (x == ("__debug__" : Str)) = false := by decide) (he : starEach (e :: es) X.env = (false, eval e X.env) :: starEach es X.env := by rfl) (hpl : (backTo pos (starEach es X.env)).any (·.1) = false := by rfl) :
    NE X W (.Call (.Name x p) (e :: es) [] pos) (nCall g fs) := by
  obtain ⟨f, fd, ps, G, hm, hk, hb⟩ := F.ex
  obtain ⟨t, pa, s⟩ := ha.ex
  refine ⟨_, pe_callS G hr hg hm hk hb (passAt tk) pa hdb he hpl, fun c Q S h => ?_⟩
  refine s c _ S (Pst.seq (rel := relA X.K) (rel' := relE X.K) mono_E h fun as n1 vs H1 F1 eok st1 S1 r1 h1 => ?_)
  split at h1
  · rename_i nd
    cases er : resolve n1 as with
    | none => rw [er] at h1; exact h1.elim
    | some a =>
      rw [er] at h1
      obtain ⟨SA, no, nn, _⟩ := Sim.args (c := ⟨n1, c.s, H1, F1⟩) S1 nd r1 er
      refine ⟨a, F1, by rw [resolve_len er]; exact hl _ _ _ eok, no, nn, SA, ?_⟩
      dsimp only at h1
      cases eg : g a with
      | ok d os =>
        rw [eg] at h1
        intro v H' F' st S' rv
        obtain ⟨st2, S2, _⟩ := Sim.back (c := ⟨n1, c.s, H1, F1⟩) S1 nd r1 er st S'
        exact h1 v H' F' st2 S2 rv
      | err x os =>
        rw [eg] at h1
        intro cls d H' F' st S' rv
        obtain ⟨st2, S2, _⟩ := Sim.back (c := ⟨n1, c.s, H1, F1⟩) S1 nd r1 er st S'
        exact h1 cls d H' F' st2 S2 rv
      | bad => rw [eg] at h1; exact h1.elim
  · exact h1.elim
end
end NL
end L2
/-! NL6: what is walked; list comprehensions. -/
namespace L2
namespace NL
open PySem PySem.Spec PyProof.Rows

/-! ### readings by the plain result -/
def cE (K : PySem.W.Frag) (mg : Str → Option Value) (W : WX) (f : NExp) : TE := fun σ H Q => ∃ c : Cf, c.s = σ ∧ c.H = H ∧ Sim K c ∧ Pst K mg W (relE K) c Q (f c.n)
def cT (K : PySem.W.Frag) (mg : Str → Option Value) (W : WX) (f : NSt → R Bool) : TT := fun σ H Q => ∃ c : Cf, c.s = σ ∧ c.H = H ∧ Sim K c ∧ Pst K mg W relT c Q (f c.n)
def cG (K : PySem.W.Frag) (vs : List Nat) (g : PyData → NSt → Option NSt) : TG := fun v σ H Q => ∃ (c : Cf) (d : PyData) (n' : NSt), c.s = σ ∧ c.H = H ∧ Sim K c ∧ Rep K c.H c.F d v ∧ g d c.n = some n' ∧
  ∀ σ', Step c ⟨n', σ', c.H, c.F⟩ → Sim K ⟨n', σ', c.H, c.F⟩ → (∀ j, j ∉ vs → σ'[j]? = c.s[j]? ∧ n'[j]? = c.n[j]?) → σ'.length = c.s.length → Q σ' c.H
theorem NE.canon {X : Cx} {W : WX} {e : Expr} {f : NExp} (h : NE X W e f) : PE X e (cE X.K X.mg W f) := by
  obtain ⟨t, p, s⟩ := h.ex
  exact ⟨fun pins s0 σ H Q I ⟨c, e1, e2, S, q⟩ => by subst e1 e2; exact p.run pins s0 c.s c.H Q I (s c Q S q)⟩
theorem NT.canon {X : Cx} {W : WX} {e : Expr} {f : NSt → R Bool} (h : NT X W e f) : PT X e (cT X.K X.mg W f) := by
  obtain ⟨t, p, s⟩ := h.ex
  exact ⟨fun pins s0 σ H Q I ⟨c, e1, e2, S, q⟩ => by subst e1 e2; exact p.run pins s0 c.s c.H Q I (s c Q S q)⟩
theorem NG.canon {X : Cx} {tg : Expr} {vs : List Nat} {g : PyData → NSt → Option NSt} (h : NG X tg vs g) : PG X tg (cG X.K vs g) := by
  obtain ⟨t, p, s⟩ := h.ex
  exact ⟨fun pins s0 σ H v u Q I r ⟨c, d, n', e1, e2, S, rr, eg, q⟩ => by subst e1 e2; exact p.run pins s0 c.s c.H v u Q I r (s c d v n' Q S rr eg q)⟩
abbrev W0 : WX := fun _ _ _ _ => False

/-! ### wiped slots -/
def wipeN (n : NSt) : List Nat → NSt
  | [] => n
  | v :: vs => (wipeN n vs).set v none
def restoreN (n n1 : NSt) : List Nat → NSt
  | [] => n
  | v :: vs => (restoreN n n1 vs).set v (n1[v]?.getD none)
theorem wipeN_len {n : NSt} : ∀ {vs : List Nat}, (wipeN n vs).length = n.length
  | [] => rfl
  | v :: vs => by unfold wipeN; rw [List.length_set, wipeN_len]
theorem restoreN_len {n n1 : NSt} : ∀ {vs : List Nat}, (restoreN n n1 vs).length = n.length
  | [] => rfl
  | v :: vs => by unfold restoreN; rw [List.length_set, restoreN_len]
theorem wipeN_out {n : NSt} {j : Nat} : ∀ {vs : List Nat}, j ∉ vs → (wipeN n vs)[j]? = n[j]?
  | [], _ => rfl
  | v :: vs, h => by
    unfold wipeN
    rw [List.getElem?_set_ne (fun z => h (by simp [z])), wipeN_out fun z => h (by simp [z])]
theorem restoreN_out {n n1 : NSt} {j : Nat} : ∀ {vs : List Nat}, j ∉ vs → (restoreN n n1 vs)[j]? = n[j]?
  | [], _ => rfl
  | v :: vs, h => by
    unfold restoreN
    rw [List.getElem?_set_ne (fun z => h (by simp [z])), restoreN_out fun z => h (by simp [z])]
theorem wipeN_in {n : NSt} {j : Nat} {sl : Sl} : ∀ {vs : List Nat}, j ∈ vs → (wipeN n vs)[j]? ≠ some (some sl)
  | [], h => by simp at h
  | v :: vs, h => by
    unfold wipeN
    by_cases e : v = j
    · subst e
      by_cases hl : v < (wipeN n vs).length
      · rw [List.getElem?_set_self hl]; simp
      · rw [List.getElem?_eq_none (by simpa using hl)]; simp
    · rw [List.getElem?_set_ne e]
      exact wipeN_in (by simpa [Ne.symm e] using h)
theorem restoreN_in {n n1 : NSt} {j : Nat} (hl : n.length = n1.length) : ∀ {vs : List Nat}, j ∈ vs → (restoreN n n1 vs)[j]? = n1[j]?
  | [], h => by simp at h
  | v :: vs, h => by
    unfold restoreN
    by_cases e : v = j
    · subst e
      by_cases hv : v < n1.length
      · rw [List.getElem?_set_self (by rw [restoreN_len]; omega), List.getElem?_eq_getElem hv]; rfl
      · rw [List.getElem?_eq_none (by rw [List.length_set, restoreN_len]; omega), List.getElem?_eq_none (by omega)]
    · rw [List.getElem?_set_ne e]
      exact restoreN_in hl (by simpa [Ne.symm e] using h)
theorem wipe_out' {σ : L2.St} {j : Nat} : ∀ {vs : List Nat}, j ∉ vs → (wipe σ vs)[j]? = σ[j]?
  | [], _ => rfl
  | v :: vs, h => by
    unfold wipe
    rw [List.getElem?_set_ne (fun z => h (by simp [z])), wipe_out' fun z => h (by simp [z])]
theorem wipe_in {σ : L2.St} {j : Nat} : ∀ {vs : List Nat}, j ∈ vs → (wipe σ vs)[j]? = if j < σ.length then some none else none
  | [], h => by simp at h
  | v :: vs, h => by
    unfold wipe
    by_cases e : v = j
    · subst e
      by_cases hl : v < σ.length
      · rw [List.getElem?_set_self (by rw [wipe_length]; exact hl), if_pos hl]
      · rw [List.getElem?_eq_none (by rw [List.length_set, wipe_length]; omega), if_neg hl]
    · rw [List.getElem?_set_ne e]
      exact wipe_in (by simpa [Ne.symm e] using h)
theorem wipe_eq {σ τ : L2.St} {vs : List Nat} (hl : τ.length = σ.length) (h : ∀ j, j ∉ vs → τ[j]? = (wipe σ vs)[j]?) : wipe τ vs = wipe σ vs := by
  apply List.ext_getElem?
  intro j
  by_cases hj : j ∈ vs
  · rw [wipe_in hj, wipe_in hj, hl]
  · rw [wipe_out' hj]; exact h j hj
def noHeld (n : NSt) (vs : List Nat) : Bool := vs.all fun v => match n[v]? with
  | some (some sl) => !sl.held
  | _ => true
theorem noHeld_ok {n : NSt} {vs : List Nat} (h : noHeld n vs = true) {v : Nat} (hv : v ∈ vs) {sl : Sl} (e : n[v]? = some (some sl)) : sl.held = false := by
  have := List.all_eq_true.mp h v hv
  rw [e] at this
  simpa using this

/-! ### the comprehension -/
def nLcL (g : PyData → NSt → Option NSt) (t : NSt → R Bool) (f : NExp) (vs : List Nat) : List PyData → List PyData → NSt → R (List PyData)
  | [], acc, n => .ok acc n
  | d :: ds, acc, n => match g d n with
    | none => .bad
    | some n1 => (t n1).bind fun b n2 => if b = true then (f n2).bind fun y n3 => if acc.length < sizeLine then nLcL g t f vs ds (acc ++ [y]) (wipeN n3 vs) else .bad
      else nLcL g t f vs ds acc (wipeN n2 vs)
def nLc (fi : NSt → R (List PyData)) (g : PyData → NSt → Option NSt) (t : NSt → R Bool) (f : NExp) (vs : List Nat) : NSt → R (List PyData) := fun n => (fi n).bind fun ds n1 => if noHeld n1 vs = true then (match nLcL g t f vs ds [] (wipeN n1 vs) with
  | .ok acc n2 => .ok acc (restoreN n2 n1 vs)
  | _ => .bad) else .bad
section
variable {K : PySem.W.Frag}
/-- a list that stands apart: D, in none of the slots -/
structure Apart (K : PySem.W.Frag) (c : Cf) (D : Addr) (acc : List PyData) : Prop where
  ex : ∃ ws, c.H D = some (.lst ws) ∧ Reps K c.H c.F acc ws
  nf : ¬ c.F D
  nh : ¬ c.Hd D
theorem Apart.step {c c' : Cf} {D : Addr} {acc : List PyData} (a : Apart K c D acc) (S : Sim K c) (st : Step c c') : Apart K c' D acc := by
  obtain ⟨ws, h, r⟩ := a.ex
  have hn : c.H D ≠ none := by rw [h]; simp
  refine ⟨⟨ws, (st.keep D hn a.nh).trans h, st.reps S r⟩, fun f => ?_, fun hd => ?_⟩
  · rcases st.fn D f with z | z | z
    · exact a.nf z
    · exact hn z
    · exact a.nh z.hd
  · rcases st.hd D hd with z | z
    · exact a.nh z
    · exact hn z
/-- D is written, slots are wiped -/
theorem Sim.wipeD {c1 c4 : Cf} {vs : List Nat} {D : Addr} {acc acc' : List PyData} {us : List V} (nv : ∀ v ∈ vs, ∀ sl : Sl, c1.n[v]? = some (some sl) → sl.held = false) (st : Step c1 c4) (S : Sim K c4) (hD : c1.H D = none) (nfD : ¬ c4.F D) (nhD : ¬ c4.Hd D) (hDl : ∀ o u, c4.H D ≠ some (.frz o u)) (sl : wipe c4.s vs = wipe c1.s vs)
    (r : Reps K c4.H c4.F acc' us) :
    let c5 : Cf := ⟨wipeN c4.n vs, wipe c1.s vs, upd c4.H D (.lst us), c4.F⟩; Step c1 c5 ∧ Sim K c5 ∧ Apart K c5 D acc' := by
  intro c5
  have fr : ∀ a, c4.F a → c4.F a ∧ upd c4.H D (.lst us) a = c4.H a := fun a f => ⟨f, upd_ne fun z => by subst z; exact nfD f⟩
  have old : ∀ (j : Nat) (s : Sl), (wipeN c4.n vs)[j]? = some (some s) → j ∉ vs ∧ c4.n[j]? = some (some s) := fun j s e => by
    by_cases hj : j ∈ vs
    · exact absurd e (wipeN_in hj)
    · rw [wipeN_out hj] at e; exact ⟨hj, e⟩
  have oldS : ∀ {j : Nat}, j ∉ vs → (wipe c1.s vs)[j]? = c4.s[j]? := fun {j} hj => by rw [← sl, wipe_out' hj]
  have hd5 : ∀ a, c5.Hd a → c4.Hd a := fun a ⟨j, s, e, hh, es⟩ => by
    obtain ⟨hj, e1⟩ := old j s e
    exact ⟨j, s, e1, hh, by rw [← oldS hj]; exact es⟩
  have hlen : c4.s.length = c1.s.length := by
    have h1 := wipe_length c4.s vs
    have h2 := wipe_length c1.s vs
    rw [sl] at h1
    omega
  refine ⟨⟨fun a n nh => ?_, fun a n => ?_, st.fz, st.fn, fun a h => st.hd a (hd5 a h), fun a ⟨j, xs, e, es⟩ => ?_, fun i xs e => ?_, by show (wipeN c4.n vs).length = _; rw [wipeN_len]; exact st.ln⟩, ⟨?_, fun j s e => ?_, fun i j si sj b e1 e2 h1 h2 q1 q2 => ?_, fun a f => ?_⟩, ⟨⟨us, upd_same, Reps.keep fr _ _ r⟩, nfD, fun h => nhD (hd5 D h)⟩⟩
  · have : a ≠ D := fun z => by subst z; exact n hD
    show upd c4.H D (.lst us) a = _
    rw [upd_ne this]; exact st.keep a n nh
  · have : a ≠ D := fun z => by subst z; exact n hD
    show upd c4.H D (.lst us) a ≠ none
    rw [upd_ne this]; exact st.live a n
  · obtain ⟨hj, e1⟩ := old j _ e
    exact st.ow a ⟨j, xs, e1, by rw [← oldS hj]; exact es⟩
  · obtain ⟨ys, e1, e2⟩ := st.mu i xs e
    have hi : i ∉ vs := fun z => by have := nv i z _ e; cases this
    exact ⟨ys, by show (wipeN c4.n vs)[i]? = _; rw [wipeN_out hi]; exact e1, by show (wipe c1.s vs)[i]? = _; rw [wipe_out' hi]⟩
  · show (wipeN c4.n vs).length = (wipe c1.s vs).length
    rw [wipeN_len, wipe_length, ← hlen]; exact S.len
  · obtain ⟨hj, e1⟩ := old j s e
    obtain ⟨v, e2, q⟩ := S.slot j s e1
    refine ⟨v, by show (wipe c1.s vs)[j]? = _; rw [oldS hj]; exact e2, ?_⟩
    have away : ∀ b, s.held = true → v = .ref b → b ≠ D := fun b hh z y => by
      subst z; subst y
      exact nhD ⟨j, s, e1, hh, e2⟩
    cases s with
    | val d => exact Rep.keep fr d v q
    | own xs =>
      obtain ⟨b, ws, rfl, nb, hb, rb⟩ := q
      exact ⟨b, ws, rfl, nb, (upd_ne (away b rfl rfl)).trans hb, Reps.keep fr _ _ rb⟩
    | lent xs =>
      obtain ⟨b, ws, rfl, nb, hb, rb⟩ := q
      exact ⟨b, ws, rfl, nb, (upd_ne (away b rfl rfl)).trans hb, Reps.keep fr _ _ rb⟩
    | scr xs =>
      obtain ⟨b, ns, rfl, e3, z⟩ := q
      refine ⟨b, ns, rfl, e3, ?_⟩
      rcases z with ⟨o, z⟩ | z
      · refine .inl ⟨o, (upd_ne fun y => ?_).trans z⟩
        subst y
        exact hDl _ _ z
      · exact .inr z
  · obtain ⟨hi, e1⟩ := old i si e1
    obtain ⟨hj, e2⟩ := old j sj e2
    exact S.sep i j si sj b e1 e2 h1 h2 (by rw [← oldS hi]; exact q1) (by rw [← oldS hj]; exact q2)
  · show upd c4.H D (.lst us) a ≠ none
    rw [(fr a f).2]; exact S.fz a f
/-- the slots as they were -/
theorem Sim.restoreD {c c1 cc : Cf} {vs : List Nat} {D : Addr} {acc : List PyData} (nv : ∀ v ∈ vs, ∀ sl : Sl, c1.n[v]? = some (some sl) → sl.held = false) (st0 : Step c c1) (S1 : Sim K c1) (st : Step c1 cc) (S : Sim K cc) (hs : c1.s = c.s) (hs2 : cc.s = wipe c1.s vs) (hD : c1.H D = none) (ap : Apart K cc D acc) :
    let c6 : Cf := ⟨restoreN cc.n c1.n vs, c.s, cc.H, cc.F⟩; Step c c6 ∧ Sim K c6 ∧ relO K c c6 acc (.ref D) := by
  intro c6
  have hl : cc.n.length = c1.n.length := st.ln
  have old : ∀ (j : Nat) (s : Sl), (restoreN cc.n c1.n vs)[j]? = some (some s) → (j ∈ vs ∧ c1.n[j]? = some (some s) ∧ s.held = false) ∨ (j ∉ vs ∧ cc.n[j]? = some (some s)) := fun j s e => by
    by_cases hj : j ∈ vs
    · rw [restoreN_in hl hj] at e
      exact .inl ⟨hj, e, nv j hj s e⟩
    · rw [restoreN_out hj] at e; exact .inr ⟨hj, e⟩
  have oldS : ∀ {j : Nat}, j ∉ vs → c.s[j]? = cc.s[j]? := fun {j} hj => by rw [hs2, wipe_out' hj, hs]
  have hd6 : ∀ a, c6.Hd a → cc.Hd a := fun a ⟨j, s, e, hh, es⟩ => by
    rcases old j s e with ⟨_, _, z⟩ | ⟨hj, e1⟩
    · rw [z] at hh; cases hh
    · exact ⟨j, s, e1, hh, by rw [← oldS hj]; exact es⟩
  have st2 := st0.trans st
  have cD : c.H D = none := Classical.byContradiction fun z => st0.live D z hD
  refine ⟨⟨st2.keep, st2.live, st2.fz, st2.fn, fun a h => st2.hd a (hd6 a h), fun a ⟨j, xs, e, es⟩ => ?_, fun i xs e => ?_, by show (restoreN cc.n c1.n vs).length = _; rw [restoreN_len]; exact st2.ln⟩, ⟨?_, fun j s e => ?_, fun i j si sj b e1 e2 h1 h2 q1 q2 => ?_, S.fz⟩, ?_⟩
  · rcases old j _ e with ⟨_, _, z⟩ | ⟨hj, e1⟩
    · cases z
    · exact st2.ow a ⟨j, xs, e1, by rw [← oldS hj]; exact es⟩
  · obtain ⟨ys, e1, e2⟩ := st0.mu i xs e
    have hi : i ∉ vs := fun z => by have := nv i z _ e1; cases this
    obtain ⟨zs, e3, e4⟩ := st.mu i ys e1
    exact ⟨zs, by show (restoreN cc.n c1.n vs)[i]? = _; rw [restoreN_out hi]; exact e3, rfl⟩
  · show (restoreN cc.n c1.n vs).length = c.s.length
    rw [restoreN_len, hl, ← hs]; exact S1.len
  · rcases old j s e with ⟨hj, e1, z⟩ | ⟨hj, e1⟩
    · obtain ⟨v, e2, q⟩ := S1.slot j s e1
      refine ⟨v, by rw [← hs]; exact e2, ?_⟩
      cases s with
      | val d => exact st.rep S1 q
      | own d => cases z
      | lent d => cases z
      | scr d =>
        obtain ⟨b, ns, rfl, e3, y⟩ := q
        refine ⟨b, ns, rfl, e3, ?_⟩
        rcases y with ⟨o, y⟩ | y
        · refine .inl ⟨o, (st.keep b (by rw [y]; simp) fun hh => ?_).trans y⟩
          obtain ⟨k1, t, q1, q2, q3⟩ := hh
          obtain ⟨u, q4, q5⟩ := S1.slot k1 t q1
          rw [q3] at q4
          cases q4
          cases t with
          | val d => cases q2
          | scr d => cases q2
          | own d =>
            obtain ⟨b', ws, y1, _, y2, _⟩ := q5
            cases y1
            have z2 := y.symm.trans y2
            cases z2
          | lent d =>
            obtain ⟨b', ws, y1, _, y2, _⟩ := q5
            cases y1
            have z2 := y.symm.trans y2
            cases z2
        · exact .inr y
    · obtain ⟨v, e2, q⟩ := S.slot j s e1
      exact ⟨v, by show c.s[j]? = _; rw [oldS hj]; exact e2, q⟩
  · rcases old i si e1 with ⟨_, _, z⟩ | ⟨hi, e1⟩
    · rw [z] at h1; cases h1
    · rcases old j sj e2 with ⟨_, _, z⟩ | ⟨hj, e2⟩
      · rw [z] at h2; cases h2
      · exact S.sep i j si sj b e1 e2 h1 h2 (by rw [← oldS hi]; exact q1) (by rw [← oldS hj]; exact q2)
  · obtain ⟨ws, h, r⟩ := ap.ex
    exact ⟨D, ws, rfl, cD, ap.nf, h, fun hd => ap.nh (hd6 D hd), r⟩
end
section
variable {X : Cx} {W : WX}
theorem lc_st {own : List (Str × Nat)} {wi : TI} {fi : NSt → R (List PyData)} {gg : PyData → NSt → Option NSt} {t : NSt → R Bool} {f : NExp}
    (si : ∀ (c : Cf) (Q : It → Hp → Prop), Sim X.K c → Pst X.K X.mg W (fun _ c1 ds J => Gives X.K J ds c1) c Q (fi c.n) → wi c.s c.H Q)
    {c : Cf} {Q : VK} (S : Sim X.K c) (h : Pst X.K X.mg W (relO X.K) c Q (nLc fi gg t f (own.map (·.2)) c.n)) :
    tLc wi (cG X.K (own.map (·.2)) gg) (cT X.K X.mg W0 t) (cE X.K X.mg W0 f) (own.map (·.2)) c.s c.H Q := by
  generalize hvs : own.map (·.2) = vs at h ⊢
  refine si c _ S (Pst.seq (rel := fun _ c1 ds J => Gives X.K J ds c1) (rel' := relO X.K) mono_O h fun ds n1 J H1 F1 _ st1 S1 gv h1 => ?_)
  intro D hD
  split at h1
  · rename_i hnh
    have nv : ∀ v ∈ vs, ∀ sl : Sl, n1[v]? = some (some sl) → sl.held = false := fun v hv sl e => noHeld_ok hnh hv e
    cases el : nLcL gg t f vs ds [] (wipeN n1 vs) with
    | ok accF nF =>
      rw [el] at h1
      let c1 : Cf := ⟨n1, c.s, H1, F1⟩
      have S1' : Sim X.K c1 := S1
      have start := Sim.wipeD (K := X.K) (c1 := c1) (c4 := c1) (vs := vs) (D := D) (acc := []) (acc' := []) (us := []) nv (Step.refl _) S1' hD (fun f => S1'.fz D f hD) (fun hd => S1'.hdH hd hD) (fun o u z => by have z' : H1 D = _ := z; rw [hD] at z'; cases z') rfl Reps.nil
      refine ⟨fun i m H => ∃ (cc : Cf) (acc : List PyData), cc.s = wipe c.s vs ∧ cc.H = H ∧ i ≤ ds.length ∧ m = ds.length - i ∧ Step c1 cc ∧ Sim X.K cc ∧ Apart X.K cc D acc ∧ nLcL gg t f vs (ds.drop i) acc cc.n = .ok accF nF, ⟨ds.length, _, [], rfl, rfl, Nat.zero_le _, rfl, start.1, start.2.1, start.2.2, el⟩, ?_⟩
      rintro i m H ⟨cc, acc, hcs, rfl, hi, rfl, stc, Sc, ap, er⟩
      obtain ⟨gi, gs⟩ := gv cc stc Sc i hi
      by_cases hlt : i < ds.length
      · have ed : ds[i]? = some ds[i] := List.getElem?_eq_getElem hlt
        obtain ⟨go, gy⟩ := gi _ ed
        have edr : ds.drop i = ds[i] :: ds.drop (i + 1) := List.drop_eq_getElem_cons hlt
        rw [edr] at er
        unfold nLcL at er
        refine .inr ⟨go, fun H' => ∃ (cc' : Cf) (acc' : List PyData), cc'.s = wipe c.s vs ∧ cc'.H = H' ∧ Step c1 cc' ∧ Sim X.K cc' ∧ Apart X.K cc' D acc' ∧ nLcL gg t f vs (ds.drop (i + 1)) acc' cc'.n = .ok accF nF,
          fun H' ⟨cc', acc', z1, z2, z3, z4, z5, z6⟩ => ⟨ds.length - (i + 1), by omega, cc', acc', z1, z2, hlt, rfl, z3, z4, z5, z6⟩, fun x H' y => ?_⟩
        obtain ⟨F', st3, S3, r3⟩ := gy x H' y
        cases eg : gg ds[i] cc.n with
        | none => rw [eg] at er; cases er
        | some n3 =>
          rw [eg] at er
          dsimp only at er
          refine ⟨⟨cc.n, cc.s, H', F'⟩, ds[i], n3, hcs, rfl, S3, r3, eg, fun σ4 st4 S4 kk ll => ?_⟩
          have st34 : Step cc ⟨n3, σ4, H', F'⟩ := st3.trans st4
          have w4 : wipe σ4 vs = wipe c.s vs := wipe_eq (by have l1 : σ4.length = cc.s.length := ll; rw [l1, hcs, wipe_length]) fun j hj => by
            have := (kk j hj).1
            have this' : σ4[j]? = cc.s[j]? := this
            rw [this', hcs]
          refine ⟨w4, ⟨n3, σ4, H', F'⟩, rfl, rfl, S4, ?_⟩
          cases et : t n3 with
          | bad => rw [et] at er; cases er
          | err x n5 => rw [et] at er; cases er
          | ok b n5 =>
            rw [et] at er
            intro b' H5 F5 st5 S5 rb
            cases rb
            have st35 : Step cc ⟨n5, σ4, H5, F5⟩ := st34.trans st5
            have er' : (if b = true then (f n5).bind fun y n3 => if acc.length < sizeLine then nLcL gg t f vs (ds.drop (i + 1)) (acc ++ [y]) (wipeN n3 vs) else .bad
              else nLcL gg t f vs (ds.drop (i + 1)) acc (wipeN n5 vs)) = .ok accF nF := er
            cases b with
            | false =>
              refine iteF ?_
              have a5 := ap.step Sc st35
              obtain ⟨ws, hw, rw5⟩ := a5.ex
              have fin := Sim.wipeD (K := X.K) (c1 := c1) (c4 := ⟨n5, σ4, H5, F5⟩) (vs := vs) (D := D) (acc := acc) (acc' := acc) (us := ws) nv (stc.trans st35) S5 hD a5.nf a5.nh (fun o u z => by have z' := hw.symm.trans z; cases z') w4 rw5
              have eH : upd H5 D (.lst ws) = H5 := by
                funext b
                by_cases hb : b = D
                · subst hb; rw [upd_same]; exact hw.symm
                · rw [upd_ne hb]
              refine ⟨_, acc, rfl, ?_, fin.1, fin.2.1, fin.2.2, er'⟩
              exact eH
            | true =>
              refine iteT ?_
              refine ⟨⟨n5, σ4, H5, F5⟩, rfl, rfl, S5, ?_⟩
              cases ef : f n5 with
              | bad => simp only [if_true] at er'; rw [ef] at er'; cases er'
              | err x n6 => simp only [if_true] at er'; rw [ef] at er'; cases er'
              | ok y' n6 =>
                simp only [if_true] at er'
                rw [ef] at er'
                intro v6 H6 F6 st6 S6 r6
                have er2 : (if acc.length < sizeLine then nLcL gg t f vs (ds.drop (i + 1)) (acc ++ [y']) (wipeN n6 vs) else R.bad) = .ok accF nF := er'
                split at er2
                · rename_i hz
                  have st36 : Step cc ⟨n6, σ4, H6, F6⟩ := st35.trans st6
                  have a6 := ap.step Sc st36
                  obtain ⟨ws, hw, rw6⟩ := a6.ex
                  refine ⟨ws, hw, by rw [rw6.length]; exact hz, ?_⟩
                  have fin := Sim.wipeD (K := X.K) (c1 := c1) (c4 := ⟨n6, σ4, H6, F6⟩) (vs := vs) (D := D) (acc := acc) (acc' := acc ++ [y']) (us := ws ++ [v6]) nv (stc.trans st36) S6 hD a6.nf a6.nh (fun o u z => by have z' := hw.symm.trans z; cases z') w4 (rw6.append (Reps.cons r6 Reps.nil))
                  exact ⟨_, acc ++ [y'], rfl, rfl, fin.1, fin.2.1, fin.2.2, er2⟩
                · cases er2
      · have e : i = ds.length := by omega
        subst e
        refine .inl ⟨gs rfl, ?_⟩
        rw [List.drop_length] at er
        unfold nLcL at er
        cases er
        have fin := Sim.restoreD (K := X.K) (c := ⟨n1, c.s, H1, F1⟩) (c1 := c1) (cc := cc) nv (Step.refl _) S1' stc Sc rfl hcs hD ap
        exact h1 (.ref D) cc.H cc.F fin.1 fin.2.1 fin.2.2
    | err x n => rw [el] at h1; exact h1.elim
    | bad => rw [el] at h1; exact h1.elim
  · exact h1.elim
abbrev BX (X : Cx) (s : Shared) (H : Hp) (scope : Scope) (C : Addr) (cl : List (Str × Addr)) (fp : List Addr) : Cx := X.blk s H scope (compEnvC scope cl C X.env) fp
def tYesN : NSt → R Bool := fun n => .ok true n
theorem neo_lc {elt tg iter : Expr} {ifs : List Expr} {scope : Scope} {own : List (Str × Nat)} {pos : Pos} {fi : NSt → R (List PyData)} {gg : PyData → NSt → Option NSt} {t : NSt → R Bool} {f : NExp} (hc : X.calm = true) (hN : X.N.Nodup) (hi : NI X W tg iter fi) (ok : BlkOk X.N X.env.scope scope own)
    (hg : ∀ s H C cl fp, NG (BX X s H scope C cl fp) tg (own.map (·.2)) gg) (ht : ∀ s H C cl fp, PTs (BX X s H scope C cl fp) ifs (cT X.K X.mg W0 t)) (he : ∀ s H C cl fp, NE (BX X s H scope C cl fp) W0 elt f)
    (hs : ∀ x, foldedSetIterable iter X.env x = pure x := by intro _; rfl) : NEo X W (.ListComp elt [⟨tg, iter, ifs, 0⟩] scope pos) (nLc fi gg t f (own.map (·.2))) := by
  obtain ⟨wi, pi, si⟩ := hi.ex
  exact ⟨_, pe_lc hc hN pi ok (fun s H C cl fp => (hg s H C cl fp).canon) ht (fun s H C cl fp => (he s H C cl fp).canon) hs, fun c Q S h => lc_st si S h⟩
/-- x = [.. for ..] on one line -/
theorem ns_ownLc (i : Nat) {y : Str} {py : Pos} {elt tg iter : Expr} {ifs : List Expr} {scope : Scope} {own : List (Str × Nat)} {pos spos : Pos} {fi : NSt → R (List PyData)} {gg : PyData → NSt → Option NSt} {t : NSt → R Bool} {f : NExp} (hc : X.calm = true) (hN : X.N.Nodup) (hy : X.N[i]? = some y) (hyl : X.env.scope.names.lookup y = some .local)
    (hsw : swapsWith (.ListComp elt [⟨tg, iter, ifs, 0⟩] scope pos) (some (.Name y py)) spos.line X.env = pure true) (hi : NI X W tg iter fi) (ok : BlkOk X.N X.env.scope scope own)
    (hg : ∀ s H C cl fp, NG (BX X s H scope C cl fp) tg (own.map (·.2)) gg) (ht : ∀ s H C cl fp, PTs (BX X s H scope C cl fp) ifs (cT X.K X.mg W0 t)) (he : ∀ s H C cl fp, NE (BX X s H scope C cl fp) W0 elt f)
    (hs : ∀ x, foldedSetIterable iter X.env x = pure x := by intro _; rfl) : NS X W (.Assign [.Name y py] (.ListComp elt [⟨tg, iter, ifs, 0⟩] scope pos) spos) (sOwn i (nLc fi gg t f (own.map (·.2)))) := by
  obtain ⟨wi, pi, si⟩ := hi.ex
  exact ⟨_, ps_setLc hc hN hy hyl hsw pi ok (fun s H C cl fp => (hg s H C cl fp).canon) ht (fun s H C cl fp => (he s H C cl fp).canon) hs, fun c D S h => own_st (fun c Q S h => lc_st si S h) S h⟩
/-- .. a value -/
def sSetL (i : Nat) (fo : NSt → R (List PyData)) : NStm := fun n => (fo n).st fun xs n1 => if notLent n1 i = true then .nx (n1.set i (some (.val (.list xs)))) else .bad
theorem setL_st {i : Nat} {fo : NSt → R (List PyData)} {t : TE} (s : ∀ (c : Cf) (Q : VK), Sim X.K c → Pst X.K X.mg W (relO X.K) c Q (fo c.n) → t c.s c.H Q) {c : Cf} {D : Ends} (S : Sim X.K c) (h : PstS X.K X.mg W c D (sSetL i fo c.n)) :
    t c.s c.H fun x H1 => D.nx (c.s.set i (some x)) H1 := by
  refine s c _ S ?_
  unfold sSetL at h
  cases q : fo c.n with
  | ok xs n1 =>
    rw [q] at h
    intro x H1 F1 st1 S1 r
    have h' : PstS X.K X.mg W c D (if notLent n1 i = true then .nx (n1.set i (some (.val (.list xs)))) else .bad) := h
    split at h'
    · rename_i hl
      obtain ⟨F2, S2, st2, r2⟩ := Sim.freeze S st1 S1 r
      obtain ⟨S3, st3⟩ := Sim.setVal S2 hl r2
      exact h' _ _ _ (st2.trans st3) S3
    · exact h'.elim
  | err x n1 => rw [q] at h; exact fun cls d H' F' s1 S1 r1 => h cls d c.s H' F' s1 S1 r1
  | bad => rw [q] at h; exact h
theorem ns_setLc (i : Nat) {y : Str} {py : Pos} {elt tg iter : Expr} {ifs : List Expr} {scope : Scope} {own : List (Str × Nat)} {pos spos : Pos} {fi : NSt → R (List PyData)} {gg : PyData → NSt → Option NSt} {t : NSt → R Bool} {f : NExp} (hc : X.calm = true) (hN : X.N.Nodup) (hy : X.N[i]? = some y) (hyl : X.env.scope.names.lookup y = some .local)
    (hsw : swapsWith (.ListComp elt [⟨tg, iter, ifs, 0⟩] scope pos) (some (.Name y py)) spos.line X.env = pure true) (hi : NI X W tg iter fi) (ok : BlkOk X.N X.env.scope scope own)
    (hg : ∀ s H C cl fp, NG (BX X s H scope C cl fp) tg (own.map (·.2)) gg) (ht : ∀ s H C cl fp, PTs (BX X s H scope C cl fp) ifs (cT X.K X.mg W0 t)) (he : ∀ s H C cl fp, NE (BX X s H scope C cl fp) W0 elt f)
    (hs : ∀ x, foldedSetIterable iter X.env x = pure x := by intro _; rfl) : NS X W (.Assign [.Name y py] (.ListComp elt [⟨tg, iter, ifs, 0⟩] scope pos) spos) (sSetL i (nLc fi gg t f (own.map (·.2)))) := by
  obtain ⟨wi, pi, si⟩ := hi.ex
  exact ⟨_, ps_setLc hc hN hy hyl hsw pi ok (fun s H C cl fp => (hg s H C cl fp).canon) ht (fun s H C cl fp => (he s H C cl fp).canon) hs, fun c D S h => setL_st (fun c Q S h => lc_st si S h) S h⟩
theorem pts_nilN {s : Shared} {H : Hp} {scope : Scope} {C : Addr} {cl : List (Str × Addr)} {fp : List Addr} : PTs (BX X s H scope C cl fp) [] (cT X.K X.mg W0 tYesN) :=
  ⟨fun pins s0 σ H Q I ⟨c, e1, e2, S, q⟩ => by subst e1 e2; exact pts_nil.run pins s0 c.s c.H Q I (q true c.H c.F (Step.refl _) S rfl)⟩
theorem pts_oneN {s : Shared} {H : Hp} {scope : Scope} {C : Addr} {cl : List (Str × Addr)} {fp : List Addr} {e : Expr} {t : NSt → R Bool} (h : NT (BX X s H scope C cl fp) W0 e t) : PTs (BX X s H scope C cl fp) [e] (cT X.K X.mg W0 t) := pts_one h.canon
end
/-! ### what is walked -/
section
variable {X : Cx} {W : WX} {tg e : Expr} {f : NExp}
def iAnyN (K : PySem.W.Frag) (tl : TE) : TI := fun σ H R => tl σ H fun x H1 => (∃ a, x = .ref a ∧ (∃ xs, SqL K H1 a xs) ∧ R (Itl K a) H1) ∨ (∃ a, x = .ref a ∧ (∃ xs, SqT K H1 a xs) ∧ R (Itt K a) H1) ∨ (∃ x', x = .str x' ∧ R (Its x') H1)
theorem pi_anyN {l : Expr} {tl : TE} (hl : PE X l tl) : PI X tg l (iAnyN X.K tl) := by
  refine ⟨fun pins s σ H R I h => ?_⟩
  refine thn (hl.run pins s σ H _ I h) fun v s1 ⟨x, H1, I1, r1, q1⟩ => ?_
  rcases q1 with ⟨a, e, ⟨xs, hq⟩, q⟩ | ⟨a, e, ⟨xs, hq⟩, q⟩ | ⟨x', e, q⟩
  · subst e
    cases r1
    obtain ⟨its, rv, p, hz⟩ := I1.list hq
    refine wpAny_pyIter_list p.isList ?_
    refine ⟨s1.heap.objs.size, [s1.heap.objs.size], _, _, H1, rfl, I1.kept (t' := s1.toks) fun b o e => Heap.get?_push_of_some _ e, turn_list a _, ⟨_, Heap.get?_push_size _ rfl, rfl, rfl⟩, fun b hb => ?_, q⟩
    have e : b = s1.heap.objs.size := by simpa using hb
    subst e
    exact I1.fpOk (Nat.le_refl _) (I1.hok.fresh (Nat.le_refl _))
  · subst e
    cases r1
    obtain ⟨its, rv, p, hz⟩ := I1.tuple hq
    refine wpAny_pyIter_tuple (show s1.heap.IsTuple a its.toArray from p) ?_
    refine ⟨s1.heap.objs.size, [s1.heap.objs.size], _, _, H1, rfl, I1.kept (t' := s1.toks) fun b o e => Heap.get?_push_of_some _ e, turn_tuple a _, ⟨_, Heap.get?_push_size _ rfl, rfl, rfl⟩, fun b hb => ?_, q⟩
    have e : b = s1.heap.objs.size := by simpa using hb
    subst e
    exact I1.fpOk (Nat.le_refl _) (I1.hok.fresh (Nat.le_refl _))
  · subst e
    obtain ⟨t, rfl⟩ := r1
    cases ha : x'.cps.all (· < 128)
    · exact wpAny_pyIter_wide ha (pi_one (tk := s1.toks) I1 _ (turn_str _ x' t "str_iterator" (.inr rfl)) ⟨_, Heap.get?_push_size _ rfl, rfl, rfl⟩ q)
    · exact wpAny_pyIter_ascii ha (pi_one (tk := s1.toks) I1 _ (turn_str _ x' t "str_ascii_iterator" (.inl rfl)) ⟨_, Heap.get?_push_size _ rfl, rfl, rfl⟩ q)
def seqOf : PyData → Option (List PyData)
  | .list xs => some xs
  | .tuple xs => some xs
  | .str z => some (z.cps.toList.map fun c => .str ⟨#[c]⟩)
  | _ => none
theorem gives_list {K : PySem.W.Frag} {c1 : Cf} {a : Addr} {ds : List PyData} {vs : List V} (S1 : Sim K c1) (f : c1.F a) (h : c1.H a = some (.lst vs)) (r : Reps K c1.H c1.F ds vs) : Gives K (Itl K a) ds c1 := fun c2 st S2 i hi => by
  have h2 : SqL K c2.H a vs := SqL.of ((st.frz S1 a f).2.trans h)
  have r2 := st.reps S1 r
  refine ⟨fun d ed => ?_, fun e => ⟨vs, h2, by rw [r.length]; omega⟩⟩
  obtain ⟨v, ev, rv⟩ := r2.get ed
  refine ⟨⟨vs, v, h2, ev⟩, fun x H' ⟨e1, e2⟩ => ?_⟩
  subst e1
  have e3 := e2 vs h2
  rw [ev] at e3
  cases e3
  exact ⟨c2.F, Step.refl _, S2, rv⟩
theorem gives_tup {K : PySem.W.Frag} {c1 : Cf} {a : Addr} {ds : List PyData} {vs : List V} (S1 : Sim K c1) (f : (c1.F a ∧ c1.H a = some (.tup vs)) ∨ ∀ H', SqT K H' a vs) (r : Reps K c1.H c1.F ds vs) : Gives K (Itt K a) ds c1 := fun c2 st S2 i hi => by
  have h2 : SqT K c2.H a vs := by
    rcases f with ⟨f, h⟩ | f
    · exact SqT.of ((st.frz S1 a f).2.trans h)
    · exact f _
  have r2 := st.reps S1 r
  refine ⟨fun d ed => ?_, fun e => ⟨vs, h2, by rw [r.length]; omega⟩⟩
  obtain ⟨v, ev, rv⟩ := r2.get ed
  refine ⟨⟨vs, v, h2, ev⟩, fun x H' ⟨e1, e2⟩ => ?_⟩
  subst e1
  have e3 := e2 vs h2
  rw [ev] at e3
  cases e3
  exact ⟨c2.F, Step.refl _, S2, rv⟩
theorem gives_str {K : PySem.W.Frag} {c1 : Cf} {z : Str} : Gives K (Its z) (z.cps.toList.map fun c => PyData.str ⟨#[c]⟩) c1 := fun c2 st S2 i hi => by
  rw [List.length_map, Array.length_toList] at hi
  refine ⟨fun d ed => ?_, fun e => by rw [List.length_map, Array.length_toList] at e; exact Nat.le_of_eq e.symm⟩
  rw [List.getElem?_map, Array.getElem?_toList] at ed
  cases q : z.cps[i]? with
  | none => rw [q] at ed; cases ed
  | some k =>
    rw [q] at ed
    cases ed
    refine ⟨?_, fun x H' ⟨e1, k', e2, e3⟩ => ?_⟩
    · obtain ⟨hlt, _⟩ := Array.getElem?_eq_some_iff.mp q
      exact hlt
    · subst e1 e3
      rw [q] at e2
      cases e2
      exact ⟨c2.F, Step.refl _, S2, Rep.mkStr⟩
def iV (f : NExp) : NSt → R (List PyData) := fun n => (f n).bind fun d n' => liftO (seqOf d) n'
theorem ni_v (h : NE X W e f) : NI X W tg e (iV f) := by
  obtain ⟨t, p, s⟩ := h.ex
  refine ⟨iAnyN X.K t, pi_anyN p, fun c Q S q => ?_⟩
  refine s c _ S (Pst.seq (rel := relE X.K) (rel' := fun _ c1 ds J => Gives X.K J ds c1) mono_I q fun d n' v H' F' _ st S' r q' => ?_)
  cases d with
  | list xs =>
    obtain ⟨a, vs, rfl, f, h, rs⟩ := Rep.list (K := X.K) (H := H') (F := F') r
    exact .inl ⟨a, rfl, ⟨vs, SqL.of h⟩, q' (Itl X.K a) H' F' (Step.refl _) S' (gives_list S' f h rs)⟩
  | tuple xs =>
    have r' : Rep X.K H' F' (.tuple xs) v := r
    unfold Rep at r'
    obtain ⟨a, vs, rfl, f, rs⟩ := r'
    refine .inr (.inl ⟨a, rfl, ⟨vs, ?_⟩, q' (Itt X.K a) H' F' (Step.refl _) S' (gives_tup S' f rs)⟩)
    rcases f with ⟨f, h⟩ | f
    · exact SqT.of h
    · exact f _
  | str z => exact .inr (.inr ⟨z, Rep.str (K := X.K) (H := H') (F := F') r, q' (Its z) H' F' (Step.refl _) S' gives_str⟩)
  | _ => exact q'.elim
/-- the script -/
def iScr (i : Nat) : NSt → R (List PyData) := fun n => match n[i]? with
  | some (some (.scr xs)) => .ok xs n
  | _ => .bad
theorem ni_scr (i : Nat) {x : Str} {pos : Pos} (hN : X.N[i]? = some x := by rfl) (hv : Vis X.env.scope x := by first | exact Or.inl rfl | exact Or.inr (Or.inl rfl) | exact Or.inr (Or.inr rfl)) (hd : (x == ("__debug__" : Str)) = false := by decide)
    (hcd : (x == ("__classdict__" : Str)) = false := by decide) : NI X W tg (.Name x pos) (iScr i) := by
  refine ⟨iList X.K (tVar i), pi_list (pe_var hN hv hd hcd), fun c Q S q => ?_⟩
  unfold iScr at q
  split at q
  · rename_i xs e
    obtain ⟨v, e1, a, ns, rfl, e2, ok⟩ := S.slot i _ e
    subst e2
    refine ⟨_, e1, a, rfl, ⟨_, ok.sq⟩, q (Itl X.K a) c.H c.F (Step.refl _) S fun c2 st S2 j hj => ?_⟩
    have h2 : SqL X.K c2.H a (ns.map V.int) := by
      rcases ok with ⟨o, ok⟩ | ok
      · refine .inl (.inr ⟨o, (st.keep a (by rw [ok]; simp) fun hh => ?_).trans ok⟩)
        obtain ⟨k1, t, q1, q2, q3⟩ := hh
        obtain ⟨u, q4, q5⟩ := S.slot k1 t q1
        rw [q3] at q4
        cases q4
        cases t with
        | val d => cases q2
        | scr d => cases q2
        | own d =>
          obtain ⟨b', ws, y1, _, y2, _⟩ := q5
          cases y1
          have z2 := ok.symm.trans y2
          cases z2
        | lent d =>
          obtain ⟨b', ws, y1, _, y2, _⟩ := q5
          cases y1
          have z2 := ok.symm.trans y2
          cases z2
      · exact ok _
    rw [List.length_map] at hj
    refine ⟨fun d ed => ?_, fun e => ⟨_, h2, by rw [List.length_map]; rw [List.length_map] at e; omega⟩⟩
    rw [List.getElem?_map] at ed
    cases q0 : ns[j]? with
    | none => rw [q0] at ed; cases ed
    | some k =>
      rw [q0] at ed
      cases ed
      have ek : (ns.map V.int)[j]? = some (.int k) := by rw [List.getElem?_map, q0]; rfl
      refine ⟨⟨_, _, h2, ek⟩, fun x H' ⟨e1, e2⟩ => ?_⟩
      subst e1
      have e3 := e2 _ h2
      rw [ek] at e3
      cases e3
      exact ⟨c2.F, Step.refl _, S2, Rep.mkInt⟩
  · exact q.elim
def rgD (lo hi : Int) : List PyData := (List.range (hi - lo).toNat).map fun (i : Nat) => .int (lo + (i : Int))
def rgOk (i : Int) : Bool := decide (-(2 ^ 62) ≤ i) && decide (i < 2 ^ 62)
theorem gives_rng {K : PySem.W.Frag} {c1 : Cf} {lo hi : Int} : Gives K (Itr lo (hi - lo).toNat) (rgD lo hi) c1 := fun c2 st S2 i hi' => by
  unfold rgD at hi' ⊢
  rw [List.length_map, List.length_range] at hi'
  refine ⟨fun d ed => ?_, fun e => by rw [List.length_map, List.length_range] at e; exact Nat.le_of_eq e.symm⟩
  rw [List.getElem?_map] at ed
  cases q : (List.range (hi - lo).toNat)[i]? with
  | none => rw [q] at ed; cases ed
  | some k =>
    rw [q] at ed
    cases ed
    obtain ⟨hlt, hk⟩ := List.getElem?_eq_some_iff.mp q
    rw [List.length_range] at hlt
    rw [List.getElem_range] at hk
    subst hk
    exact ⟨hlt, fun x H' ⟨e1, e2⟩ => by subst e1 e2; exact ⟨c2.F, Step.refl _, S2, Rep.mkInt⟩⟩
def iRg1 (f : NSt → R (List AV)) : NSt → R (List PyData) := fun n => (f n).bind fun as n' => match as with
  | [.v (.int j)] => if rgOk j = true then .ok (rgD 0 j) n' else .bad
  | _ => .bad
theorem rgOk_ok {i : Int} (h : rgOk i = true) : -(2 ^ 62) ≤ i ∧ i < 2 ^ 62 := by
  unfold rgOk at h
  obtain ⟨h1, h2⟩ := Bool.and_eq_true_iff.mp h
  exact ⟨of_decide_eq_true h1, of_decide_eq_true h2⟩
theorem ni_rg1 {a : Expr} {fs : NSt → R (List AV)} {p pos : Pos} (hm : X.mg "range" = none) (ha : NA X W [a] fs) (hg : Gl X "range" := by rfl) (hs : starEach [a] X.env = [(false, eval a X.env)] := by rfl) : NI X W tg (.Call (.Name "range" p) [a] [] pos) (iRg1 fs) := by
  obtain ⟨t, pa, s⟩ := ha.ex
  refine ⟨iRng1 t, pi_range1 hg hm pa hs, fun c Q S q => ?_⟩
  refine s c _ S (Pst.seq (rel := relA X.K) (rel' := fun _ c1 ds J => Gives X.K J ds c1) mono_I q fun as n' vs H' F' _ st S' r q' => ?_)
  split at q'
  · rename_i j _
    split at q'
    · rename_i hz
      cases r with
      | cons r1 rr =>
        cases rr
        obtain ⟨h1, h2⟩ := rgOk_ok hz
        have e1 : _ = V.int j := Rep.int (K := X.K) (H := H') (F := F') r1
        subst e1
        have gg : Gives X.K (Itr 0 j.toNat) (rgD 0 j) ⟨n', c.s, H', F'⟩ := by
          have := gives_rng (K := X.K) (c1 := ⟨n', c.s, H', F'⟩) (lo := 0) (hi := j)
          rw [Int.sub_zero] at this
          exact this
        exact ⟨j, rfl, h1, h2, q' (Itr 0 j.toNat) H' F' (Step.refl _) S' gg⟩
    · exact q'.elim
  · exact q'.elim
def iRg2 (f : NSt → R (List AV)) : NSt → R (List PyData) := fun n => (f n).bind fun as n' => match as with
  | [.v (.int i), .v (.int j)] => if rgOk i = true ∧ rgOk j = true then .ok (rgD i j) n' else .bad
  | _ => .bad
theorem ni_rg2 {a b : Expr} {fs : NSt → R (List AV)} {p pos : Pos} (hm : X.mg "range" = none) (ha : NA X W [a, b] fs) (hg : Gl X "range" := by rfl) (hs : starEach [a, b] X.env = [(false, eval a X.env), (false, eval b X.env)] := by rfl) (hs2 : starEach [b] X.env = [(false, eval b X.env)] := by rfl) :
    NI X W tg (.Call (.Name "range" p) [a, b] [] pos) (iRg2 fs) := by
  obtain ⟨t, pa, s⟩ := ha.ex
  refine ⟨iRng2 t, pi_range2 hg hm pa hs hs2, fun c Q S q => ?_⟩
  refine s c _ S (Pst.seq (rel := relA X.K) (rel' := fun _ c1 ds J => Gives X.K J ds c1) mono_I q fun as n' vs H' F' _ st S' r q' => ?_)
  split at q'
  · rename_i i j _
    split at q'
    · rename_i hz
      cases r with
      | cons r1 rr =>
        cases rr with
        | cons r2 rr =>
          cases rr
          obtain ⟨h1, h2⟩ := rgOk_ok hz.1
          obtain ⟨h3, h4⟩ := rgOk_ok hz.2
          have e1 : _ = V.int i := Rep.int (K := X.K) (H := H') (F := F') r1
          have e2 : _ = V.int j := Rep.int (K := X.K) (H := H') (F := F') r2
          subst e1 e2
          exact ⟨i, j, rfl, ⟨h1, h2, h3, h4⟩, q' (Itr i (j - i).toNat) H' F' (Step.refl _) S' gives_rng⟩
    · exact q'.elim
  · exact q'.elim
/-- zip of two lists, of two tuples -/
def zipD (xs ys : List PyData) : List PyData := List.zipWith (fun x y => .tuple [x, y]) xs ys
def iZp (f : NSt → R (List AV)) : NSt → R (List PyData) := fun n => (f n).bind fun as n' => match as with
  | [.v (.list xs), .v (.list ys)] => .ok (zipD xs ys) n'
  | [.v (.tuple xs), .v (.tuple ys)] => .ok (zipD xs ys) n'
  | _ => .bad
theorem ni_zip {a b : Expr} {fs : NSt → R (List AV)} {p pos tpos : Pos} {elts : List Expr} {kk : Nat} (hm : X.mg "zip" = none) (ha : NA X W [a, b] fs) (hg : Gl X "zip" := by rfl) (hs : starEach [a, b] X.env = (false, eval a X.env) :: starEach [b] X.env := by rfl) (hpl : (backTo pos (starEach [b] X.env)).any (·.1) = false := by rfl) :
    NI X W (.Tuple elts kk tpos) (.Call (.Name "zip" p) [a, b] [] pos) (iZp fs) := by
  obtain ⟨t, pa, s⟩ := ha.ex
  refine ⟨RZ.iZipA X.K t, RZ.pi_zipA hg hm pa hs hpl, fun c Q S q => ?_⟩
  refine s c _ S (Pst.seq (rel := relA X.K) (rel' := fun _ c1 ds J => Gives X.K J ds c1) mono_I q fun as n' vs H' F' _ st S' r q' => ?_)
  have pair : ∀ (c2 : Cf) (x y : PyData) (u w : V) (T : Addr), Sim X.K c2 → Rep X.K c2.H c2.F x u → Rep X.K c2.H c2.F y w → c2.H T = none → ∃ F', Step c2 ⟨c2.n, c2.s, upd c2.H T (.tup [u, w]), F'⟩ ∧ Sim X.K ⟨c2.n, c2.s, upd c2.H T (.tup [u, w]), F'⟩ ∧ Rep X.K (upd c2.H T (.tup [u, w])) F' (.tuple [x, y]) (.ref T) := fun c2 x y u w T S2 r1 r2 hT => by
    obtain ⟨h1, h2, h3⟩ := S2.newTup (p := T) hT (Reps.cons r1 (Reps.cons r2 Reps.nil))
    exact ⟨_, h2, h1, h3⟩
  have zget : ∀ (xs ys : List PyData) (i : Nat) (d : PyData), (zipD xs ys)[i]? = some d → ∃ x y, xs[i]? = some x ∧ ys[i]? = some y ∧ d = .tuple [x, y] := fun xs ys i d e => by
    unfold zipD at e
    rw [List.getElem?_zipWith] at e
    cases e1 : xs[i]? with
    | none => rw [e1] at e; simp at e
    | some x =>
      cases e2 : ys[i]? with
      | none => rw [e1, e2] at e; simp at e
      | some y => rw [e1, e2] at e; simp at e; exact ⟨x, y, rfl, rfl, e.symm⟩
  split at q'
  · rename_i xs ys _
    cases r with
    | cons r1 rr =>
      cases rr with
      | cons r2 rr =>
        cases rr
        obtain ⟨a, us, rfl, fa, ha', ra⟩ := Rep.list (K := X.K) (H := H') (F := F') r1
        obtain ⟨b, ws, rfl, fb, hb', rb⟩ := Rep.list (K := X.K) (H := H') (F := F') r2
        refine ⟨a, b, us, ws, rfl, .inl ⟨SqL.of ha', SqL.of hb', q' (Itz X.K a b) H' F' (Step.refl _) S' fun c2 st2 S2 i hi => ?_⟩⟩
        have ha2 : SqL X.K c2.H a us := SqL.of ((st2.frz S' a fa).2.trans ha')
        have hb2 : SqL X.K c2.H b ws := SqL.of ((st2.frz S' b fb).2.trans hb')
        refine ⟨fun d ed => ?_, fun e => ⟨us, ws, ha2, hb2, ?_⟩⟩
        · obtain ⟨x, y, e1, e2, rfl⟩ := zget xs ys i d ed
          obtain ⟨u, eu, ru⟩ := (st2.reps S' ra).get e1
          obtain ⟨w, ew, rw'⟩ := (st2.reps S' rb).get e2
          refine ⟨⟨us, ws, u, w, ha2, hb2, eu, ew⟩, fun v H2 ⟨T, u', w', e3, hT, e4, e5, e6⟩ => ?_⟩
          have e5' := e5 us ha2
          have e6' := e6 ws hb2
          rw [eu] at e5'
          rw [ew] at e6'
          cases e5'
          cases e6'
          subst e3 e4
          exact pair c2 x y u w T S2 ru rw' hT
        · unfold zipD at e
          rw [List.length_zipWith] at e
          rw [ra.length, rb.length]
          omega
  · rename_i xs ys _
    cases r with
    | cons r1 rr =>
      cases rr with
      | cons r2 rr =>
        cases rr
        have r1' : Rep X.K H' F' (.tuple xs) _ := r1
        have r2' : Rep X.K H' F' (.tuple ys) _ := r2
        unfold Rep at r1' r2'
        obtain ⟨a, us, rfl, fa, ra⟩ := r1'
        obtain ⟨b, ws, rfl, fb, rb⟩ := r2'
        have sq : ∀ (a : Addr) (us : List V), ((F' a ∧ H' a = some (.tup us)) ∨ ∀ H', SqT X.K H' a us) → ∀ c2 : Cf, Step ⟨n', c.s, H', F'⟩ c2 → SqT X.K c2.H a us := fun a us f c2 st2 => by
          rcases f with ⟨f, h⟩ | f
          · exact SqT.of ((st2.frz S' a f).2.trans h)
          · exact f _
        refine ⟨a, b, us, ws, rfl, .inr ⟨sq a us fa _ (Step.refl _), sq b ws fb _ (Step.refl _), q' (RZ.ItzT X.K a b) H' F' (Step.refl _) S' fun c2 st2 S2 i hi => ?_⟩⟩
        have ha2 := sq a us fa c2 st2
        have hb2 := sq b ws fb c2 st2
        refine ⟨fun d ed => ?_, fun e => ⟨us, ws, ha2, hb2, ?_⟩⟩
        · obtain ⟨x, y, e1, e2, rfl⟩ := zget xs ys i d ed
          obtain ⟨u, eu, ru⟩ := (st2.reps S' ra).get e1
          obtain ⟨w, ew, rw'⟩ := (st2.reps S' rb).get e2
          refine ⟨⟨us, ws, u, w, ha2, hb2, eu, ew⟩, fun v H2 ⟨T, u', w', e3, hT, e4, e5, e6⟩ => ?_⟩
          have e5' := e5 us ha2
          have e6' := e6 ws hb2
          rw [eu] at e5'
          rw [ew] at e6'
          cases e5'
          cases e6'
          subst e3 e4
          exact pair c2 x y u w T S2 ru rw' hT
        · unfold zipD at e
          rw [List.length_zipWith] at e
          rw [ra.length, rb.length]
          omega
  · exact q'.elim
/-- enumerate of a list -/
def enumD (k : Nat) : List PyData → List PyData
  | [] => []
  | x :: xs => .tuple [.int (k : Nat), x] :: enumD (k + 1) xs
theorem enumD_get : ∀ {xs : List PyData} {k i : Nat}, (enumD k xs)[i]? = (xs[i]?).map fun x => PyData.tuple [.int ((k + i : Nat) : Int), x]
  | [], k, i => by simp [enumD]
  | x :: xs, k, 0 => by simp [enumD]
  | x :: xs, k, i + 1 => by
    simp only [enumD, List.getElem?_cons_succ]
    rw [enumD_get]
    have e : k + 1 + i = k + (i + 1) := by omega
    rw [e]
theorem enumD_len : ∀ {xs : List PyData} {k : Nat}, (enumD k xs).length = xs.length
  | [], k => rfl
  | x :: xs, k => by simp [enumD, enumD_len]
def iEn (f : NSt → R (List AV)) : NSt → R (List PyData) := fun n => (f n).bind fun as n' => match as with
  | [.v (.list xs)] => .ok (enumD 0 xs) n'
  | _ => .bad
theorem ni_enum {a : Expr} {fs : NSt → R (List AV)} {p pos tpos : Pos} {elts : List Expr} {kk : Nat} (hm : X.mg "enumerate" = none) (ha : NA X W [a] fs) (hg : Gl X "enumerate" := by rfl) (hs : starEach [a] X.env = [(false, eval a X.env)] := by rfl) :
    NI X W (.Tuple elts kk tpos) (.Call (.Name "enumerate" p) [a] [] pos) (iEn fs) := by
  obtain ⟨t, pa, s⟩ := ha.ex
  refine ⟨iEnum X.K t, pi_enum hg hm pa hs, fun c Q S q => ?_⟩
  refine s c _ S (Pst.seq (rel := relA X.K) (rel' := fun _ c1 ds J => Gives X.K J ds c1) mono_I q fun as n' vs H' F' _ st S' r q' => ?_)
  split at q'
  · rename_i xs _
    cases r with
    | cons r1 rr =>
      cases rr
      obtain ⟨a, us, rfl, fa, ha', ra⟩ := Rep.list (K := X.K) (H := H') (F := F') r1
      refine ⟨a, us, rfl, SqL.of ha', q' (Ite X.K a) H' F' (Step.refl _) S' fun c2 st2 S2 i hi => ?_⟩
      have ha2 : SqL X.K c2.H a us := SqL.of ((st2.frz S' a fa).2.trans ha')
      refine ⟨fun d ed => ?_, fun e => ⟨us, ha2, by rw [ra.length]; rw [enumD_len] at e; omega⟩⟩
      rw [enumD_get] at ed
      cases e1 : xs[i]? with
      | none => rw [e1] at ed; cases ed
      | some x =>
        rw [e1] at ed
        cases ed
        obtain ⟨u, eu, ru⟩ := (st2.reps S' ra).get e1
        refine ⟨⟨us, u, ha2, eu⟩, fun v H2 ⟨T, u', e3, hT, e4, e5⟩ => ?_⟩
        have e5' := e5 us ha2
        rw [eu] at e5'
        cases e5'
        subst e3 e4
        have e0 : 0 + i = i := Nat.zero_add i
        rw [e0]
        obtain ⟨h1, h2, h3⟩ := S2.newTup (p := T) hT (Reps.cons (Rep.mkInt (i := (i : Int))) (Reps.cons ru Reps.nil))
        exact ⟨_, h2, h1, h3⟩
  · exact q'.elim
end
end NL
end L2
/-! NL7: items, slices, built-ins, the methods of lists. -/
namespace L2
namespace NL
open PySem PySem.Spec PyProof.Rows

section
variable {K : PySem.W.Frag} {H : Hp} {F : Fz}
theorem Reps.at {ds : List PyData} {vs : List V} {i : Int} {d : PyData} (r : Reps K H F ds vs) (h : atI ds i = some d) : ∃ v, atI vs i = some v ∧ Rep K H F d v := by
  unfold atI at h ⊢
  rw [r.length]
  cases q : ixN ds.length i with
  | none => rw [q] at h; cases h
  | some j =>
    rw [q] at h
    exact r.get h
theorem Reps.bools : ∀ {bs : List Bool} {vs : List V}, Reps K H F (bs.map PyData.bool) vs → vs = bs.map V.bl
  | [], vs, r => by have r' : Reps K H F [] vs := r; unfold Reps at r'; exact r'
  | b :: bs, vs, r => by
    have r' : Reps K H F (.bool b :: bs.map PyData.bool) vs := r
    unfold Reps at r'
    obtain ⟨v, ws, rfl, r1, r2⟩ := r'
    rw [r1.bool, Reps.bools r2]; rfl
theorem Reps.ints' : ∀ {bs : List Int} {vs : List V}, Reps K H F (bs.map PyData.int) vs → vs = bs.map V.int
  | [], vs, r => by have r' : Reps K H F [] vs := r; unfold Reps at r'; exact r'
  | b :: bs, vs, r => by
    have r' : Reps K H F (.int b :: bs.map PyData.int) vs := r
    unfold Reps at r'
    obtain ⟨v, ws, rfl, r1, r2⟩ := r'
    rw [r1.int, Reps.ints' r2]; rfl
theorem Reps.strs' : ∀ {bs : List Str} {vs : List V}, Reps K H F (bs.map PyData.str) vs → vs = bs.map V.str
  | [], vs, r => by have r' : Reps K H F [] vs := r; unfold Reps at r'; exact r'
  | b :: bs, vs, r => by
    have r' : Reps K H F (.str b :: bs.map PyData.str) vs := r
    unfold Reps at r'
    obtain ⟨v, ws, rfl, r1, r2⟩ := r'
    rw [r1.str, Reps.strs' r2]; rfl
end
def boolsOf : List PyData → Option (List Bool)
  | [] => some []
  | .bool b :: ds => (boolsOf ds).map (b :: ·)
  | _ => none
def intsOf : List PyData → Option (List Int)
  | [] => some []
  | .int b :: ds => (intsOf ds).map (b :: ·)
  | _ => none
def strsOf : List PyData → Option (List Str)
  | [] => some []
  | .str b :: ds => (strsOf ds).map (b :: ·)
  | _ => none
theorem boolsOf_eq : ∀ {ds : List PyData} {bs : List Bool}, boolsOf ds = some bs → ds = bs.map PyData.bool
  | [], bs, h => by cases h; rfl
  | .bool b :: ds, bs, h => by
    unfold boolsOf at h
    cases q : boolsOf ds with
    | none => rw [q] at h; cases h
    | some cs => rw [q] at h; cases h; rw [boolsOf_eq q]; rfl
  | .none :: _, _, h => by cases h
  | .int _ :: _, _, h => by cases h
  | .str _ :: _, _, h => by cases h
  | .list _ :: _, _, h => by cases h
  | .tuple _ :: _, _, h => by cases h
  | .dict _ :: _, _, h => by cases h
theorem intsOf_eq : ∀ {ds : List PyData} {bs : List Int}, intsOf ds = some bs → ds = bs.map PyData.int
  | [], bs, h => by cases h; rfl
  | .int b :: ds, bs, h => by
    unfold intsOf at h
    cases q : intsOf ds with
    | none => rw [q] at h; cases h
    | some cs => rw [q] at h; cases h; rw [intsOf_eq q]; rfl
  | .none :: _, _, h => by cases h
  | .bool _ :: _, _, h => by cases h
  | .str _ :: _, _, h => by cases h
  | .list _ :: _, _, h => by cases h
  | .tuple _ :: _, _, h => by cases h
  | .dict _ :: _, _, h => by cases h
theorem strsOf_eq : ∀ {ds : List PyData} {bs : List Str}, strsOf ds = some bs → ds = bs.map PyData.str
  | [], bs, h => by cases h; rfl
  | .str b :: ds, bs, h => by
    unfold strsOf at h
    cases q : strsOf ds with
    | none => rw [q] at h; cases h
    | some cs => rw [q] at h; cases h; rw [strsOf_eq q]; rfl
  | .none :: _, _, h => by cases h
  | .bool _ :: _, _, h => by cases h
  | .int _ :: _, _, h => by cases h
  | .list _ :: _, _, h => by cases h
  | .tuple _ :: _, _, h => by cases h
  | .dict _ :: _, _, h => by cases h
theorem intsOf_map (ns : List Int) : intsOf (ns.map PyData.int) = some ns := by
  induction ns with
  | nil => rfl
  | cons n ns ih => show (intsOf (ns.map PyData.int)).map (n :: ·) = _; rw [ih]; rfl
theorem boolsOf_map (ns : List Bool) : boolsOf (ns.map PyData.bool) = some ns := by
  induction ns with
  | nil => rfl
  | cons n ns ih => show (boolsOf (ns.map PyData.bool)).map (n :: ·) = _; rw [ih]; rfl
theorem strsOf_map (ns : List Str) : strsOf (ns.map PyData.str) = some ns := by
  induction ns with
  | nil => rfl
  | cons n ns ih => show (strsOf (ns.map PyData.str)).map (n :: ·) = _; rw [ih]; rfl

section
variable {X : Cx} {W : WX} {e e2 : Expr} {p q : Opd} {pos : Pos}
/-! ### o[i] -/
def oIx : PyData → PyData → Option PyData
  | .list xs, .int i => atI xs i
  | .tuple xs, .int i => atI xs i
  | .str z, .int i => if z.length ≤ sizeLine then (atI z.cps.toList i).map fun c => .str ⟨#[c]⟩ else none
  | _, _ => none
theorem no_ix : Op2 X (rIx X.K) oIx := by
  intro c x y z vx vy Q S rx ry e h
  unfold oIx at e
  split at e
  · obtain ⟨a, vs, rfl, ha, ra⟩ := rx.list
    obtain ⟨v, ev, rv⟩ := ra.at e
    exact .inl ⟨a, vs, _, v, rfl, ry.int, SqL.of ha, ev, fin0 S h rv⟩
  · obtain ⟨a, vs, rfl, ha, ra⟩ := rx.tuple
    obtain ⟨v, ev, rv⟩ := ra.at e
    exact .inr (.inl ⟨a, vs, _, v, rfl, ry.int, ha, ev, fin0 S h rv⟩)
  · split at e
    · rename_i s i hz
      cases q : atI s.cps.toList i with
      | none => rw [q] at e; cases e
      | some k =>
        rw [q] at e
        cases e
        exact .inr (.inr ⟨s, i, k, rx.str, ry.int, hz, q, fin0 S h Rep.mkStr⟩)
    · cases e
  · cases e
theorem ne_ix (ha : NO X W e p) (hb : NO X W e2 q) (hs : PlainIx e2 := by exact fun _ _ => rfl) : NE X W (.Subscript e e2 pos) (nOp2 oIx p q) := by
  obtain ⟨ta, pa, sa⟩ := ha.ex
  obtain ⟨tb, pb, sb⟩ := hb.ex
  exact ⟨tOp (rIx X.K) ta tb, pe_ix ix_seq pa pb hs, fun c Q S h => two sa sb no_ix S h⟩
/-! ### o[i:j] -/
def cutP (xs : List PyData) (lo hi : Option Int) : List PyData := (xs.drop (HT.sIx xs.length 0 lo)).take (HT.sIx xs.length xs.length hi - HT.sIx xs.length 0 lo)
structure NP (X : Cx) (W : WX) (e : Option Expr) (f : NSt → R (Option Int)) : Prop where
  ex : ∃ t, PO X e t ∧ ∀ (c : Cf) (Q : Option Int → Hp → Prop), Sim X.K c → Pst X.K X.mg W (fun _ _ a b => a = b) c Q (f c.n) → t c.s c.H Q
def pNone : NSt → R (Option Int) := fun n => .ok none n
def pSome (f : NExp) : NSt → R (Option Int) := fun n => (f n).bind fun d n' => match d with
  | .int i => .ok (some i) n'
  | _ => .bad
theorem mono_P : Mono (fun (_ _ : Cf) (a b : Option Int) => a = b) := fun _ _ _ _ _ _ h => h
theorem np_none : NP X W none pNone := ⟨tNoPart, po_none, fun c Q S h => h none c.H c.F (Step.refl _) S rfl⟩
theorem np_some {f : NExp} (h : NE X W e f) : NP X W (some e) (pSome f) := by
  obtain ⟨t, pe, s⟩ := h.ex
  refine ⟨tPart t, po_some pe, fun c Q S q => ?_⟩
  refine s c _ S (Pst.seq (rel := relE X.K) (rel' := fun _ _ a b => a = b) mono_P q fun d n' v H' F' _ st S' r q' => ?_)
  cases d with
  | int i => exact ⟨i, Rep.int (K := X.K) (H := H') (F := F') r, q' (some i) H' F' (Step.refl _) S' rfl⟩
  | _ => exact q'.elim
def oSl (x : PyData) (lo hi : Option Int) : Option PyData := match x with
  | .list xs => some (.list (cutP xs lo hi))
  | .tuple xs => some (.tuple (cutP xs lo hi))
  | .str z => if z.length ≤ sizeLine then some (.str (cutS z lo hi)) else none
  | _ => none
def nSl (p : Opd) (fl fh : NSt → R (Option Int)) : NExp := fun n => (p.run n).bind fun a n1 => (fl n1).bind fun l n2 => (fh n2).bind fun h n3 => match a.get n3 with
  | some x => liftO (oSl x l h) n3
  | none => .bad
def rSlN (K : PySem.W.Frag) : V → Option Int → Option Int → Hp → VK → Prop := fun x lo hi H Q => rSlL K x lo hi H Q ∨ rSlA K x lo hi H Q ∨ rSlS x lo hi H Q
theorem sl_N : SlR X (rSlN X.K) := sl_list.or (sl_tupA.or sl_str)
theorem cut_rep {K : PySem.W.Frag} {H : Hp} {F : Fz} {ds : List PyData} {vs : List V} {lo hi : Option Int} (r : Reps K H F ds vs) : Reps K H F (cutP ds lo hi) (cutV vs lo hi) := by
  unfold cutP cutV
  rw [r.length]
  exact (r.drop _).take _
theorem ne_sl {lo hi : Option Expr} {fl fh : NSt → R (Option Int)} {p2 : Pos} (ha : NO X W e p) (hl : NP X W lo fl) (hh : NP X W hi fh) : NE X W (.Subscript e (.Slice lo hi none p2) pos) (nSl p fl fh) := by
  obtain ⟨ta, pa, sa⟩ := ha.ex
  obtain ⟨tl, pl, sl⟩ := hl.ex
  obtain ⟨th, ph, sh⟩ := hh.ex
  refine ⟨tSl (rSlN X.K) ta tl th, pe_slice sl_N pa pl ph, fun c Q S h => ?_⟩
  refine sa c _ S (Pst.seq (rel := relV X.K) (rel' := relE X.K) mono_E h fun a n1 vx H1 F1 _ st1 S1 rx h1 => ?_)
  refine sl ⟨n1, c.s, H1, F1⟩ _ S1 (Pst.seq (rel := fun _ _ a b => a = b) (rel' := relE X.K) mono_E h1 fun l n2 l' H2 F2 _ st2 S2 r2 h2 => ?_)
  refine sh ⟨n2, c.s, H2, F2⟩ _ S2 (Pst.seq (rel := fun _ _ a b => a = b) (rel' := relE X.K) mono_E h2 fun hh n3 h' H3 F3 _ st3 S3 r3 h3 => ?_)
  subst r2 r3
  have rx3 : AVRep X.K ⟨n3, c.s, H3, F3⟩ a vx := AVRep.step st3 S2 rfl (AVRep.step st2 S1 rfl rx)
  cases ea : a.get n3 with
  | none => rw [ea] at h3; exact h3.elim
  | some x =>
    rw [ea] at h3
    dsimp only at h3
    have rr := S3.avGet rx3 ea
    cases x with
    | list xs =>
      obtain ⟨a, vs, rfl, hA, ra⟩ := rr.list
      exact .inl ⟨a, vs, rfl, SqL.of hA, finLst S3 (fun v H' F' st' S' r' => h3 v H' F' st' S' r') (cut_rep ra)⟩
    | tuple xs =>
      obtain ⟨a, vs, rfl, hA, ra⟩ := rr.tuple
      refine .inr (.inl ⟨a, vs, rfl, hA, fun ⟨z1, z2⟩ => ?_, fun _ => finTup S3 (fun v H' F' st' S' r' => h3 v H' F' st' S' r') (cut_rep ra)⟩)
      refine fin0 S3 (fun v H' F' st' S' r' => h3 v H' F' st' S' r') ?_
      have e : cutP xs l hh = xs := by
        rw [ra.length] at z1 z2
        unfold cutP
        rw [z1, z2]; simp
      rw [e]
      exact tup_refl rr fun _ z => by cases z
    | str z =>
      have h4 : Pst X.K X.mg W (relE X.K) ⟨n3, c.s, H3, F3⟩ Q (liftO (if z.length ≤ sizeLine then some (.str (cutS z l hh)) else none) n3) := h3
      split at h4
      · rename_i hz
        exact .inr (.inr ⟨z, rr.str, hz, h4 _ H3 F3 (Step.refl _) S3 Rep.mkStr⟩)
      · exact h4.elim
    | _ => exact h3.elim
/-! ### built-ins -/
def bLen : List PyData → Option PyData
  | [.list xs] => some (.int xs.length)
  | [.tuple xs] => some (.int xs.length)
  | [.str z] => if z.length ≤ sizeLine then some (.int z.length) else none
  | _ => none
theorem cn_len : CallN X (fun xs H Q => ∃ x n, xs = [x] ∧ LenV X.K x H n ∧ Q (.int n) H) bLen := by
  intro c ds z vs Q S r e h
  unfold bLen at e
  split at e
  · cases e
    cases r with
    | cons r1 rr =>
      cases rr
      obtain ⟨a, us, rfl, ha, ra⟩ := r1.list
      refine ⟨_, _, rfl, .inl ⟨us, SqL.of ha, rfl⟩, fin0 S h ?_⟩
      rw [ra.length]; exact Rep.mkInt
  · cases e
    cases r with
    | cons r1 rr =>
      cases rr
      obtain ⟨a, us, rfl, ha, ra⟩ := r1.tuple
      refine ⟨_, _, rfl, .inr ⟨us, ha, rfl⟩, fin0 S h ?_⟩
      rw [ra.length]; exact Rep.mkInt
  · split at e
    · rename_i hz
      cases e
      cases r with
      | cons r1 rr =>
        cases rr
        have := r1.str
        subst this
        exact ⟨_, _, rfl, ⟨hz, rfl⟩, fin0 S h Rep.mkInt⟩
    · cases e
  · cases e
theorem ne_len {x : Expr} {fs : NSt → R (List AV)} {p : Pos} (hm : X.mg "len" = none) (ha : NA X W [x] fs) (hg : Gl X "len" := by rfl) (he : starEach [x] X.env = (false, eval x X.env) :: starEach [] X.env := by rfl) (hpl : (backTo pos (starEach [] X.env)).any (·.1) = false := by rfl) : NE X W (.Call (.Name "len" p) [x] [] pos) (nCB bLen fs) :=
  ne_cb call_len cn_len hm PySem.boot_len ha hg (by decide) (by decide) he hpl
def bAll : List PyData → Option PyData
  | [.list xs] => (boolsOf xs).map fun bs => .bool (bs.all id)
  | _ => none
def bAny : List PyData → Option PyData
  | [.list xs] => (boolsOf xs).map fun bs => .bool (bs.any id)
  | _ => none
theorem cn_all : CallN X (rAll X.K) bAll := by
  intro c ds z vs Q S r e h
  unfold bAll at e
  split at e
  · cases q : boolsOf _ with
    | none => rw [q] at e; cases e
    | some bs =>
      rw [q] at e
      cases e
      cases r with
      | cons r1 rr =>
        cases rr
        obtain ⟨a, us, rfl, ha, ra⟩ := r1.list
        rw [boolsOf_eq q] at ra
        have := ra.bools
        subst this
        exact ⟨a, bs, rfl, SqL.of ha, fin0 S h Rep.mkBool⟩
  · cases e
theorem cn_any : CallN X (rAny X.K) bAny := by
  intro c ds z vs Q S r e h
  unfold bAny at e
  split at e
  · cases q : boolsOf _ with
    | none => rw [q] at e; cases e
    | some bs =>
      rw [q] at e
      cases e
      cases r with
      | cons r1 rr =>
        cases rr
        obtain ⟨a, us, rfl, ha, ra⟩ := r1.list
        rw [boolsOf_eq q] at ra
        have := ra.bools
        subst this
        exact ⟨a, bs, rfl, SqL.of ha, fin0 S h Rep.mkBool⟩
  · cases e
def bSum : List PyData → Option PyData
  | [.list xs] => (intsOf xs).map fun ns => .int ns.sum
  | _ => none
theorem cn_sum : CallN X (rSum X.K) bSum := by
  intro c ds z vs Q S r e h
  unfold bSum at e
  split at e
  · cases q : intsOf _ with
    | none => rw [q] at e; cases e
    | some bs =>
      rw [q] at e
      cases e
      cases r with
      | cons r1 rr =>
        cases rr
        obtain ⟨a, us, rfl, ha, ra⟩ := r1.list
        rw [intsOf_eq q] at ra
        have := ra.ints'
        subst this
        exact ⟨a, bs, rfl, SqL.of ha, fin0 S h Rep.mkInt⟩
  · cases e
def maxL : List Int → Int
  | [] => 0
  | [x] => x
  | x :: y :: r => max x (maxL (y :: r))
def minL : List Int → Int
  | [] => 0
  | [x] => x
  | x :: y :: r => min x (minL (y :: r))
theorem maxL_ge : ∀ {ns : List Int} {y : Int}, y ∈ ns → y ≤ maxL ns
  | [x], y, h => by simp at h; subst h; exact Int.le_refl _
  | x :: z :: r, y, h => by
    unfold maxL
    rcases List.mem_cons.mp h with h | h
    · subst h; omega
    · have := maxL_ge h; omega
theorem maxL_mem : ∀ {ns : List Int}, ns ≠ [] → maxL ns ∈ ns
  | [x], _ => by simp [maxL]
  | x :: z :: r, _ => by
    have h := maxL_mem (ns := z :: r) (by simp)
    unfold maxL
    by_cases q : x ≤ maxL (z :: r)
    · rw [Int.max_eq_right q]; exact List.mem_cons_of_mem _ h
    · rw [Int.max_eq_left (by omega)]; exact List.mem_cons_self
theorem minL_le : ∀ {ns : List Int} {y : Int}, y ∈ ns → minL ns ≤ y
  | [x], y, h => by simp at h; subst h; exact Int.le_refl _
  | x :: z :: r, y, h => by
    unfold minL
    rcases List.mem_cons.mp h with h | h
    · subst h; omega
    · have := minL_le h; omega
theorem minL_mem : ∀ {ns : List Int}, ns ≠ [] → minL ns ∈ ns
  | [x], _ => by simp [minL]
  | x :: z :: r, _ => by
    have h := minL_mem (ns := z :: r) (by simp)
    unfold minL
    by_cases q : x ≤ minL (z :: r)
    · rw [Int.min_eq_left q]; exact List.mem_cons_self
    · rw [Int.min_eq_right (by omega)]; exact List.mem_cons_of_mem _ h
def bMax : List PyData → Option PyData
  | [.list xs] => (intsOf xs).bind fun ns => if ns = [] then none else some (.int (maxL ns))
  | [.int a, .int b] => some (.int (max a b))
  | _ => none
def bMin : List PyData → Option PyData
  | [.list xs] => (intsOf xs).bind fun ns => if ns = [] then none else some (.int (minL ns))
  | [.int a, .int b] => some (.int (min a b))
  | _ => none
def rMaxN (K : PySem.W.Frag) : List V → Hp → VK → Prop := fun xs H Q => rMax K xs H Q ∨ ∃ i j, xs = [.int i, .int j] ∧ Q (.int (if j > i then j else i)) H
def rMinN (K : PySem.W.Frag) : List V → Hp → VK → Prop := fun xs H Q => rMin K xs H Q ∨ ∃ i j, xs = [.int i, .int j] ∧ Q (.int (if j < i then j else i)) H
theorem cr_maxN (hc : X.calm = true) : CallR X (.builtin "max") (rMaxN X.K) := (cr_max hc).or (call_max2 hc)
theorem cr_minN (hc : X.calm = true) : CallR X (.builtin "min") (rMinN X.K) := (cr_min hc).or (call_min2 hc)
theorem cn_max : CallN X (rMaxN X.K) bMax := by
  intro c ds z vs Q S r e h
  unfold bMax at e
  split at e
  · cases q : intsOf _ with
    | none => rw [q] at e; cases e
    | some bs =>
      rw [q] at e
      have e' : (if bs = [] then none else some (PyData.int (maxL bs))) = some z := e
      split at e'
      · cases e'
      · rename_i hne
        cases e'
        cases r with
        | cons r1 rr =>
          cases rr
          obtain ⟨a, us, rfl, ha, ra⟩ := r1.list
          rw [intsOf_eq q] at ra
          have := ra.ints'
          subst this
          refine .inl ⟨a, bs, rfl, SqL.of ha, List.length_pos_iff.mpr hne, fun m hm hle => ?_⟩
          have h1 := hle _ (maxL_mem hne)
          have h2 := maxL_ge hm
          have : m = maxL bs := by omega
          subst this
          exact fin0 S h Rep.mkInt
  · cases e
    cases r with
    | cons r1 rr =>
      cases rr with
      | cons r2 rr =>
        cases rr
        have e1 := r1.int
        have e2 := r2.int
        subst e1 e2
        refine .inr ⟨_, _, rfl, ?_⟩
        rename_i i j
        have : (if j > i then j else i) = max i j := by split <;> omega
        rw [this]
        exact fin0 S h Rep.mkInt
  · cases e
theorem cn_min : CallN X (rMinN X.K) bMin := by
  intro c ds z vs Q S r e h
  unfold bMin at e
  split at e
  · cases q : intsOf _ with
    | none => rw [q] at e; cases e
    | some bs =>
      rw [q] at e
      have e' : (if bs = [] then none else some (PyData.int (minL bs))) = some z := e
      split at e'
      · cases e'
      · rename_i hne
        cases e'
        cases r with
        | cons r1 rr =>
          cases rr
          obtain ⟨a, us, rfl, ha, ra⟩ := r1.list
          rw [intsOf_eq q] at ra
          have := ra.ints'
          subst this
          refine .inl ⟨a, bs, rfl, SqL.of ha, List.length_pos_iff.mpr hne, fun m hm hle => ?_⟩
          have h1 := hle _ (minL_mem hne)
          have h2 := minL_le hm
          have : m = minL bs := by omega
          subst this
          exact fin0 S h Rep.mkInt
  · cases e
    cases r with
    | cons r1 rr =>
      cases rr with
      | cons r2 rr =>
        cases rr
        have e1 := r1.int
        have e2 := r2.int
        subst e1 e2
        refine .inr ⟨_, _, rfl, ?_⟩
        rename_i i j
        have : (if j < i then j else i) = min i j := by split <;> omega
        rw [this]
        exact fin0 S h Rep.mkInt
  · cases e
def bAbs : List PyData → Option PyData
  | [.int i] => some (.int (i.natAbs : Nat))
  | _ => none
theorem cn_abs : CallN X (fun xs H Q => ∃ i, xs = [.int i] ∧ Q (.int (if i < 0 then -i else i)) H) bAbs := by
  intro c ds z vs Q S r e h
  unfold bAbs at e
  split at e
  · cases e
    cases r with
    | cons r1 rr =>
      cases rr
      have e1 := r1.int
      subst e1
      rename_i i
      refine ⟨i, rfl, ?_⟩
      have : (if i < 0 then -i else i) = (i.natAbs : Nat) := by split <;> omega
      rw [this]
      exact fin0 S h Rep.mkInt
  · cases e
def bInt : List PyData → Option PyData
  | [.int i] => some (.int i)
  | [.bool k] => some (.int (if k then 1 else 0))
  | _ => none
theorem cn_int : CallN X (fun xs H Q => (∃ i, xs = [.int i] ∧ Q (.int i) H) ∨ ∃ k, xs = [.bl k] ∧ Q (.int (if k then 1 else 0)) H) bInt := by
  intro c ds z vs Q S r e h
  unfold bInt at e
  split at e
  · cases e
    cases r with
    | cons r1 rr =>
      cases rr
      have e1 := r1.int
      subst e1
      exact .inl ⟨_, rfl, fin0 S h Rep.mkInt⟩
  · cases e
    cases r with
    | cons r1 rr =>
      cases rr
      have e1 := r1.bool
      subst e1
      exact .inr ⟨_, rfl, fin0 S h Rep.mkInt⟩
  · cases e
def bList : List PyData → Option PyData
  | [.list xs] => some (.list xs)
  | [.tuple xs] => some (.list xs)
  | _ => none
theorem cn_list : CallN X (fun xs H Q => ∃ p ys, xs = [.ref p] ∧ (SqL X.K H p ys ∨ SqT X.K H p ys) ∧ ∀ l, H l = none → Q (.ref l) (upd H l (.lst ys))) bList := by
  intro c ds z vs Q S r e h
  unfold bList at e
  split at e
  · cases e
    cases r with
    | cons r1 rr =>
      cases rr
      obtain ⟨a, us, rfl, ha, ra⟩ := r1.list
      exact ⟨a, us, rfl, .inl (SqL.of ha), finLst S h ra⟩
  · cases e
    cases r with
    | cons r1 rr =>
      cases rr
      obtain ⟨a, us, rfl, ha, ra⟩ := r1.tuple
      exact ⟨a, us, rfl, .inr ha, finLst S h ra⟩
  · cases e
def bTuple : List PyData → Option PyData
  | [.list xs] => some (.tuple xs)
  | [.tuple xs] => some (.tuple xs)
  | _ => none
theorem cn_tuple : CallN X (fun xs H Q => ∃ p ys, xs = [.ref p] ∧ ((SqL X.K H p ys ∧ ∀ l, H l = none → Q (.ref l) (upd H l (.tup ys))) ∨ (SqT X.K H p ys ∧ Q (.ref p) H))) bTuple := by
  intro c ds z vs Q S r e h
  unfold bTuple at e
  split at e
  · cases e
    cases r with
    | cons r1 rr =>
      cases rr
      obtain ⟨a, us, rfl, ha, ra⟩ := r1.list
      exact ⟨a, us, rfl, .inl ⟨SqL.of ha, finTup S h ra⟩⟩
  · cases e
    cases r with
    | cons r1 rr =>
      cases rr
      obtain ⟨a, us, e1, ha, ra⟩ := r1.tuple
      subst e1
      exact ⟨a, us, rfl, .inr ⟨ha, fin0 S h (tup_refl r1 fun _ z => by cases z)⟩⟩
  · cases e
/-! ### isinstance -/
def tyN : PyData → String
  | .none => "NoneType"
  | .bool _ => "bool"
  | .int _ => "int"
  | .str _ => "str"
  | .list _ => "list"
  | .tuple _ => "tuple"
  | .dict _ => "dict"
def isTy (T : String) (d : PyData) : Bool := tyN d == T || (T == "int" && tyN d == "bool")
theorem Rep1.tyX {K : PySem.W.Frag} {H : Hp} {F : Fz} {d : PyData} {v : V} (r : Rep1 K H F d v) : TyX K H v (.type (tyN d)) := by
  cases d with
  | none => rw [r.none]; exact .base .non
  | bool b => rw [r.bool]; exact .base (.bl _)
  | int b => rw [r.int]; exact .base (.int _)
  | str b => rw [r.str]; exact .base (.str _)
  | list b =>
    obtain ⟨a, us, rfl, ha, ra⟩ := r.list
    exact .base (.lst ha)
  | tuple b =>
    rcases r with r | ⟨a, ws, xs, e, _⟩
    · unfold Rep at r
      obtain ⟨a, us, rfl, f, ra⟩ := r
      rcases f with ⟨f, hq⟩ | f
      · exact .base (.tup hq)
      · rcases f (fun _ => Option.none) with z | ⟨o, its, n, z1, z2, _⟩
        · rcases z with z | ⟨o, z⟩ <;> cases z
        · exact .kTuple z1 z2
    · cases e
  | dict b =>
    obtain ⟨a, ws, rfl, _, ⟨o, kx, h, _⟩, _⟩ := r.dict.dict
    exact .fDict h
def kitAll (T : String) : Bool := decide (kitB "NoneType" T = some ("NoneType" == T || (T == "int" && "NoneType" == "bool"))) && (decide (kitB "bool" T = some ("bool" == T || (T == "int" && "bool" == "bool"))) && (decide (kitB "int" T = some ("int" == T || (T == "int" && "int" == "bool"))) &&
  (decide (kitB "str" T = some ("str" == T || (T == "int" && "str" == "bool"))) && (decide (kitB "list" T = some ("list" == T || (T == "int" && "list" == "bool"))) && (decide (kitB "tuple" T = some ("tuple" == T || (T == "int" && "tuple" == "bool"))) && decide (kitB "dict" T = some ("dict" == T || (T == "int" && "dict" == "bool")))))))) 
theorem kitAll_ok {T : String} (h : kitAll T = true) (d : PyData) : kitB (tyN d) T = some (isTy T d) := by
  unfold kitAll at h
  simp only [Bool.and_eq_true, decide_eq_true_eq] at h
  obtain ⟨h1, h2, h3, h4, h5, h6, h7⟩ := h
  cases d <;> assumption
theorem kit_int : kitAll "int" = true := by decide +kernel
theorem kit_bool : kitAll "bool" = true := by decide +kernel
theorem kit_str : kitAll "str" = true := by decide +kernel
theorem kit_list : kitAll "list" = true := by decide +kernel
theorem kit_tuple : kitAll "tuple" = true := by decide +kernel
theorem kit_dict : kitAll "dict" = true := by decide +kernel
def nIsi (T : String) (p : Opd) : NExp := fun n => (p.run n).bind fun a n1 => match a.get n1 with
  | some d => .ok (.bool (isTy T d)) n1
  | none => .bad
theorem ne_isi {T : String} {x : Str} {p0 p1 : Pos} (k : kitAll T = true) (ha : NO X W e p) (hm : X.mg "isinstance" = none) (hm2 : X.mg x = none) (hv : bootBuiltins x = some (.type T)) (hg : Gl X "isinstance" := by rfl) (hg2 : Gl X x := by rfl) (hn : x ≠ "__name__" := by decide) (hdb : (x == ("__debug__" : Str)) = false := by decide)
    (he : starEach [e, .Name x p1] X.env = (false, eval e X.env) :: starEach [.Name x p1] X.env := by rfl) (he2 : starEach [.Name x p1] X.env = (false, eval (.Name x p1) X.env) :: starEach [] X.env := by rfl) (hpl : (backTo pos (starEach [.Name x p1] X.env)).any (·.1) = false := by rfl) :
    NE X W (.Call (.Name "isinstance" p0) [e, .Name x p1] [] pos) (nIsi T p) := by
  obtain ⟨t, pa, s⟩ := ha.ex
  refine ⟨_, pe_callB call_isi hg hm (by decide +kernel) (pa_cons pa (pa_cons (pe_bltn (v := .ty T) hg2 hm2 hv rfl hn hdb) pa_nil he2) he) (by decide) (by decide) he hpl, fun c Q S h => ?_⟩
  refine s c _ S (Pst.seq (rel := relV X.K) (rel' := relE X.K) mono_E h fun a n1 vx H1 F1 _ st1 S1 rx h1 => ?_)
  cases ea : a.get n1 with
  | none => rw [ea] at h1; exact h1.elim
  | some d =>
    rw [ea] at h1
    exact ⟨vx, .ty T, .type (tyN d), .type T, isTy T d, rfl, .ty T, (S1.avGet rx ea).tyX, kit_ty (kitAll_ok k d), h1 _ H1 F1 (Step.refl _) S1 Rep.mkBool⟩
/-! ### the methods of a held list -/
def heldAt (n : NSt) (i : Nat) : Option (Sl × List PyData) := match n[i]? with
  | some (some sl) => sl.list?.map fun xs => (sl, xs)
  | _ => none
theorem heldAt_ok {n : NSt} {i : Nat} {sl : Sl} {xs : List PyData} (h : heldAt n i = some (sl, xs)) : n[i]? = some (some sl) ∧ sl.list? = some xs := by
  unfold heldAt at h
  split at h
  · rename_i s e
    cases q : s.list? with
    | none => rw [q] at h; cases h
    | some ys =>
      rw [q] at h
      cases h
      exact ⟨e, q⟩
  · cases h
theorem Sim.tyHeld {K : PySem.W.Frag} {c : Cf} (S : Sim K c) {i : Nat} {sl : Sl} {xs : List PyData} (h : heldAt c.n i = some (sl, xs)) :
    sl.held = true ∧ ∃ a ws, c.s[i]? = some (some (.ref a)) ∧ ¬ c.F a ∧ c.H a = some (.lst ws) ∧ Reps K c.H c.F xs ws ∧ tyV K "list" (.ref a) c.H := by
  obtain ⟨e1, e2⟩ := heldAt_ok h
  obtain ⟨hh, a, ws, es, nf, hH, r⟩ := S.held e1 e2
  exact ⟨hh, a, ws, es, nf, hH, r, .inl ⟨rfl, ws, SqL.of hH⟩⟩
/-- o.m(e): what becomes of the list, what is handed back -/
def nMeth1 (i : Nat) (m : List PyData → PyData → Option (List PyData × PyData)) (p : Opd) : NExp := fun n => match heldAt n i with
  | none => .bad
  | some _ => (p.run n).bind fun a n1 => match heldAt n1 i, a.get n1 with
    | some (sl, xs), some d => (match m xs d with
      | some (ys, z) => .ok z (n1.set i (some (sl.put ys)))
      | none => .bad)
    | _, _ => .bad
def Meth1 (X : Cx) (r : V → List V → Hp → VK → Prop) (m : List PyData → PyData → Option (List PyData × PyData)) : Prop := ∀ (c : Cf) (xs ys : List PyData) (d z : PyData) (a : Addr) (ws : List V) (vx : V) (Q : VK), c.H a = some (.lst ws) → Reps X.K c.H c.F xs ws → Rep1 X.K c.H c.F d vx → m xs d = some (ys, z) →
  (∀ us vz, Reps X.K c.H c.F ys us → Rep X.K c.H c.F z vz → Q vz (upd c.H a (.lst us))) → r (.ref a) [vx] c.H Q
theorem meth1_st {i : Nat} {m : List PyData → PyData → Option (List PyData × PyData)} {r : V → List V → Hp → VK → Prop} {t : TE} (sa : ∀ (c : Cf) (Q : VK), Sim X.K c → Pst X.K X.mg W (relV X.K) c Q (p.run c.n) → t c.s c.H Q) (no : Meth1 X r m)
    {c : Cf} {Q : VK} (S : Sim X.K c) (h : Pst X.K X.mg W (relE X.K) c Q (nMeth1 i m p c.n)) : tBM X.K "list" r (tVar i) (tCons t tNil) c.s c.H Q := by
  unfold nMeth1 at h
  cases q0 : heldAt c.n i with
  | none => rw [q0] at h; exact h.elim
  | some q =>
    obtain ⟨sl0, xs0⟩ := q
    rw [q0] at h
    obtain ⟨_, a0, ws0, es0, _, _, _, ty0⟩ := S.tyHeld q0
    refine ⟨_, es0, ty0, ?_⟩
    refine sa c _ S (Pst.seq (rel := relV X.K) (rel' := relE X.K) mono_E h fun av n1 vx H1 F1 _ st1 S1 rx h1 => ?_)
    cases q1 : heldAt n1 i with
    | none => rw [q1] at h1; exact h1.elim
    | some q =>
      obtain ⟨sl, xs⟩ := q
      cases ea : av.get n1 with
      | none => rw [q1, ea] at h1; exact h1.elim
      | some d =>
        rw [q1, ea] at h1
        dsimp only at h1
        cases em : m xs d with
        | none => rw [em] at h1; exact h1.elim
        | some yz =>
          obtain ⟨ys, z⟩ := yz
          rw [em] at h1
          obtain ⟨hh, a, ws, es, nf, hH, rr, _⟩ := S1.tyHeld q1
          have es' : c.s[i]? = some (some (V.ref a)) := es
          rw [es0] at es'
          cases es'
          refine no ⟨n1, c.s, H1, F1⟩ xs ys d z a0 ws vx Q hH rr (S1.avGet rx ea) em fun us vz ru rz => ?_
          obtain ⟨S2, st2⟩ := S1.write (heldAt_ok q1).1 hh es nf hH ru
          exact h1 vz _ F1 st2 S2 (st2.rep S1 rz)
theorem ne_meth1 (i : Nat) {x m0 : Str} {p0 apos : Pos} {id : String} {r : V → List V → Hp → VK → Prop} {m : List PyData → PyData → Option (List PyData × PyData)} (slot : Slot "list" m0 id) (hty : typeOf (.builtin id) = pure (.type "method_descriptor")) (hm : MtR X id r) (no : Meth1 X r m) (ha : NO X W e p)
    (hN : X.N[i]? = some x := by rfl) (hv : Vis X.env.scope x := by first | exact Or.inl rfl | exact Or.inr (Or.inl rfl) | exact Or.inr (Or.inr rfl)) (hd : (x == ("__debug__" : Str)) = false := by decide) (hcd : (x == ("__classdict__" : Str)) = false := by decide)
    (hbase : attributeBase (.Name x p0) m0 X.env (eval (.Name x p0) X.env) = eval (.Name x p0) X.env := by rfl)
    (hfew : ((backTo pos (starEach [e] X.env)).all (fun x => !x.1) && (backToKw pos (keywordEach [] X.env)).all (fun x => x.1.isSome)
      && decide ([e].length + ([] : List Keyword).length + (if ([] : List Keyword).isEmpty then 0 else 1) < 30)) = true := by rfl)
    (hline : (apos.endLine == pos.line) = true := by rfl) (hs : starEach [e] X.env = (false, eval e X.env) :: starEach [] X.env := by rfl) (hplain : (backTo pos (starEach [] X.env)).any (·.1) = false := by rfl) :
    NE X W (.Call (.Attribute (.Name x p0) m0 apos) [e] [] pos) (nMeth1 i m p) := by
  obtain ⟨t, pa, s⟩ := ha.ex
  exact ⟨_, pe_bm PySem.F.plainAttrs_list slot hty hm (pe_var hN hv hd hcd) (pa_cons pa pa_nil hs) hbase hfew hline hs hplain, fun c Q S h => meth1_st s no S h⟩
def mAppend (xs : List PyData) (d : PyData) : Option (List PyData × PyData) := if xs.length < sizeLine ∧ noList d = true then some (xs ++ [d], .none) else none
where noList : PyData → Bool
  | _ => true
/-- .. an item is appended: a value -/
def nAppend (i : Nat) (f : NExp) : NExp := fun n => match heldAt n i with
  | none => .bad
  | some _ => (f n).bind fun d n1 => match heldAt n1 i with
    | some (sl, xs) => if xs.length < sizeLine then .ok .none (n1.set i (some (sl.put (xs ++ [d])))) else .bad
    | none => .bad
theorem ne_append (i : Nat) {x : Str} {p0 apos : Pos} {f : NExp} (ha : NE X W e f)
    (hN : X.N[i]? = some x := by rfl) (hv : Vis X.env.scope x := by first | exact Or.inl rfl | exact Or.inr (Or.inl rfl) | exact Or.inr (Or.inr rfl)) (hd : (x == ("__debug__" : Str)) = false := by decide) (hcd : (x == ("__classdict__" : Str)) = false := by decide)
    (hbase : attributeBase (.Name x p0) "append" X.env (eval (.Name x p0) X.env) = eval (.Name x p0) X.env := by rfl)
    (hfew : ((backTo pos (starEach [e] X.env)).all (fun x => !x.1) && (backToKw pos (keywordEach [] X.env)).all (fun x => x.1.isSome)
      && decide ([e].length + ([] : List Keyword).length + (if ([] : List Keyword).isEmpty then 0 else 1) < 30)) = true := by rfl)
    (hline : (apos.endLine == pos.line) = true := by rfl) (hs : starEach [e] X.env = (false, eval e X.env) :: starEach [] X.env := by rfl) (hplain : (backTo pos (starEach [] X.env)).any (·.1) = false := by rfl) :
    NE X W (.Call (.Attribute (.Name x p0) "append" apos) [e] [] pos) (nAppend i f) := by
  obtain ⟨t, pa, s⟩ := ha.ex
  refine ⟨_, pe_bm PySem.F.plainAttrs_list PySem.F.slot_list_append PySem.F.type_list_append mt_append (pe_var hN hv hd hcd) (pa_cons pa pa_nil hs) hbase hfew hline hs hplain, fun c Q S h => ?_⟩
  unfold nAppend at h
  cases q0 : heldAt c.n i with
  | none => rw [q0] at h; exact h.elim
  | some q =>
    obtain ⟨sl0, xs0⟩ := q
    rw [q0] at h
    obtain ⟨_, a0, ws0, es0, _, _, _, ty0⟩ := S.tyHeld q0
    refine ⟨_, es0, ty0, ?_⟩
    refine s c _ S (Pst.seq (rel := relE X.K) (rel' := relE X.K) mono_E h fun d n1 vx H1 F1 _ st1 S1 rx h1 => ?_)
    cases q1 : heldAt n1 i with
    | none => rw [q1] at h1; exact h1.elim
    | some q =>
      obtain ⟨sl, xs⟩ := q
      rw [q1] at h1
      dsimp only at h1
      split at h1
      · rename_i hz
        obtain ⟨hh, a, ws, es, nf, hH, rr, _⟩ := S1.tyHeld q1
        have es' : c.s[i]? = some (some (V.ref a)) := es
        rw [es0] at es'
        cases es'
        refine ⟨a0, ws, vx, rfl, rfl, hH, by rw [rr.length]; exact hz, ?_⟩
        obtain ⟨S2, st2⟩ := S1.write (heldAt_ok q1).1 hh es nf hH (rr.append (Reps.cons rx Reps.nil))
        exact h1 .non _ F1 st2 S2 Rep.mkNone
      · exact h1.elim
/-- o.pop() -/
def nPop (i : Nat) : NExp := fun n => match heldAt n i with
  | some (sl, xs) => (match xs[xs.length - 1]? with
    | some d => .ok d (n.set i (some (sl.put xs.dropLast)))
    | none => .bad)
  | none => .bad
theorem ne_pop (i : Nat) {x : Str} {p0 apos : Pos}
    (hN : X.N[i]? = some x := by rfl) (hv : Vis X.env.scope x := by first | exact Or.inl rfl | exact Or.inr (Or.inl rfl) | exact Or.inr (Or.inr rfl)) (hd : (x == ("__debug__" : Str)) = false := by decide) (hcd : (x == ("__classdict__" : Str)) = false := by decide)
    (hbase : attributeBase (.Name x p0) "pop" X.env (eval (.Name x p0) X.env) = eval (.Name x p0) X.env := by rfl) (hline : (apos.endLine == pos.line) = true := by rfl) :
    NE X W (.Call (.Attribute (.Name x p0) "pop" apos) [] [] pos) (nPop i) := by
  refine ⟨_, pe_bm0 PySem.F.plainAttrs_list PySem.F.slot_list_pop PySem.F.type_list_pop mt_pop (pe_var hN hv hd hcd) hbase hline, fun c Q S h => ?_⟩
  unfold nPop at h
  cases q0 : heldAt c.n i with
  | none => rw [q0] at h; exact h.elim
  | some q =>
    obtain ⟨sl, xs⟩ := q
    rw [q0] at h
    dsimp only at h
    obtain ⟨hh, a, ws, es, nf, hH, rr, ty⟩ := S.tyHeld q0
    cases ed : xs[xs.length - 1]? with
    | none => rw [ed] at h; exact h.elim
    | some d =>
      rw [ed] at h
      obtain ⟨v, ev, rv⟩ := rr.get ed
      refine ⟨_, es, ty, a, ws, v, rfl, rfl, hH, by rw [rr.length]; exact ev, ?_⟩
      obtain ⟨S2, st2⟩ := S.write (heldAt_ok q0).1 hh es nf hH rr.dropLast
      exact h v _ c.F st2 S2 (st2.rep S rv)
/-- list(reversed(o)) -/
def nLstRev (p : Opd) : NSt → R (List PyData) := fun n => (p.run n).bind fun a n1 => match a.get n1 with
  | some (.list xs) => .ok xs.reverse n1
  | _ => .bad
theorem neo_listRev {p0 p2 pos2 : Pos} (hc : X.calm = true) (hm : X.mg "list" = none) (hm2 : X.mg "reversed" = none) (ha : NO X W e p) (hg : Gl X "list" := by rfl) (hg2 : Gl X "reversed" := by rfl)
    (hs : starEach [e] X.env = (false, eval e X.env) :: starEach [] X.env := by rfl)
    (hs2 : starEach [.Call (.Name "reversed" p2) [e] [] pos2] X.env = (false, eval (.Call (.Name "reversed" p2) [e] [] pos2) X.env) :: starEach [] X.env := by rfl) :
    NEo X W (.Call (.Name "list" p0) [.Call (.Name "reversed" p2) [e] [] pos2] [] pos) (nLstRev p) := by
  obtain ⟨t, pa, s⟩ := ha.ex
  refine ⟨_, pe_listRev hc hg hm hg2 hm2 pa hs hs2, fun c Q S h => ?_⟩
  refine s c _ S (Pst.seq (rel := relV X.K) (rel' := relO X.K) mono_O h fun a n1 vx H1 F1 _ st1 S1 rx h1 => ?_)
  cases ea : a.get n1 with
  | none => rw [ea] at h1; exact h1.elim
  | some d =>
    rw [ea] at h1
    cases d with
    | list xs =>
      obtain ⟨b, ws, rfl, hH, rr⟩ := (S1.avGet rx ea).list
      refine ⟨b, ws, rfl, SqL.of hH, fun q hq => ?_⟩
      obtain ⟨S2, st2, r2⟩ := S1.newLst (p := q) hq rr.reverse
      exact h1 _ _ _ st2 S2 r2
    | _ => exact h1.elim
/-- list(x), a list of one's own -/
def nListO (p : Opd) : NSt → R (List PyData) := fun n => (p.run n).bind fun a n1 => match a.get n1 with
  | some (.list xs) => .ok xs n1
  | some (.tuple xs) => .ok xs n1
  | _ => .bad
theorem neo_list {x : Expr} {p0 : Pos} (hm : X.mg "list" = none) (ha : NO X W x p) (hg : Gl X "list" := by rfl) (he : starEach [x] X.env = (false, eval x X.env) :: starEach [] X.env := by rfl) (hpl : (backTo pos (starEach [] X.env)).any (·.1) = false := by rfl) :
    NEo X W (.Call (.Name "list" p0) [x] [] pos) (nListO p) := by
  obtain ⟨t, pa, s⟩ := ha.ex
  refine ⟨_, pe_callTy call_list_of hg hm boot_list (pa_cons pa pa_nil he) (by decide) (by decide) he hpl, fun c Q S h => ?_⟩
  refine s c _ S (Pst.seq (rel := relV X.K) (rel' := relO X.K) mono_O h fun a n1 vx H1 F1 _ st1 S1 rx h1 => ?_)
  cases ea : a.get n1 with
  | none => rw [ea] at h1; exact h1.elim
  | some d =>
    rw [ea] at h1
    cases d with
    | list xs =>
      obtain ⟨b, ws, rfl, hH, rr⟩ := (S1.avGet rx ea).list
      refine ⟨b, ws, rfl, .inl (SqL.of hH), fun q hq => ?_⟩
      obtain ⟨S2, st2, r2⟩ := S1.newLst (p := q) hq rr
      exact h1 _ _ _ st2 S2 r2
    | tuple xs =>
      obtain ⟨b, ws, rfl, hH, rr⟩ := (S1.avGet rx ea).tuple
      refine ⟨b, ws, rfl, .inr hH, fun q hq => ?_⟩
      obtain ⟨S2, st2, r2⟩ := S1.newLst (p := q) hq rr
      exact h1 _ _ _ st2 S2 r2
    | _ => exact h1.elim
/-- any operator that makes a list, a list of one's own -/
def Op2O (X : Cx) (r : R2) (o : PyData → PyData → Option (List PyData)) : Prop := ∀ (c : Cf) (x y : PyData) (zs : List PyData) (vx vy : V) (Q : VK), Sim X.K c → Rep1 X.K c.H c.F x vx → Rep1 X.K c.H c.F y vy → o x y = some zs →
  (∀ v H' F', Step c ⟨c.n, c.s, H', F'⟩ → Sim X.K ⟨c.n, c.s, H', F'⟩ → relO X.K c ⟨c.n, c.s, H', F'⟩ zs v → Q v H') → r vx vy c.H Q
def nOp2O (o : PyData → PyData → Option (List PyData)) (p q : Opd) : NSt → R (List PyData) := fun n => (p.run n).bind fun a n1 => (q.run n1).bind fun b n2 => match a.get n2, b.get n2 with
  | some x, some y => liftO (o x y) n2
  | _, _ => .bad
theorem neo_op {op : Operator} {r : R2} {o : PyData → PyData → Option (List PyData)} (ho : OpR X (binaryOp op) r) (no : Op2O X r o) (ha : NO X W e p) (hb : NO X W e2 q) : NEo X W (.BinOp e op e2 pos) (nOp2O o p q) := by
  obtain ⟨ta, pa, sa⟩ := ha.ex
  obtain ⟨tb, pb, sb⟩ := hb.ex
  refine ⟨tOp r ta tb, pe_op ho pa pb, fun c Q S h => ?_⟩
  refine sa c _ S (Pst.seq (rel := relV X.K) (rel' := relO X.K) mono_O h fun a n1 vx H1 F1 _ st1 S1 rx h1 => ?_)
  refine sb ⟨n1, c.s, H1, F1⟩ _ S1 (Pst.seq (rel := relV X.K) (rel' := relO X.K) mono_O h1 fun b n2 vy H2 F2 _ st2 S2 ry h2 => ?_)
  cases ea : a.get n2 with
  | none => rw [ea] at h2; exact h2.elim
  | some x =>
    cases eb : b.get n2 with
    | none => rw [ea, eb] at h2; exact h2.elim
    | some y =>
      rw [ea, eb] at h2
      dsimp only at h2
      cases eo : o x y with
      | none => rw [eo] at h2; exact h2.elim
      | some z =>
        rw [eo] at h2
        exact no ⟨n2, c.s, H2, F2⟩ x y z vx vy Q S2 (S2.avGet (AVRep.step st2 S1 rfl rx) ea) (S2.avGet ry eb) eo fun v H' F' st' S' r' => h2 v H' F' st' S' r'
def oCatO : PyData → PyData → Option (List PyData)
  | .list a, .list b => if a.length + b.length ≤ sizeLine then some (a ++ b) else none
  | _, _ => none
theorem no_catO : Op2O X (rAddN X.K) oCatO := by
  intro c x y z vx vy Q S rx ry e h
  unfold oCatO at e
  split at e
  · split at e
    · rename_i hz
      cases e
      obtain ⟨a, vs, rfl, ha, ra⟩ := rx.list
      obtain ⟨b, ws, rfl, hb, rb⟩ := ry.list
      refine .inr (.inr (.inr ⟨a, b, vs, ws, rfl, rfl, ha, hb, by rw [ra.length, rb.length]; exact hz, fun p hp => ?_⟩))
      obtain ⟨S2, st2, r2⟩ := S.newLst (p := p) hp (ra.append rb)
      exact h _ _ _ st2 S2 r2
    · cases e
  · cases e
def oRepO : PyData → PyData → Option (List PyData)
  | .list a, .int k => if -(2 ^ 63) ≤ k ∧ k < 2 ^ 63 ∧ a.length * k.toNat ≤ sizeLine then some (List.replicate k.toNat a).flatten else none
  | _, _ => none
theorem no_repO : Op2O X (rMulN X.K) oRepO := by
  intro c x y z vx vy Q S rx ry e h
  unfold oRepO at e
  split at e
  · split at e
    · rename_i hz
      cases e
      obtain ⟨a, vs, rfl, ha, ra⟩ := rx.list
      refine .inr (.inr (.inl ⟨a, _, vs, rfl, ry.int, ha, hz.1, hz.2.1, by rw [ra.length]; exact hz.2.2, fun p hp => ?_⟩))
      obtain ⟨S2, st2, r2⟩ := S.newLst (p := p) hp (ra.rep _)
      exact h _ _ _ st2 S2 r2
    · cases e
  · cases e
/-! ### o.extend(e), o[i] = e -/
def mExtend (xs : List PyData) : PyData → Option (List PyData × PyData)
  | .list zs => if xs.length + zs.length ≤ sizeLine then some (xs ++ zs, .none) else none
  | _ => none
theorem me_extend : Meth1 X rExtend mExtend := by
  intro c xs ys d z a ws vx Q hH r rd e h
  unfold mExtend at e
  split at e
  · split at e
    · rename_i hz
      cases e
      obtain ⟨b, us, rfl, hb, rb⟩ := rd.list
      exact ⟨a, b, ws, us, rfl, rfl, hH, hb, by rw [r.length, rb.length]; exact hz, h _ _ (r.append rb) Rep.mkNone⟩
    · cases e
  · cases e
/-- o[k] = e of a held list -/
def sSetI (i : Nat) (fk fe : NExp) : NStm := fun n => (fe n).st fun d n1 => match heldAt n1 i with
  | none => .bad
  | some _ => (fk n1).st fun k n2 => match heldAt n2 i, k with
    | some (sl, xs), .int j => (match ixN xs.length j with
      | some m => .nx (n2.set i (some (sl.put (xs.set m d))))
      | none => .bad)
    | _, _ => .bad
theorem ns_seti (i : Nat) {x : Str} {k : Expr} {p0 pos2 : Pos} {fk fe : NExp} (he : NE X W e fe) (hk : NE X W k fk)
    (hN : X.N[i]? = some x := by rfl) (hv : Vis X.env.scope x := by first | exact Or.inl rfl | exact Or.inr (Or.inl rfl) | exact Or.inr (Or.inr rfl)) (hd : (x == ("__debug__" : Str)) = false := by decide) (hcd : (x == ("__classdict__" : Str)) = false := by decide)
    (ha : ∀ v, assign (.Subscript (.Name x p0) k pos2) X.env v = (do
      let ov ← holding [v] (eval (.Name x p0) X.env)
      let iv ← holding [v, ov] (eval k X.env)
      standAt pos2
      holding [v, ov, iv] (setItem ov iv v)
      release [v, ov, iv] []) := by intro _; rfl)
    (hs : swapsWithSole [.Subscript (.Name x p0) k pos2] e pos.line X.env = pure false := by rfl) (hw : swappedStores [.Subscript (.Name x p0) k pos2] e X.env = pure none := by rfl) (h1 : (assignEach [.Subscript (.Name x p0) k pos2] X.env).map (·.2) = [assign (.Subscript (.Name x p0) k pos2) X.env] := by rfl) :
    NS X W (.Assign [.Subscript (.Name x p0) k pos2] e pos) (sSetI i fk fe) := by
  obtain ⟨te, pe, se⟩ := he.ex
  obtain ⟨tk, pk, sk⟩ := hk.ex
  refine ⟨_, ps_asg pe (pg_sub (pe_var hN hv hd hcd) pk set_list ha) hs hw h1, fun c D S h => ?_⟩
  refine se c _ S (Pst.seqS (rel := relE X.K) h fun d n1 vx H1 F1 _ st1 S1 rx h1 => ?_)
  cases q0 : heldAt n1 i with
  | none => rw [q0] at h1; exact h1.elim
  | some q =>
    obtain ⟨sl0, xs0⟩ := q
    rw [q0] at h1
    obtain ⟨_, a0, ws0, es0, _⟩ := S1.tyHeld q0
    refine ⟨_, es0, ?_⟩
    refine sk ⟨n1, c.s, H1, F1⟩ _ S1 (Pst.seqS (rel := relE X.K) h1 fun dk n2 vk H2 F2 _ st2 S2 rk h2 => ?_)
    cases q1 : heldAt n2 i with
    | none => rw [q1] at h2; exact h2.elim
    | some q =>
      obtain ⟨sl, xs⟩ := q
      rw [q1] at h2
      cases dk with
      | int j =>
        dsimp only at h2
        cases em : ixN xs.length j with
        | none => rw [em] at h2; exact h2.elim
        | some m =>
          rw [em] at h2
          obtain ⟨hh, a, ws, es, nf, hH, rr, _⟩ := S2.tyHeld q1
          have es' : c.s[i]? = some (some (V.ref a)) := es
          have es0' : c.s[i]? = some (some (V.ref a0)) := es0
          rw [es0'] at es'
          cases es'
          refine ⟨a0, ws, j, m, rfl, Rep.int (K := X.K) (H := H2) (F := F2) rk, hH, by rw [rr.length]; exact em, ?_⟩
          obtain ⟨S3, st3⟩ := S2.write (heldAt_ok q1).1 hh es nf hH (rr.set m (st2.rep S1 rx))
          exact h2 c.s _ F2 st3 S3
      | _ => exact h2.elim
/-- x += e of a value -/
def sAug (i : Nat) (o : PyData → PyData → Option PyData) (q : Opd) : NStm := fun n => match n[i]? with
  | some (some (.val x)) => (q.run n).st fun b n1 => match b.get n1 with
    | some y => (match o x y with
      | some z => if notLent n1 i = true then .nx (n1.set i (some (.val z))) else .bad
      | none => .bad)
    | none => .bad
  | _ => .bad
theorem ns_aug (i : Nat) {x : Str} {op : Operator} {ti : TIp} {o : PyData → PyData → Option PyData} {p0 : Pos} (ho : PIp X op ti) (no : Op2 X ti o) (hb : NO X W e q) (hN : X.N.Nodup) (hi : X.N[i]? = some x) (hx : Loc X.env.scope x)
    (hf : X.fn x = true ∨ X.env.scope.names.lookup x = some .local := by first | exact .inl rfl | exact .inr rfl | assumption) : NS X W (.AugAssign (.Name x p0) op e pos) (sAug i o q) := by
  obtain ⟨t, pe, s⟩ := hb.ex
  refine ⟨tAug i t ti, ps_aug hN hi hx pe ho hf, fun c D S h => ?_⟩
  unfold sAug at h
  split at h
  · rename_i dx e1
    obtain ⟨vx, e2, rx⟩ := S.slot i _ e1
    refine ⟨vx, e2, ?_⟩
    refine s c _ S (Pst.seqS (rel := relV X.K) h fun b n1 vy H1 F1 _ st1 S1 ry h1 => ?_)
    cases eb : b.get n1 with
    | none => rw [eb] at h1; exact h1.elim
    | some y =>
      rw [eb] at h1
      dsimp only at h1
      cases eo : o dx y with
      | none => rw [eo] at h1; exact h1.elim
      | some z =>
        rw [eo] at h1
        dsimp only at h1
        split at h1
        · rename_i hl
          refine no ⟨n1, c.s, H1, F1⟩ dx y z vx vy _ S1 (.inl (st1.rep S rx)) (S1.avGet ry eb) eo fun v H' F' st' S' r' => ?_
          obtain ⟨S3, st3⟩ := Sim.setVal S' hl r'
          exact h1 _ H' F' (st'.trans st3) S3
        · exact h1.elim
  · exact h.elim
theorem pip_of {op : Operator} {r : R2} (h : OpR X (inplaceOp op) r) : PIp X op r := fun pins s σ H x y v u Q I rx ry q => h pins s σ H x y v u Q I rx ry q
end
end NL
end L2
/-! NL8: two stores at one stroke, raise, try with its flags, a def chosen from a list. -/
namespace L2
namespace NL
open PySem PySem.Spec PyProof.Rows

/-! ### a, b = x, y -/
inductive EV where
  | v (d : PyData) | w (xs : List PyData)
def EV.sl : EV → Sl
  | .v d => .val d
  | .w xs => .own xs
def relEV (K : PySem.W.Frag) : Rel EV V := fun c0 c e v => match e with
  | .v d => Rep K c.H c.F d v
  | .w xs => relO K c0 c xs v
theorem mono_EV {K : PySem.W.Frag} : Mono (relEV K) := fun c c1 c2 a b st h => by
  cases a with
  | v d => exact h
  | w xs => exact mono_O c c1 c2 xs b st h
structure NV (X : Cx) (W : WX) (e : Expr) (f : NSt → R EV) : Prop where
  ex : ∃ t, PE X e t ∧ ∀ (c : Cf) (Q : VK), Sim X.K c → Pst X.K X.mg W (relEV X.K) c Q (f c.n) → t c.s c.H Q
def evV (f : NExp) : NSt → R EV := fun n => (f n).bind fun d n' => .ok (.v d) n'
def evO (f : NSt → R (List PyData)) : NSt → R EV := fun n => (f n).bind fun d n' => .ok (.w d) n'
section
variable {X : Cx} {W : WX} {e : Expr}
theorem nv_v {f : NExp} (h : NE X W e f) : NV X W e (evV f) := by
  obtain ⟨t, pe, s⟩ := h.ex
  exact ⟨t, pe, fun c Q S p => s c Q S (Pst.seq (rel := relE X.K) (rel' := relEV X.K) mono_EV p fun d n' v H' F' _ st S' r q => q v H' F' (Step.refl _) S' r)⟩
theorem nv_o {f : NSt → R (List PyData)} (h : NEo X W e f) : NV X W e (evO f) := by
  obtain ⟨t, pe, s⟩ := h.ex
  refine ⟨t, pe, fun c Q S p => s c Q S ?_⟩
  unfold evO at p
  cases q : f c.n with
  | ok xs n' =>
    rw [q] at p
    exact p
  | err x n' => rw [q] at p; exact p
  | bad => rw [q] at p; exact p
theorem relO.step {K : PySem.W.Frag} {c0 c1 c2 : Cf} {xs : List PyData} {v : V} (r : relO K c0 c1 xs v) (S1 : Sim K c1) (st : Step c1 c2) : relO K c0 c2 xs v := by
  obtain ⟨a, ws, e, h0, nf, hH, nh, rr⟩ := r
  have hn : c1.H a ≠ none := by rw [hH]; simp
  refine ⟨a, ws, e, h0, fun f => ?_, (st.keep a hn nh).trans hH, fun h => ?_, st.reps S1 rr⟩
  · rcases st.fn a f with z | z | z
    · exact nf z
    · exact hn z
    · exact nh z.hd
  · rcases st.hd a h with z | z
    · exact nh z
    · exact hn z
theorem relEV.step {K : PySem.W.Frag} {c0 c1 c2 : Cf} {x : EV} {v : V} (r : relEV K c0 c1 x v) (S1 : Sim K c1) (st : Step c1 c2) : relEV K c0 c2 x v := by
  cases x with
  | v d => exact st.rep S1 r
  | w xs => exact relO.step r S1 st
/-- a slot takes what has come -/
theorem Sim.setEV {K : PySem.W.Frag} {c0 c : Cf} (st : Step c0 c) (S : Sim K c) {i : Nat} {x : EV} {v : V} (hl : notLent c.n i = true) (r : relEV K c0 c x v) :
    let c' : Cf := ⟨c.n.set i (some x.sl), c.s.set i (some v), c.H, c.F⟩; Sim K c' ∧ Step c0 c' := by
  cases x with
  | v d =>
    obtain ⟨S', st'⟩ := Sim.setVal S hl r
    exact ⟨S', st.trans st'⟩
  | w xs => exact Sim.setOwn st S hl r
theorem hd_setEV {c : Cf} {i : Nat} {x : EV} {v : V} {b : Addr} (h : (⟨c.n.set i (some x.sl), c.s.set i (some v), c.H, c.F⟩ : Cf).Hd b) : c.Hd b ∨ v = .ref b := by
  obtain ⟨j, sl, e1, e2, e3⟩ := h
  by_cases hj : i = j
  · subst hj
    have hs : i < c.s.length := by
      have := lt_of_get e3
      simpa using this
    have e3' : (c.s.set i (some v))[i]? = some (some (V.ref b)) := e3
    rw [List.getElem?_set_self hs] at e3'
    exact .inr (Option.some.inj (Option.some.inj e3'))
  · have e1' : (c.n.set i (some x.sl))[j]? = some (some sl) := e1
    have e3' : (c.s.set i (some v))[j]? = some (some (V.ref b)) := e3
    rw [List.getElem?_set_ne hj] at e1' e3'
    exact .inl ⟨j, sl, e1', e2, e3'⟩
def sPar (i j : Nat) (fa fb : NSt → R EV) : NStm := fun n => (fa n).st fun x n1 => (fb n1).st fun y n2 => if notLent n2 i = true ∧ notLent n2 j = true then .nx ((n2.set i (some x.sl)).set j (some y.sl)) else .bad
theorem notLent_set {n : NSt} {i j : Nat} {x : EV} (h : notLent n j = true) : notLent (n.set i (some x.sl)) j = true := by
  obtain ⟨hj, nl⟩ := notLent_ok h
  unfold notLent
  by_cases e : i = j
  · subst e
    rw [List.getElem?_set_self hj]
    cases x <;> rfl
  · rw [List.getElem?_set_ne e]
    exact h
theorem mono_EVr {K : PySem.W.Frag} : Mono (relEV K) := mono_EV
theorem ns_par (i j : Nat) {x y : Str} {a b : Expr} {fa fb : NSt → R EV} {px py pt pos : Pos} {kt k2 pt2} (hc : X.calm = true) (hN : X.N.Nodup) (hi : X.N[i]? = some x) (hj : X.N[j]? = some y) (hij : i ≠ j)
    (hx : X.env.scope.names.lookup x = some .local) (hy : X.env.scope.names.lookup y = some .local) (ha : NV X W a fa) (hb : NV X W b fb)
    (hw : swappedStores [.Tuple [.Name x px, .Name y py] kt pt] (.Tuple [a, b] k2 pt2) X.env = pure (some [x, y]) := by rfl)
    (hs : swapsWithSole [.Tuple [.Name x px, .Name y py] kt pt] (.Tuple [a, b] k2 pt2) pos.line X.env = pure false := by rfl)
    (h1 : starEach [a, b] X.env = (false, eval a X.env) :: starEach [b] X.env := by rfl) (h2 : starEach [b] X.env = (false, eval b X.env) :: starEach [] X.env := by rfl) :
    NS X W (.Assign [.Tuple [.Name x px, .Name y py] kt pt] (.Tuple [a, b] k2 pt2) pos) (sPar i j fa fb) := by
  obtain ⟨ta, pa, sa⟩ := ha.ex
  obtain ⟨tb, pb, sb⟩ := hb.ex
  refine ⟨_, ps_par hc hN hi hj hij hx hy (pa_cons pa (pa_cons pb pa_nil h2) h1) hw hs, fun c D S h => ?_⟩
  show ta c.s c.H fun u H1 => tb c.s H1 fun v H2 => ∃ v', ∃ w', [u, v] = [v', w'] ∧ D.nx ((c.s.set i (some v')).set j (some w')) H2
  refine sa c _ S ?_
  unfold sPar at h
  cases q : fa c.n with
  | bad => rw [q] at h; exact h
  | err z n' => rw [q] at h; exact fun cls d H' F' s1 S1 r1 => h cls d c.s H' F' s1 S1 r1
  | ok ex n1 =>
    rw [q] at h
    intro u H1 F1 st1 S1 ru
    have h : PstS X.K X.mg W c D ((fb n1).st fun y n2 => if notLent n2 i = true ∧ notLent n2 j = true then .nx ((n2.set i (some ex.sl)).set j (some y.sl)) else .bad) := h
    refine sb ⟨n1, c.s, H1, F1⟩ _ S1 ?_
    cases q2 : fb n1 with
    | bad => rw [q2] at h; exact h
    | err z n' => rw [q2] at h; exact fun cls d H' F' s1 S2 r1 => h cls d c.s H' F' (st1.trans s1) S2 r1
    | ok ey n2 =>
      rw [q2] at h
      intro v H2 F2 st2 S2 rv
      have h : PstS X.K X.mg W c D (if notLent n2 i = true ∧ notLent n2 j = true then .nx ((n2.set i (some ex.sl)).set j (some ey.sl)) else .bad) := h
      refine ⟨u, v, rfl, ?_⟩
      split at h
      · rename_i hl
        have st12 : Step c ⟨n2, c.s, H2, F2⟩ := st1.trans st2
        have ru2 : relEV X.K c ⟨n2, c.s, H2, F2⟩ ex u := relEV.step ru S1 st2
        obtain ⟨S3, st3⟩ := Sim.setEV (c0 := c) (c := ⟨n2, c.s, H2, F2⟩) st12 S2 hl.1 ru2
        have rv3 : relEV X.K c ⟨n2.set i (some ex.sl), c.s.set i (some u), H2, F2⟩ ey v := by
          cases ey with
          | v d => exact rv
          | w ys =>
            obtain ⟨b', ws, e, h0, nf, hH, nh, rr⟩ := rv
            have hc0 : c.H b' = none := Classical.byContradiction fun z => st1.live b' z h0
            refine ⟨b', ws, e, hc0, nf, hH, fun hd => ?_, rr⟩
            rcases hd_setEV (c := ⟨n2, c.s, H2, F2⟩) hd with z | z
            · exact nh z
            · -- the first one stood ahead of the second
              cases ex with
              | v d =>
                have hd' : (⟨n2.set i (some (.val d)), c.s.set i (some u), H2, F2⟩ : Cf).Hd b' := hd
                obtain ⟨k, sl, e1, e2, e3⟩ := hd'
                by_cases hk : i = k
                · subst hk
                  have e1' : (n2.set i (some (.val d)))[i]? = some (some sl) := e1
                  rw [List.getElem?_set_self (notLent_ok hl.1).1] at e1'
                  cases e1'; cases e2
                · have e1' : (n2.set i (some (.val d)))[k]? = some (some sl) := e1
                  have e3' : (c.s.set i (some u))[k]? = some (some (V.ref b')) := e3
                  rw [List.getElem?_set_ne hk] at e1' e3'
                  exact nh ⟨k, sl, e1', e2, e3'⟩
              | w xs =>
                obtain ⟨a', us, ea, _, _, hHa, _, _⟩ := ru
                rw [ea] at z
                cases z
                have h0' : H1 b' = none := h0
                have hHa' : H1 b' = some (.lst us) := hHa
                rw [h0'] at hHa'
                cases hHa'
        obtain ⟨S4, st4⟩ := Sim.setEV (c0 := c) (c := ⟨n2.set i (some ex.sl), c.s.set i (some u), H2, F2⟩) st3 S3 (notLent_set hl.2) rv3
        exact h _ _ _ st4 S4
      · exact h.elim
end
/-! ### raise -/
structure ExcF (K : PySem.W.Frag) (mg : Str → Option Value) (x : Str) : Prop where
  ex : ∃ C, mg x = some (.ref C) ∧ PySem.W.excIn K C He.veBase "ValueError.__new__" = true ∧ PySem.W.keepIn K (.ref C) = true ∧ PySem.W.subIn K (.ref C) (.type "BaseException") = some true ∧ PySem.W.typeIn K (.ref C) = some (.type "type")
def sRaise (x : Str) : NStm := fun n => .err ⟨x, none⟩ n
section
variable {X : Cx} {W : WX}
theorem ns_raise {x m : Str} {j : Nat} {p p2 pos pos' : Pos} (E : ExcF X.K X.mg x) (hc : X.calm = true) (tk : Takes X W) (hg : Gl X x := by rfl) (hdb : (x == ("__debug__" : Str)) = false := by decide) :
    NS X W (.Raise (some (.Call (.Name x p) [.Constant (.str m) j p2] [] pos)) none pos') (sRaise x) := by
  obtain ⟨C, gC, q, kC, sC, tC⟩ := E.ex
  refine ⟨_, ps_raise hc tk (pmk_own PySem.F.excBase_ValueError q gC kC (raises_own sC tC) hg hdb), fun c D S h => ?_⟩
  exact h (.ref C) none c.s c.H c.F (Step.refl _) S ⟨gC, ⟨C, rfl⟩, rfl⟩
end
/-! ### the flags of a caught exception -/
/-- a def called where p's object is handled; it lets nothing out -/
structure FnQ (P : Program) (w : World) (K : PySem.W.Frag) (mg : Str → Option Value) (base : Heap) (k : Nat) (f : Addr) (fd : FuncData) (ps : List Str) (Z : Addr × Obj → Prop) (sp : Addr × Obj → List V → Hp → VK → Prop) : Prop where
  len : ∀ p vs H Q, sp p vs H Q → vs.length = ps.length
  run : ∀ (A : Around) (outer : List Env) (s : Shared) (H : Hp) (args : Args) (us : List Value) (vs : List V) (Q : VK) (p : Addr × Obj), L2H.RoomH k A → Z p → L2H.PinOk outer H s p → Env0 P w K mg base A outer s H → BindsTo s fd args (ps.zip us) → Vals vs us → sp p vs H Q →
    codeAny (model P w) A (.call (.ref f) args) (CR CX0 outer P w H s Q E0) s
theorem fn_ofQ {P : Program} {w : World} {K : PySem.W.Frag} {mg : Str → Option Value} {base : Heap} {k : Nat} {f : Addr} {name qual : Str} {params : Arguments} {body : List Stmt} {scope : Scope} {dV kV doc pm cdv ct oc : Value} {an od : Option Addr}
    {osl : Array (Option Value)} {N ps : List Str} {Z : Addr × Obj → Prop} {sp : Addr × Obj → List V → Hp → VK → Prop} (lk : K.lookup f = some ⟨oc, od, .func (PySem.W.fnOf name qual params body scope dV kV doc pm an cdv ct), osl⟩) (hcd : PySem.W.codeIn K cdv qual = true) (S : FnScope N ps scope)
    (len : ∀ p vs H Q, sp p vs H Q → vs.length = ps.length)
    (hbody : ∀ (A : Around) (outer : List Env) (s : Shared) (H : Hp) (vs : List V) (Q : VK) (p : Addr × Obj), Z p → L2H.RoomH k (A.deeper (envOfC qual scope s.heap.objs.size f cdv)) → sp p vs H Q →
      ∃ t, PSs (L2H.cxH CX0 P w K mg base N qual scope f cdv A outer s H E0 p).nox body t ∧ t { nx := fun _ H' => Q .non H', rt := Q } (L2.start N vs) H) :
    FnQ P w K mg base (k + 1) f (PySem.W.fnOf name qual params body scope dV kV doc pm an cdv ct) ps Z sp := by
  refine ⟨len, fun A outer s H args us vs Q p hr hot hpin e0 hb r hsp => ?_⟩
  have hl := len _ _ _ _ hsp
  have KX : K.In s.heap := e0.mod.kin.keeps fun b o e => (e0.bs b o e).1
  have lim : s.heap.NoLimit := e0.mod.nolimit.keeps fun b o e => (e0.bs b o e).1
  have hkind : ∀ y ∈ ps.zip us, scope.names.lookup y.1 = some .local ∨ (scope.names.lookup y.1 = some .cell ∧ ((cellsFrom (s.heap.objs.size + 1) scope.names []).lookup y.1).isSome = true) := fun ⟨n, v⟩ hy => by
    rcases S.par n (List.of_mem_zip hy).1 with q | q
    · exact .inl q
    · exact .inr ⟨q, PySem.W.cellsFrom_some _ _ _ (.inl q)⟩
  refine codeAny_call_function hr.depth (KX _ _ lk) rfl S.co S.gen rfl (PySem.W.codeRec_of KX hcd) (hb _ _ _ _ ?_)
  refine wpAny_newFunctionEnv_cells S.kind hkind fun env he s1 x => ?_
  subst he
  refine ⟨lim.keeps x.toInCall.keep, codeAny_func ?_⟩
  obtain ⟨t, ht, hq⟩ := hbody A outer s H vs Q p hot (hr.deeper _) hsp
  have I : Inv (L2H.cxH CX0 P w K mg base N qual scope f cdv A outer s H E0 p) [] (L2.start N vs) H s1 := L2H.inv_startH S hpin e0 hl r x
  refine wpAny_mono ((PSs.nox ht).run [] s1 (L2.start N vs) H _ I hq) (fun fl s' hs => ?_) fun e s' hs => hs
  have fin : ∀ {σ' : St} {H' : Hp} {v : V} {u : Value}, Inv (L2H.cxH CX0 P w K mg base N qual scope f cdv A outer s H E0 p) [] σ' H' s' → RelV v u → Q v H' → CE outer P w H s Q u s' :=
    fun {σ' H' v u} J rv q => ⟨v, H', J.os, J.bare, J.base, J.hok, rv, q⟩
  cases fl with
  | ret u =>
    obtain ⟨v, σ', H', J, rv, q⟩ := hs
    exact fin J rv q
  | next =>
    obtain ⟨σ', H', J, q⟩ := hs
    exact fin (v := V.non) (u := Value.none) J rfl q
  | brk =>
    obtain ⟨_, _, _, q⟩ := hs
    exact False.elim q
  | cont =>
    obtain ⟨_, _, _, q⟩ := hs
    exact False.elim q
section
variable {X : Cx} {k : Nat} {f : Addr} {fd : FuncData} {ps : List Str} {Z : Addr × Obj → Prop} {sp : Addr × Obj → List V → Hp → VK → Prop} {x : Str} {q pos : Pos} {e : Expr} {es : List Expr} {t : TA}
theorem pe_callQ {p : Addr × Obj} (F : FnQ X.prog X.w X.K X.mg X.base k f fd ps Z sp) (hr : L2H.RoomH k X.A) (hz : Z p) (hp : p ∈ X.pn) (hg : Gl X x) (hm : X.mg x = some (.ref f)) (hk : PySem.W.keepIn X.K (.ref f) = true) (hb : Binds X.K fd ps [])
    (ha : PA X (e :: es) t) (hdb : (x == ("__debug__" : Str)) = false := by decide) (he : starEach (e :: es) X.env = (false, eval e X.env) :: starEach es X.env := by rfl) (hpl : (backTo pos (starEach es X.env)).any (·.1) = false := by rfl) :
    PE X (.Call (.Name x q) (e :: es) [] pos) (fun σ H Q => t σ H fun vs H1 => sp p vs H1 Q) := by
  refine ⟨fun pins s σ H Q I h => ?_⟩
  refine wpAny_Call_Name_kw (ld_glob I hg hm ?_ hdb)
  refine PySem.W.callWith_K (h₀ := X.base) I.ok.mod.kin hk (thn (ha.run pos pins s σ H _ I h) fun us s1 ⟨vs, H1, I1, r, q⟩ => ⟨I1.kIn, ?_⟩) he hpl
  have hl : us.length = ps.length := by rw [← r.length]; exact F.len _ _ _ _ q
  have b := hb s1 us I1.kIn (by rw [List.append_nil]; exact hl)
  rw [List.append_nil] at b
  have P1 := I1.pin p (List.mem_append_left _ hp)
  have hpin : L2H.PinOk X.stack H1 s1 p := ⟨P1.1, P1.2.1, fun hm => (List.mem_cons.mp (I1.stkSub p.1 hm)).elim P1.2.2.1 P1.2.2.2.1, P1.2.2.2.2⟩
  refine wpAny_call (codeAny_mono (F.run X.A X.stack s1 H1 ⟨us, []⟩ us vs Q p hr hz hpin I1.env0 b r q) fun r s' hq => ?_)
  cases r with
  | error e => exact (show False from hq).elim
  | ok fl =>
    cases fl with
    | ret u => exact I1.after hq
    | next => exact False.elim hq
    | brk => exact False.elim hq
    | cont => exact False.elim hq
end
/-- isinstance(e, C), e the object of a pin -/
theorem call_isQ {X : Cx} {a D : Addr} {oe : Obj} (C : ExcC X.K D) (hz : Zc (.ref D) none oe) (hf : ∃ vs, oe.data = .fields vs) (hp : (a, oe) ∈ X.pn) : CallR X (.builtin "isinstance") (rIsE X.K D a) := by
  intro pins s σ H xs us Q I r h
  obtain ⟨c, cv, b, rfl, hcv, e, q⟩ := h
  cases r with
  | cons rx rr =>
    cases rr with
    | cons rt rr =>
      cases rr
      cases rx
      have ec := hcv _ rt
      subst ec
      obtain ⟨hget, _⟩ := I.pin (a, oe) (List.mem_append.mpr (.inl hp))
      obtain ⟨vs, hv⟩ := hf
      have J : PySem.W.InstAt s.heap a oe D none := by
        obtain ⟨oc, od, oda, osl⟩ := oe
        obtain ⟨h1, h2⟩ := hz
        dsimp only at h1 h2 hv
        subst h1 h2 hv
        exact ⟨hget, rfl, rfl, trivial⟩
      exact PySem.W.kia_one (PySem.W.handS_kitx_exc C.hg C.hk C.hs C.hd C.ha C.hn C.ht C.hm) I.kIn J e (fun z => nomatch z) fun tk => ⟨.bl b, H, I.kept (t' := tk) fun _ _ z => z, rfl, q⟩
/-- the classes that are asked, as the class D answers -/
structure Flg (K : PySem.W.Frag) (mg : Str → Option Value) (sub : Str → Str → Bool) (tbl : List Str) (x : Str) (D : Addr) : Prop where
  g : mg x = some (.ref D)
  c : ExcC K D
  a : ∀ y ∈ tbl, ∃ C, mg y = some (.ref C) ∧ PySem.W.kitOne K (.ref D) (.ref C) = some (sub x y)
/-- what the handled exception is -/
def ZF (K : PySem.W.Frag) (mg : Str → Option Value) (sub : Str → Str → Bool) (tbl : List Str) (p : Addr × Obj) : Prop := ∃ (x : Str) (D : Addr), Flg K mg sub tbl x D ∧ Zc (.ref D) none p.2 ∧ ∃ vs, p.2.data = .fields vs
/-- the flags' def: one row of isinstance(e, C) -/
def spFlags (K : PySem.W.Frag) (mg : Str → Option Value) (sub : Str → Str → Bool) (tbl : List Str) (p : Addr × Obj) : List V → Hp → VK → Prop := fun vs H Q => vs = [.ref p.1] ∧ ∀ (x : Str) (D : Addr), Flg K mg sub tbl x D → Zc (.ref D) none p.2 → ∀ q, H q = none → Q (.ref q) (upd H q (.lst (tbl.map fun y => V.bl (sub x y))))
/-- the items of the row -/
structure PFl (X : Cx) (p : Addr × Obj) (sub : Str → Str → Bool) (x : Str) (tbl : List Str) (es : List Expr) : Prop where
  run : PA X es (fun σ H Q => σ[0]? = some (some (.ref p.1)) ∧ Q (tbl.map fun y => V.bl (sub x y)) H)
section
variable {X : Cx} {p : Addr × Obj} {sub : Str → Str → Bool} {x : Str}
theorem pfl_nil : PFl X p sub x [] [] := ⟨⟨fun pos pins s σ H Q I h => pa_nil.run pos pins s σ H Q I h.2⟩⟩
theorem pfl_cons {y ev : Str} {tbl : List Str} {es : List Expr} {D C : Addr} {p0 p1 p2 pos : Pos} (hp : p ∈ X.pn) (cD : ExcC X.K D) (hz : Zc (.ref D) none p.2) (hf : ∃ vs, p.2.data = .fields vs) (gC : X.mg y = some (.ref C)) (k : PySem.W.kitOne X.K (.ref D) (.ref C) = some (sub x y)) (hm : X.mg "isinstance" = none)
    (h : PFl X p sub x tbl es) (hN : X.N[0]? = some ev) (hv : Vis X.env.scope ev) (hd : (ev == ("__debug__" : Str)) = false) (hcd : (ev == ("__classdict__" : Str)) = false) (hg : Gl X "isinstance") (hgy : Gl X y) (hdy : (y == ("__debug__" : Str)) = false)
    (he : starEach [.Name ev p1, .Name y p2] X.env = (false, eval (.Name ev p1) X.env) :: starEach [.Name y p2] X.env := by rfl) (he2 : starEach [.Name y p2] X.env = (false, eval (.Name y p2) X.env) :: starEach [] X.env := by rfl) (hpl : (backTo pos (starEach [.Name y p2] X.env)).any (·.1) = false := by rfl)
    (hs : starEach (.Call (.Name "isinstance" p0) [.Name ev p1, .Name y p2] [] pos :: es) X.env = (false, eval (.Call (.Name "isinstance" p0) [.Name ev p1, .Name y p2] [] pos) X.env) :: starEach es X.env := by rfl) :
    PFl X p sub x (y :: tbl) (.Call (.Name "isinstance" p0) [.Name ev p1, .Name y p2] [] pos :: es) := by
  refine ⟨⟨fun pos' pins s σ H Q I h' => ?_⟩⟩
  refine (pa_cons (pe_callB (call_isQ (a := p.1) (oe := p.2) cD hz hf hp) hg hm (by decide +kernel) (pa_cons (pe_var hN hv hd hcd) (pa_cons (pe_glob hgy gC (v := .ref C) rfl hdy) pa_nil he2) he) (by decide) (by decide) he hpl) h.run hs).run pos' pins s σ H Q I ?_
  exact ⟨_, h'.1, .ref C, .ref C, sub x y, rfl, fun u r => r, k, h'.1, h'.2⟩
end
section
variable {P : Program} {w : World} {K : PySem.W.Frag} {mg : Str → Option Value} {base : Heap}
structure NFl (P : Program) (w : World) (K : PySem.W.Frag) (mg : Str → Option Value) (base : Heap) (k : Nat) (x : Str) (sub : Str → Str → Bool) (tbl : List Str) : Prop where
  ex : ∃ (f : Addr) (fd : FuncData) (ps : List Str), FnQ P w K mg base k f fd ps (ZF K mg sub tbl) (spFlags K mg sub tbl) ∧ mg x = some (.ref f) ∧ PySem.W.keepIn K (.ref f) = true ∧ Binds K fd ps []
theorem NFl.of {x nm qual ev : Str} {params : Arguments} {scope : Scope} {f : Addr} {fd : FuncData} {N : List Str} {es : List Expr} {pos pos2 : Pos} {sub : Str → Str → Bool} {tbl : List Str} (F : FunD K nm qual params [.Return (some (.List es pos)) pos2] scope [] [] f fd) (hm : mg x = some (.ref f)) (S : FnScope N [ev] scope)
    (hb : Binds K fd [ev] []) (hsz : tbl.length ≤ sizeLine)
    (hes : ∀ (A : Around) (outer : List Env) (s : Shared) (H : Hp) (p : Addr × Obj) (cdv : Value) (x : Str) (D : Addr), Flg K mg sub tbl x D → Zc (.ref D) none p.2 → (∃ vs, p.2.data = .fields vs) →
      PFl (L2H.cxH CX0 P w K mg base N qual scope f cdv A outer s H E0 p).nox p sub x tbl es) : NFl P w K mg base 1 x sub tbl := by
  obtain ⟨oc, od, dV, kV, doc, pm, an, cdv, ct, osl, rfl, lk, hcd, _, _⟩ := F.ex
  refine ⟨f, _, [ev], ?_, hm, F.kp, hb⟩
  refine fn_ofQ lk hcd S (fun p vs H Q h => by rw [h.1]; rfl) fun A outer s H vs Q p hz hr hsp => ?_
  obtain ⟨y, D, fl, zc, vf⟩ := hz
  refine ⟨_, pss_one (ps_ret (pe_lst (hes A outer s H p cdv y D fl zc vf).run)), ?_⟩
  obtain ⟨rfl, hq⟩ := hsp
  refine ⟨?_, by rw [List.length_map]; exact hsz, fun q hq' => hq y D fl zc q hq'⟩
  show (L2.start N [V.ref p.1])[0]? = _
  rfl
end
/-- try: body, except x as e: return flags(e) -/
def sTryF (i : Nat) (sub : Str → Str → Bool) (tbl known : List Str) (f : NStm) : NStm := fun n => match f n with
  | .err x n' => match x.at_ with
    | none => if x.cls ∈ known ∧ i < n.length then .ret (.list (tbl.map fun y => .bool (sub x.cls y))) n' else .bad
    | some _ => .bad
  | r => r
def cSs (K : PySem.W.Frag) (mg : Str → Option Value) (f : NStm) (W : WX) : TS := fun D σ H => ∃ c : Cf, c.s = σ ∧ c.H = H ∧ Sim K c ∧ PstS K mg W c D (f c.n)
theorem NSs.canon {X : Cx} {W : WX} {b : List Stmt} {f : NStm} (h : NSs X W b f) : PSs X b (cSs X.K X.mg f W) := by
  obtain ⟨t, p, s⟩ := h.ex
  exact ⟨fun pins s0 σ H D I ⟨c, e1, e2, S, q⟩ => by subst e1 e2; exact p.run pins s0 c.s c.H D I (s c D S q)⟩
section
variable {X : Cx} {W : WX}
theorem Reps.bls {K : PySem.W.Frag} {H : Hp} {F : Fz} : ∀ (bs : List Bool), Reps K H F (bs.map PyData.bool) (bs.map V.bl)
  | [] => Reps.nil
  | b :: bs => Reps.cons Rep.mkBool (Reps.bls bs)
theorem ns_tryF {x ev fl : Str} {i k : Nat} {body : List Stmt} {np p1 p2 p3 p4 p5 pos : Pos} {f : NStm} {sub : Str → Str → Bool} {tbl known : List Str} {C : Addr} (hs : X.stack = X.env :: X.outer) (hf : X.env.frame = some X.env.locals) (hN : X.N.Nodup) (hi : X.N[i]? = some ev) (hln : X.env.kindOf ev = some .local) (gC : X.mg x = some (.ref C)) (tk : Takes X W) (hr : Room k X.A)
    (G : NFl X.prog X.w X.K X.mg X.base k fl sub tbl) (known_ok : ∀ y ∈ known, ∃ D, Flg X.K X.mg sub tbl y D ∧ PySem.W.exmOne X.K (.ref D) (.ref C) = some true)
    (hb : ∀ (W : WX) (pn : List (Addr × Obj)) (xe : Value → Shared → Prop), Takes (X.tr pn xe) W → PassesOwn (model X.prog X.w) X.A X.env xe → NSs (X.tr pn xe) W body f)
    (hgx : Gl X x) (hdx : (x == ("__debug__" : Str)) = false) (hgf : Gl X fl) (hdf : (fl == ("__debug__" : Str)) = false) (hv : Vis X.env.scope ev) (hd : (ev == ("__debug__" : Str)) = false) (hcd : (ev == ("__classdict__" : Str)) = false)
    (he : starEach [.Name ev p2] X.env = (false, eval (.Name ev p2) X.env) :: starEach [] X.env := by rfl) (hpl : (backTo p3 (starEach [] X.env)).any (·.1) = false := by rfl) :
    NS X W (.Try body [.ExceptHandler (some (.Name x np)) (some ev) [.Return (some (.Call (.Name fl p1) [.Name ev p2] [] p3)) p4] p5] [] [] pos) (sTryF i sub tbl known f) := by
  obtain ⟨fa, fd, ps, F, gf, kf, bf⟩ := G.ex
  let ts : Addr → Value → Option Addr → TS := fun a cls d D σ H => ∃ oe0 : Obj, d = none ∧ (∃ (y : Str) (D0 : Addr), cls = .ref D0 ∧ Flg X.K X.mg sub tbl y D0) ∧ σ[i]? = some (some (.ref a)) ∧ ∀ (y : Str) (D0 : Addr), Flg X.K X.mg sub tbl y D0 → cls = .ref D0 → ∀ q, H q = none → D.rt (.ref q) (upd H q (.lst (tbl.map fun z => V.bl (sub y z))))
  have hsu : ∀ (a : Addr) (oe : Obj) (cls : Value) (d : Option Addr) (pn : List (Addr × Obj)), Zc cls d oe → (∃ vs, oe.data = .fields vs) → PSs (X.suite a ((a, oe) :: pn)) [.Return (some (.Call (.Name fl p1) [.Name ev p2] [] p3)) p4] (ts a cls d) := by
    intro a oe cls d pn hz hvs
    refine ⟨fun pins s σ H D I h => ?_⟩
    obtain ⟨_, hd0, ⟨y, D0, hcls, fg⟩, hσ, hq⟩ := h
    subst hd0
    subst hcls
    have room : L2H.RoomH k (X.suite a ((a, oe) :: pn)).A := ⟨hr.dp, hr.un⟩
    have zf : ZF X.K X.mg sub tbl (a, oe) := ⟨y, D0, fg, hz, hvs⟩
    refine (pss_one (ps_ret (pe_callQ (X := X.suite a ((a, oe) :: pn)) (p := (a, oe)) F room zf List.mem_cons_self hgf gf kf bf (pa_cons (pe_var hi hv hd hcd) pa_nil he) hdf he hpl))).run pins s σ H D I ?_
    exact ⟨_, hσ, rfl, fun y' D' g' z' q hq' => hq y' D' g' (by
      have : oe.cls = .ref D' := z'.1
      rw [hz.1] at this; exact this) q hq'⟩
  refine ⟨_, ps_try_as hs hf hN hi hln ⟨hgx, hdx, .inl gC⟩ (tb := fun W => cSs X.K X.mg f W) tk (fun W pn xe t p => (hb W pn xe t p).canon) hsu, fun c D S h => ?_⟩
  refine ⟨c, rfl, rfl, S, ?_⟩
  unfold sTryF at h
  cases er : f c.n with
  | err z n' =>
    rw [er] at h
    intro cls d σ' H' F' st S' xr
    dsimp only at h
    split at h
    · rename_i hat
      split at h
      · rename_i hk
        obtain ⟨hk, hil⟩ := hk
        obtain ⟨gz, ⟨C', hC'⟩, hd'⟩ := xr
        rw [hat] at hd'
        have hd' : d = none := hd'
        subst hd'
        obtain ⟨D0, fg, hx⟩ := known_ok _ hk
        have e1 : cls = .ref D0 := by
          have := gz.symm.trans fg.g
          exact Option.some.inj this
        subst e1
        refine ⟨true, hx, fun _ a ha => ⟨default, rfl, ⟨z.cls, D0, rfl, fg⟩, ?_, fun y D1 gy hD q hq => ?_⟩, fun z => nomatch z⟩
        · have hi' : i < σ'.length := by
            have h1 : n'.length = c.n.length := st.ln
            have h2 : n'.length = σ'.length := S'.len
            omega
          rw [List.getElem?_set_self hi']
        · cases hD
          have et : (tbl.map fun t => V.bl (sub y t)) = (tbl.map fun t => V.bl (sub z.cls t)) := List.map_congr_left fun t ht => by
            obtain ⟨C1, g1, k1⟩ := gy.a t ht
            obtain ⟨C2, g2, k2⟩ := fg.a t ht
            have : C1 = C2 := by
              have := g1.symm.trans g2
              injection this with this
              injection this
            subst this
            rw [k1] at k2
            rw [Option.some.inj k2]
          rw [et]
          obtain ⟨S2, st2, ro⟩ := Sim.newLst S' (p := q) (ds := tbl.map fun t => PyData.bool (sub z.cls t)) hq (by
            have := Reps.bls (K := X.K) (H := H') (F := F') (tbl.map fun t => sub z.cls t)
            rwa [List.map_map, List.map_map] at this)
          obtain ⟨F3, S3, st3, r3⟩ := Sim.freeze S' st2 S2 ro
          exact h _ _ _ _ (st.trans st3) S3 r3
      · exact h.elim
    · exact h.elim
  | nx n' => rw [er] at h; exact h
  | ret d n' => rw [er] at h; exact h
  | brk n' => rw [er] at h; exact h
  | ct n' => rw [er] at h; exact h
  | bad => rw [er] at h; exact h
end
end NL
end L2
/-! NL9: a def chosen from a row; the empty dict. -/
namespace L2
namespace NL
open PySem PySem.Spec PyProof.Rows
section
variable {X : Cx} {W : WX} {k n : Nat}
/-- the names of a row of defs -/
inductive PickOk (X : Cx) (k n : Nat) : List Expr → List NExp → List Addr → Prop
  | nil : PickOk X k n [] [] []
  | cons {x : Str} {g : NExp} {f : Addr} {fd : FuncData} {ps : List Str} {p : Pos} {es : List Expr} {gs : List NExp} {fs : List Addr} (G : FnOk X.prog X.w X.K X.mg X.base (L2.CX X.prog X.w) k f fd ps (NProm X.K X.mg n g)) (hm : X.mg x = some (.ref f)) (hk : PySem.W.keepIn X.K (.ref f) = true) (hb : Binds X.K fd ps [])
      (hg : Gl X x) (hdb : (x == ("__debug__" : Str)) = false) (he : starEach (.Name x p :: es) X.env = (false, eval (.Name x p) X.env) :: starEach es X.env) (r : PickOk X k n es gs fs) : PickOk X k n (.Name x p :: es) (g :: gs) (f :: fs)
def Picks (X : Cx) (k n : Nat) (es : List Expr) (gs : List NExp) : Prop := ∃ fs, PickOk X k n es gs fs
theorem picks_nil : Picks X k n [] [] := ⟨[], .nil⟩
theorem picks_cons {x : Str} {g : NExp} {k' : Nat} {p : Pos} {es : List Expr} {gs : List NExp} (F : NFn X.prog X.w X.K X.mg X.base k' x n g) (hk : k' ≤ k) (r : Picks X k n es gs) (hg : Gl X x := by rfl) (hdb : (x == ("__debug__" : Str)) = false := by decide)
    (he : starEach (.Name x p :: es) X.env = (false, eval (.Name x p) X.env) :: starEach es X.env := by rfl) : Picks X k n (.Name x p :: es) (g :: gs) := by
  obtain ⟨f, fd, ps, G, hm, hkp, hb⟩ := F.ex
  obtain ⟨fs, r⟩ := r
  exact ⟨f :: fs, .cons (G.mono hk) hm hkp hb hg hdb he r⟩
theorem PickOk.pa {es : List Expr} {gs : List NExp} {fs : List Addr} : PickOk X k n es gs fs → ∃ t, PA X es t ∧ ∀ (c : Cf) (Q : List V → Hp → Prop), Q (fs.map V.ref) c.H → t c.s c.H Q
  | .nil => ⟨_, pa_nil, fun c Q h => h⟩
  | .cons G hm hk hb hg hdb he r => by
    obtain ⟨t, pa, s⟩ := r.pa
    exact ⟨_, pa_cons (pe_glob hg hm (v := .ref _) rfl hdb) pa he, fun c Q h => s c _ h⟩
theorem PickOk.at : ∀ {es : List Expr} {gs : List NExp} {fs : List Addr} {i : Nat} {g : NExp}, PickOk X k n es gs fs → gs[i]? = some g → ∃ f, fs[i]? = some f ∧ ∃ (fd : FuncData) (ps : List Str), FnOk X.prog X.w X.K X.mg X.base (L2.CX X.prog X.w) k f fd ps (NProm X.K X.mg n g) ∧ PySem.W.keepIn X.K (.ref f) = true ∧ Binds X.K fd ps []
  | _, _, _, _, _, .nil, h => by simp at h
  | _, _, _, 0, _, .cons G hm hk hb hg hdb he r, h => by
    simp at h; subst h
    exact ⟨_, rfl, _, _, G, hk, hb⟩
  | _, _, _, i + 1, _, .cons G hm hk hb hg hdb he r, h => by
    obtain ⟨f, e, q⟩ := PickOk.at (i := i) r (by simpa using h)
    exact ⟨f, by simpa using e, q⟩
theorem PickOk.len {es : List Expr} {gs : List NExp} {fs : List Addr} : PickOk X k n es gs fs → gs.length = fs.length
  | .nil => rfl
  | .cons _ _ _ _ _ _ _ r => by simp [r.len]
def nPick (gs : List NExp) (fi : NExp) (fs : NSt → R (List AV)) : NExp := fun m => (fi m).bind fun d n1 => match d with
  | .int i => if 0 ≤ i then (match gs[i.toNat]? with
    | some g => nCall g fs n1
    | none => .bad) else .bad
  | _ => .bad
theorem ne_pick {names : List Expr} {gs : List NExp} {fi : NExp} {ie : Expr} {e : Expr} {es : List Expr} {fs : NSt → R (List AV)} {lp sp pos : Pos} (P : Picks X k n names gs) (hz : gs.length ≤ sizeLine) (hr : Room k X.A) (tk : Takes X W) (hi : NE X W ie fi) (ha : NA X W (e :: es) fs) (hn : (e :: es).length = n)
    (hl : ∀ (m : NSt) (as : List AV) (m' : NSt), fs m = .ok as m' → as.length = n)
    (hs : PlainIx ie := by exact fun _ _ => rfl) (he : starEach (e :: es) X.env = (false, eval e X.env) :: starEach es X.env := by rfl) (hpl : (backTo pos (starEach es X.env)).any (·.1) = false := by rfl)
    (hev : eval (.Call (.Subscript (.List names lp) ie sp) (e :: es) [] pos) X.env = (do callWith pos (← eval (.Subscript (.List names lp) ie sp) X.env) [] (backTo pos (starEach (e :: es) X.env)) (backToKw pos (keywordEach [] X.env))) := by rfl) :
    NE X W (.Call (.Subscript (.List names lp) ie sp) (e :: es) [] pos) (nPick gs fi fs) := by
  obtain ⟨fas, P⟩ := P
  obtain ⟨tn, pn, sn⟩ := P.pa
  obtain ⟨ti, pi, si⟩ := hi.ex
  obtain ⟨ta, pa, sa⟩ := ha.ex
  refine ⟨fun σ H Q => tOp (rIx X.K) (tLst tn) ti σ H fun v H1 => ∃ (f : Addr) (fd : FuncData) (ps : List Str) (g : NExp), v = .ref f ∧ FnOk X.prog X.w X.K X.mg X.base (L2.CX X.prog X.w) k f fd ps (NProm X.K X.mg n g) ∧ PySem.W.keepIn X.K (.ref f) = true ∧ Binds X.K fd ps [] ∧
    ta σ H1 fun vs H2 => NProm X.K X.mg n g vs H2 Q (WE W σ), ?_, ?_⟩
  · refine ⟨fun pins s σ H Q I h => ?_⟩
    refine Call_ (thn ((pe_ix ix_seq (pe_lst pn) pi hs).run pins s σ H _ I h) fun u s1 ⟨v, H1, I1, rv, f, fd, ps, g, ev, G, hk, hb, q⟩ => ?_) hev
    subst ev
    cases (show u = Value.ref f from rv)
    exact PySem.W.callWith_K (h₀ := X.base) I1.ok.mod.kin hk (thn (pa.run pos pins s1 σ H1 _ I1 q) fun us s2 ⟨vs, H2, I2, r, q2⟩ => ⟨I2.kIn, run_fnS G hr hb (passAt tk σ) I2 r q2⟩) he hpl
  · intro c Q S h
    refine sn c _ ⟨by rw [List.length_map, ← P.len]; exact hz, fun p hp => ?_⟩
    obtain ⟨S1, st1⟩ := S.ext (H' := upd c.H p (.lst (fas.map V.ref))) (F' := c.F) (upd_old hp) (fun _ f => f) fun a f => .inl f
    refine si ⟨c.n, c.s, upd c.H p (.lst (fas.map V.ref)), c.F⟩ _ S1 ?_
    have h1 : Pst X.K X.mg W (relE X.K) ⟨c.n, c.s, upd c.H p (.lst (fas.map V.ref)), c.F⟩ Q (nPick gs fi fs c.n) := Pst.step (c := c) (c1 := ⟨c.n, c.s, upd c.H p (.lst (fas.map V.ref)), c.F⟩) mono_E rfl st1 h
    refine Pst.seq (rel := relE X.K) (rel' := relE X.K) mono_E h1 fun d n1 v H2 F2 _ st2 S2 r2 h2 => ?_
    cases d with
    | int i =>
      dsimp only at h2
      split at h2
      · rename_i h0
        cases eg : gs[i.toNat]? with
        | none => rw [eg] at h2; exact h2.elim
        | some g =>
          rw [eg] at h2
          obtain ⟨f, ef, fd, ps, G, hk, hb⟩ := P.at eg
          have hH2 : H2 p = some (.lst (fas.map V.ref)) := by
            refine (st2.keep p ?_ fun hd => ?_).trans ?_
            · show upd c.H p _ p ≠ none
              rw [upd_same]; simp
            · exact S.hdH (show c.Hd p from hd) hp
            · show upd c.H p _ p = _
              rw [upd_same]
          have ev : v = .int i := Rep.int (K := X.K) (H := H2) (F := F2) r2
          subst ev
          refine .inl ⟨p, fas.map V.ref, i, .ref f, rfl, rfl, SqL.of hH2, ?_, f, fd, ps, g, rfl, G, hk, hb, ?_⟩
          · have hlt : i.toNat < fas.length := lt_of_get ef
            unfold atI ixN
            rw [if_pos h0, if_pos (by rw [List.length_map]; omega)]
            simp only [Option.bind_some, List.getElem?_map, ef, Option.map_some]
          · refine sa ⟨n1, c.s, H2, F2⟩ _ S2 (Pst.seq (rel := relA X.K) (rel' := relE X.K) mono_E h2 fun as n2 vs H3 F3 eok st3 S3 r3 h3 => ?_)
            split at h3
            · rename_i nd
              cases er : resolve n2 as with
              | none => rw [er] at h3; exact h3.elim
              | some a =>
                rw [er] at h3
                obtain ⟨SA, no, nn, _⟩ := Sim.args (c := ⟨n2, c.s, H3, F3⟩) S3 nd r3 er
                refine ⟨a, F3, by rw [resolve_len er]; exact hl _ _ _ eok, no, nn, SA, ?_⟩
                dsimp only at h3
                cases eg : g a with
                | ok d os =>
                  rw [eg] at h3
                  intro v H' F' st S' rv
                  obtain ⟨st2, S2, _⟩ := Sim.back (c := ⟨n2, c.s, H3, F3⟩) S3 nd r3 er st S'
                  exact h3 v H' F' st2 S2 rv
                | err x os =>
                  rw [eg] at h3
                  intro cls d H' F' st S' rv
                  obtain ⟨st2, S2, _⟩ := Sim.back (c := ⟨n2, c.s, H3, F3⟩) S3 nd r3 er st S'
                  exact h3 cls d H' F' st2 S2 rv
                | bad => rw [eg] at h3; exact h3.elim
            · exact h3.elim
      · exact h2.elim
    | _ => exact h2.elim
/-- a new dict is locked for good -/
def tLkD (t : TE) : TE := fun σ H Q => t σ H fun v H1 => ∃ (d : Addr) (kx : List (Key × V)), v = .ref d ∧ H1 d = some (.dK kx) ∧ ∀ od, Q v (upd H1 d (.frz od (.dK kx)))
theorem pe_lockD {e : Expr} {t : TE} (h : PE X e t) : PE X e (tLkD t) := by
  refine ⟨fun pins s σ H Q I q => ?_⟩
  refine thn (h.run pins s σ H _ I q) fun v s1 ⟨x, H1, I1, r1, d, kx, e1, e2, q1⟩ => ?_
  obtain ⟨od, I2⟩ := I1.lock e2 trivial
  exact ⟨x, _, I2, r1, q1 od⟩
theorem upd_upd {H : Hp} {p : Addr} {o o' : HO} : upd (upd H p o) p o' = upd H p o' := by
  funext b
  by_cases h : b = p
  · subst h; rw [upd_same, upd_same]
  · rw [upd_ne h, upd_ne h, upd_ne h]
/-- a new dict, locked -/
theorem Sim.newDict {K : PySem.W.Frag} {c : Cf} (S : Sim K c) {p : Addr} {od : Obj} {kx : List (Key × V)} {kvs : List (PyData × PyData)} (hp : c.H p = none) (hk : kvs.map (·.1) = kx.map (fun p => keyD p.1)) (r : RepsP K c.H c.F kvs (kx.map (·.2))) :
    let c' : Cf := ⟨c.n, c.s, upd c.H p (.frz od (.dK kx)), orEq c.F p⟩; Sim K c' ∧ Step c c' ∧ Rep K c'.H c'.F (.dict kvs) (.ref p) := by
  intro c'
  obtain ⟨h1, h2⟩ := S.ext (H' := upd c.H p (.frz od (.dK kx))) (F' := orEq c.F p) (upd_old hp) (fun _ h => .inl h) fun a h => h.elim .inl fun z => .inr (by subst z; exact ⟨hp, by rw [upd_same]; simp⟩)
  exact ⟨h1, h2, Rep.mkDict (.inr rfl) upd_same hk (RepsP.keep (h2.frz S) _ _ r)⟩
/-- {} -/
theorem ne_dict0 {pos : Pos} : NE X W (.Dict [] [] pos) (fun m => .ok (.dict []) m) := by
  refine ⟨tLkD tDNewK, pe_lockD pe_dnewK, fun c Q S h p hp => ⟨p, [], rfl, upd_same, fun od => ?_⟩⟩
  rw [upd_upd]
  obtain ⟨S1, st1, r1⟩ := S.newDict (p := p) (od := od) (kx := []) (kvs := []) hp rfl (by unfold RepsP; rfl)
  exact h (.ref p) _ _ st1 S1 r1
end
end NL
end L2
/-! NL10: defs that return a new list of the caller's own. -/
namespace L2
namespace NL
open PySem PySem.Spec PyProof.Rows
/-- a list that was new, or a slot's own, and that none holds any more -/
def relG (K : PySem.W.Frag) (c0 c : Cf) (xs : List PyData) (v : V) : Prop := ∃ (a : Addr) (ws : List V), v = .ref a ∧ (c0.H a = none ∨ c0.Ow a) ∧ ¬ c.F a ∧ c.H a = some (.lst ws) ∧ ¬ c.Hd a ∧ Reps K c.H c.F xs ws
theorem relO.g {K : PySem.W.Frag} {c0 c : Cf} {xs : List PyData} {v : V} (h : relO K c0 c xs v) : relG K c0 c xs v := let ⟨a, ws, e, h0, r⟩ := h; ⟨a, ws, e, .inl h0, r⟩
theorem relG.step {K : PySem.W.Frag} {c0 c1 c : Cf} {xs : List PyData} {v : V} (st : Step c0 c1) (h : relG K c1 c xs v) : relG K c0 c xs v := by
  obtain ⟨a, ws, e, h0, r⟩ := h
  refine ⟨a, ws, e, ?_, r⟩
  rcases h0 with h0 | h0
  · exact .inl (Classical.byContradiction fun z => st.live a z h0)
  · exact (st.ow a h0).symm
def PstO (K : PySem.W.Frag) (mg : Str → Option Value) (W : WX) (c : Cf) (D : Ends) : R (List PyData) → Prop
  | .ok xs n' => ∀ v σ' H' F', Step c ⟨n', σ', H', F'⟩ → Sim K ⟨n', σ', H', F'⟩ → relG K c ⟨n', σ', H', F'⟩ xs v → D.rt v H'
  | .err x n' => ∀ cls d σ' H' F', Step c ⟨n', σ', H', F'⟩ → Sim K ⟨n', σ', H', F'⟩ → XRep K mg H' F' x cls d → W cls d σ' H'
  | .bad => False
theorem PstO.step {K : PySem.W.Frag} {mg : Str → Option Value} {W : WX} {c c1 : Cf} {D : Ends} (st : Step c c1) {r : R (List PyData)} (h : PstO K mg W c D r) : PstO K mg W c1 D r := by
  cases r with
  | ok xs n => exact fun v σ' H' F' s1 S1 r => h v σ' H' F' (st.trans s1) S1 (r.step st)
  | err x n => exact fun cls d σ' H' F' s1 S1 => h cls d σ' H' F' (st.trans s1) S1
  | bad => exact h
structure NSo (X : Cx) (W : WX) (sts : List Stmt) (f : NSt → R (List PyData)) : Prop where
  ex : ∃ t, PSs X sts t ∧ ∀ (c : Cf) (D : Ends), Sim X.K c → PstO X.K X.mg W c D (f c.n) → t D c.s c.H
/-- an own slot is given away -/
def nGive (i : Nat) : NSt → R (List PyData) := fun n => match n[i]? with
  | some (some (.own xs)) => .ok xs (n.set i none)
  | _ => .bad
def sSeqO (f : NStm) (g : NSt → R (List PyData)) : NSt → R (List PyData) := fun n => match f n with
  | .nx n' => g n'
  | .err x n' => .err x n'
  | _ => .bad
def sIfO (t : NSt → R Bool) (f g : NSt → R (List PyData)) : NSt → R (List PyData) := fun n => (t n).bind fun b n' => if b = true then f n' else g n'
section
variable {X : Cx} {W : WX} {st : Stmt} {rest : List Stmt} {f : NStm} {g fo : NSt → R (List PyData)} {e : Expr} {pos : Pos}
theorem nso_ret (h : NEo X W e fo) : NSo X W [.Return (some e) pos] fo := by
  obtain ⟨t, p, s⟩ := h.ex
  refine ⟨_, pss_one (ps_ret p), fun c D S q => ?_⟩
  show t c.s c.H D.rt
  refine s c _ S ?_
  cases er : fo c.n with
  | ok xs n' => rw [er] at q; exact fun v H' F' st S' r => q v c.s H' F' st S' r.g
  | err x n' => rw [er] at q; exact fun cls d H' F' st S' r => q cls d c.s H' F' st S' r
  | bad => rw [er] at q; exact q
theorem Sim.drop {K : PySem.W.Frag} {c : Cf} (S : Sim K c) {i : Nat} {xs : List PyData} (e : c.n[i]? = some (some (.own xs))) :
    ∃ a, c.s[i]? = some (some (.ref a)) ∧ let c' : Cf := ⟨c.n.set i none, c.s, c.H, c.F⟩; Step c c' ∧ Sim K c' ∧ relG K c c' xs (.ref a) := by
  obtain ⟨v, e1, a, ws, rfl, nf, hH, r⟩ := S.slot i _ e
  have hi := lt_of_get e
  have sub : ∀ (j : Nat) (sl : Sl), (c.n.set i none)[j]? = some (some sl) → c.n[j]? = some (some sl) ∧ i ≠ j := fun j sl q => by
    by_cases h : i = j
    · subst h
      rw [List.getElem?_set_self hi] at q
      cases q
    · rw [List.getElem?_set_ne h] at q
      exact ⟨q, h⟩
  refine ⟨a, e1, ⟨fun _ _ _ => rfl, fun _ h => h, fun _ h => h, fun _ h => .inl h, fun b ⟨j, sl, q1, q2, q3⟩ => .inl ⟨j, sl, (sub j sl q1).1, q2, q3⟩, fun b ⟨j, ys, q1, q3⟩ => .inl ⟨j, ys, (sub j _ q1).1, q3⟩, fun j ys q => ?_, ?_⟩, ⟨?_, fun j sl q => S.slot j sl (sub j sl q).1, fun j k sj sk b q1 q2 h1 h2 q3 q4 => S.sep j k sj sk b (sub j sj q1).1 (sub k sk q2).1 h1 h2 q3 q4, S.fz⟩,
    ⟨a, ws, rfl, .inr ⟨i, xs, e, e1⟩, nf, hH, fun ⟨j, sl, q1, q2, q3⟩ => ?_, r⟩⟩
  · refine ⟨ys, ?_, rfl⟩
    show (c.n.set i none)[j]? = _
    by_cases h : i = j
    · subst h; rw [e] at q; cases q
    · rw [List.getElem?_set_ne h]; exact q
  · show (c.n.set i none).length = _
    simp
  · show (c.n.set i none).length = _
    simp [S.len]
  · exact (sub j sl q1).2 (S.sep i j _ sl a e (sub j sl q1).1 rfl q2 e1 q3)
theorem nso_give (i : Nat) {x : Str} {p : Pos} (hN : X.N[i]? = some x := by rfl) (hv : Vis X.env.scope x := by first | exact Or.inl rfl | exact Or.inr (Or.inl rfl) | exact Or.inr (Or.inr rfl)) (hd : (x == ("__debug__" : Str)) = false := by decide)
    (hcd : (x == ("__classdict__" : Str)) = false := by decide) : NSo X W [.Return (some (.Name x p)) pos] (nGive i) := by
  refine ⟨_, pss_one (ps_ret (pe_var hN hv hd hcd)), fun c D S q => ?_⟩
  unfold nGive at q
  split at q
  · rename_i xs e
    obtain ⟨a, e1, st, S', r⟩ := S.drop e
    exact ⟨_, e1, q _ _ _ _ st S' r⟩
  · exact q.elim
theorem nso_cons (h1 : NS X W st f) (h2 : NSo X W rest g) : NSo X W (st :: rest) (sSeqO f g) := by
  obtain ⟨t1, p1, s1⟩ := h1.ex
  obtain ⟨t2, p2, s2⟩ := h2.ex
  refine ⟨_, pss_cons p1 p2, fun c D S h => ?_⟩
  refine s1 c _ S ?_
  unfold sSeqO at h
  cases q : f c.n with
  | nx n' => rw [q] at h; exact fun σ' H' F' st S' => s2 ⟨n', σ', H', F'⟩ D S' (PstO.step st h)
  | err x n' => rw [q] at h; exact h
  | ret d n' => rw [q] at h; exact h.elim
  | brk n' => rw [q] at h; exact h.elim
  | ct n' => rw [q] at h; exact h.elim
  | bad => rw [q] at h; exact h.elim
/-- if c: return .., and on -/
theorem nso_if {c : Expr} {a : List Stmt} {t : NSt → R Bool} {ga : NSt → R (List PyData)} (hc : NT X W c t) (ha : NSo X W a ga) (h2 : NSo X W rest g) : NSo X W (.If c a [] pos :: rest) (sIfO t ga g) := by
  obtain ⟨tc, pc, sc⟩ := hc.ex
  obtain ⟨t1, p1, s1⟩ := ha.ex
  obtain ⟨t2, p2, s2⟩ := h2.ex
  refine ⟨_, pss_cons (ps_if pc p1 pss_nil) p2, fun c0 D S h => ?_⟩
  refine sc c0 _ S ?_
  unfold sIfO at h
  cases q : t c0.n with
  | ok b n' =>
    rw [q] at h
    intro b2 H' F' st S' eb
    have eb : b = b2 := eb
    subst eb
    have h : PstO X.K X.mg W c0 D (if b = true then ga n' else g n') := h
    cases b with
    | true => exact s1 ⟨n', c0.s, H', F'⟩ _ S' (PstO.step (D := { D with nx := t2 D }) st h)
    | false => exact s2 ⟨n', c0.s, H', F'⟩ D S' (PstO.step st h)
  | err x n' => rw [q] at h; exact fun cls d H' F' st S' r => h cls d c0.s H' F' st S' r
  | bad => rw [q] at h; exact h.elim
end
/-! ### the def, the call -/
def NPromO (K : PySem.W.Frag) (mg : Str → Option Value) (k : Nat) (g : NSt → R (List PyData)) : Sp := fun vs H Q E => ∃ (a : NSt) (F : Fz), a.length = k ∧ (∀ (i : Nat) (xs : List PyData), a[i]? ≠ some (some (Sl.own xs))) ∧ (∀ o ∈ a, o ≠ none) ∧ Sim K ⟨a, vs.map some, H, F⟩ ∧
  Pst K mg (fun cls d _ H' => E cls d H') (relO K) ⟨a, vs.map some, H, F⟩ Q (g a)
structure NFnO (P : Program) (w : World) (K : PySem.W.Frag) (mg : Str → Option Value) (base : Heap) (k : Nat) (x : Str) (n : Nat) (g : NSt → R (List PyData)) : Prop where
  ex : ∃ (f : Addr) (fd : FuncData) (ps : List Str), FnOk P w K mg base (L2.CX P w) k f fd ps (NPromO K mg n g) ∧ mg x = some (.ref f) ∧ PySem.W.keepIn K (.ref f) = true ∧ Binds K fd ps []
def runDO (N : Nat) (body : NSt → R (List PyData)) : NSt → R (List PyData) := fun a => match body (a ++ List.replicate (N - a.length) none) with
  | .ok d n' => .ok d (outs a n')
  | .err x n' => .err x (outs a n')
  | .bad => .bad
def nCallO (g : NSt → R (List PyData)) (fs : NSt → R (List AV)) : NSt → R (List PyData) := fun n => (fs n).bind fun as n1 => if (ixs as).Nodup then (match resolve n1 as with
  | some a => match g a with
    | .ok d os => .ok d (back n1 as os)
    | .err x os => .err x (back n1 as os)
    | .bad => .bad
  | none => .bad) else .bad
section
variable {P : Program} {w : World} {K : PySem.W.Frag} {mg : Str → Option Value} {base : Heap}
theorem NFnO.of {x nm qual : Str} {params : Arguments} {sbody : List Stmt} {scope : Scope} {f : Addr} {fd : FuncData} {N ps : List Str} {k n : Nat} {body : NSt → R (List PyData)} (F : FunD K nm qual params sbody scope [] [] f fd) (hm : mg x = some (.ref f)) (S : FnScope N ps scope)
    (hb : Binds K fd ps []) (hn : n = ps.length)
    (hbody : ∀ (cdv : Value) (A : Around) (outer : List Env) (s : Shared) (H : Hp) (E : XK), Room k (A.deeper (envOfC qual scope s.heap.objs.size f cdv)) →
      NSo (cxOf (L2.CX P w) P w K mg base N qual scope f cdv A outer s H E) (fun cls d _ H' => E cls d H') sbody body) : NFnO P w K mg base (k + 1) x n (runDO N.length body) := by
  refine ⟨f, fd, ps, ?_, hm, F.kp, hb⟩
  refine F.ok S (fun vs H Q E ⟨a, F', hl, _, _, S0, _⟩ => ?_) fun cdv A outer s H vs Q E hr hsp => ?_
  · have h1 : a.length = (vs.map some).length := S0.len
    rw [List.length_map] at h1
    omega
  · obtain ⟨t, p, sd⟩ := (hbody cdv A outer s H E hr).ex
    refine ⟨t, p, ?_⟩
    obtain ⟨a, F', hl, no, _, S0, q⟩ := hsp
    have h1 : a.length = (vs.map some).length := S0.len
    have hvl : vs.length = a.length := by rw [List.length_map] at h1; exact h1.symm
    have hN : a.length ≤ N.length := by
      have := congrArg List.length S.pre
      rw [List.length_take] at this
      omega
    have est : start N vs = vs.map some ++ List.replicate (N.length - a.length) none := by
      unfold start
      rw [hvl]
    rw [est]
    refine sd ⟨a ++ List.replicate (N.length - a.length) none, vs.map some ++ List.replicate (N.length - a.length) none, H, F'⟩ _ (S0.enter _) ?_
    unfold runDO at q
    cases er : body (a ++ List.replicate (N.length - a.length) none) with
    | ok d n' =>
      rw [er] at q
      intro v σ' H' F2 st S2 r
      obtain ⟨st3, S3⟩ := Sim.outs S0 hN no st S2
      obtain ⟨b, ws, e, h0, nf, hH, nh, rr⟩ := r
      have h0' : H b = none := by
        rcases h0 with h0 | ⟨i, xs, e1, _⟩
        · exact h0
        · have e1' : (a ++ List.replicate (N.length - a.length) none)[i]? = some (some (Sl.own xs)) := e1
          by_cases hi : i < a.length
          · rw [List.getElem?_append_left hi] at e1'
            exact absurd e1' (no i xs)
          · rw [List.getElem?_append_right (by omega), List.getElem?_replicate] at e1'
            split at e1' <;> cases e1'
      refine q v H' F2 st3 S3 ⟨b, ws, e, h0', nf, hH, fun ⟨i, sl, q1, q2, q3⟩ => ?_, rr⟩
      have hln : a.length ≤ n'.length := by
        have := st.ln
        simp only [List.length_append, List.length_replicate] at this
        omega
      have q1' : (NL.outs a n')[i]? = some (some sl) := q1
      have hia : i < a.length := by
        have := lt_of_get q1'
        unfold NL.outs at this
        rw [List.length_zipWith] at this
        omega
      have : ∃ s0 : Sl, a[i]? = some (some s0) ∧ s0.held = true := by
        cases q0 : a[i]? with
        | none => rw [List.getElem?_eq_getElem hia] at q0; cases q0
        | some o =>
          rw [outs_get q0 hln] at q1'
          cases o with
          | none => cases q1'
          | some s0 =>
            cases s0 with
            | lent ys => exact ⟨_, rfl, rfl⟩
            | own ys => exact ⟨_, rfl, rfl⟩
            | val d => cases q1'; cases q2
            | scr d => cases q1'; cases q2
      obtain ⟨s0, g1, g2⟩ := this
      exact S0.hdH (a := b) ⟨i, s0, g1, g2, q3⟩ h0'
    | err x n' =>
      rw [er] at q
      intro cls d σ' H' F2 st S2 r
      obtain ⟨st3, S3⟩ := Sim.outs S0 hN no st S2
      exact q cls d H' F2 st3 S3 r
    | bad => rw [er] at q; exact q.elim
end
section
variable {X : Cx} {W : WX}
theorem neo_call {k n : Nat} {x : Str} {g : NSt → R (List PyData)} {e : Expr} {es : List Expr} {fs : NSt → R (List AV)} {p pos : Pos} (F : NFnO X.prog X.w X.K X.mg X.base k x n g) (hr : Room k X.A) (tk : Takes X W) (ha : NA X W (e :: es) fs) (hn : (e :: es).length = n) (hg : Gl X x := by rfl)
    (hl : ∀ (m : NSt) (as : List AV) (m' : NSt), fs m = .ok as m' → as.length = n)
    (hdb : (x == ("__debug__" : Str)) = false := by decide) (he : starEach (e :: es) X.env = (false, eval e X.env) :: starEach es X.env := by rfl) (hpl : (backTo pos (starEach es X.env)).any (·.1) = false := by rfl) :
    NEo X W (.Call (.Name x p) (e :: es) [] pos) (nCallO g fs) := by
  obtain ⟨f, fd, ps, G, hm, hk, hb⟩ := F.ex
  obtain ⟨t, pa, s⟩ := ha.ex
  refine ⟨_, pe_callS G hr hg hm hk hb (passAt tk) pa hdb he hpl, fun c Q S h => ?_⟩
  refine s c _ S (Pst.seq (rel := relA X.K) (rel' := relO X.K) mono_O h fun as n1 vs H1 F1 eok st1 S1 r1 h1 => ?_)
  split at h1
  · rename_i nd
    cases er : resolve n1 as with
    | none => rw [er] at h1; exact h1.elim
    | some a =>
      rw [er] at h1
      obtain ⟨SA, no, nn, _⟩ := Sim.args (c := ⟨n1, c.s, H1, F1⟩) S1 nd r1 er
      refine ⟨a, F1, by rw [resolve_len er]; exact hl _ _ _ eok, no, nn, SA, ?_⟩
      dsimp only at h1
      cases eg : g a with
      | ok d os =>
        rw [eg] at h1
        intro v H' F' st S' rv
        obtain ⟨st2, S2, hd2⟩ := Sim.back (c := ⟨n1, c.s, H1, F1⟩) S1 nd r1 er st S'
        obtain ⟨b, ws, e, h0, nf, hH, nh, rr⟩ := rv
        exact h1 v H' F' st2 S2 ⟨b, ws, e, h0, nf, hH, fun z => S1.hdH (hd2 b z) h0, rr⟩
      | err x os =>
        rw [eg] at h1
        intro cls d H' F' st S' rv
        obtain ⟨st2, S2, _⟩ := Sim.back (c := ⟨n1, c.s, H1, F1⟩) S1 nd r1 er st S'
        exact h1 cls d H' F' st2 S2 rv
      | bad => rw [eg] at h1; exact h1.elim
  · exact h1.elim
end
end NL
end L2
/-! NL11: what a law's text asks: lengths of argument rows, room, builtins' names, facts of the written part, the end. -/
namespace L2
namespace NL
open PySem PySem.Spec PyProof.Rows
theorem aNil_len : ∀ (m : NSt) (as : List AV) (m' : NSt), aNil m = .ok as m' → as.length = 0 := fun m as m' e => by
  cases e; rfl
theorem aCons_len {p : Opd} {f : NSt → R (List AV)} {k : Nat} (h : ∀ (m : NSt) (as : List AV) (m' : NSt), f m = .ok as m' → as.length = k) : ∀ (m : NSt) (as : List AV) (m' : NSt), aCons p f m = .ok as m' → as.length = k + 1 := fun m as m' e => by
  unfold aCons at e
  cases q : p.run m with
  | ok a n1 =>
    rw [q] at e
    have e : (f n1).bind (fun as n2 => R.ok (a :: as) n2) = .ok as m' := e
    cases q2 : f n1 with
    | ok bs n2 =>
      rw [q2] at e
      cases e
      simp [h _ _ _ q2]
    | err x n => rw [q2] at e; cases e
    | bad => rw [q2] at e; cases e
  | err x n => rw [q] at e; cases e
  | bad => rw [q] at e; cases e
theorem u65 {k : Nat} {A : Around} (r : Room k A) : A.units + 65 < cLine := by have := r.un; omega
theorem bt_len : bootBuiltins "len" = some (.builtin "len") := by decide +kernel
theorem bt_all : bootBuiltins "all" = some (.builtin "all") := by decide +kernel
theorem bt_any : bootBuiltins "any" = some (.builtin "any") := by decide +kernel
theorem bt_sum : bootBuiltins "sum" = some (.builtin "sum") := by decide +kernel
theorem bt_max : bootBuiltins "max" = some (.builtin "max") := by decide +kernel
theorem bt_min : bootBuiltins "min" = some (.builtin "min") := by decide +kernel
theorem bt_abs : bootBuiltins "abs" = some (.builtin "abs") := by decide +kernel
theorem bt_int : bootBuiltins "int" = some (.type "int") := by decide +kernel
theorem bt_bool : bootBuiltins "bool" = some (.type "bool") := by decide +kernel
theorem bt_str : bootBuiltins "str" = some (.type "str") := by decide +kernel
theorem bt_list : bootBuiltins "list" = some (.type "list") := by decide +kernel
theorem bt_tuple : bootBuiltins "tuple" = some (.type "tuple") := by decide +kernel
theorem bt_dict : bootBuiltins "dict" = some (.type "dict") := by decide +kernel
theorem bt_sorted : bootBuiltins "sorted" = some (.builtin "sorted") := by decide +kernel
theorem NFnO.mono {P : Program} {w : World} {K : PySem.W.Frag} {mg : Str → Option Value} {base : Heap} {k k' : Nat} {x : Str} {n : Nat} {g : NSt → R (List PyData)} (h : NFnO P w K mg base k x n g) (hk : k ≤ k') : NFnO P w K mg base k' x n g :=
  let ⟨f, fd, ps, F, m, kp, b⟩ := h.ex; ⟨f, fd, ps, F.mono hk, m, kp, b⟩
theorem NFl.mono {P : Program} {w : World} {K : PySem.W.Frag} {mg : Str → Option Value} {base : Heap} {k k' : Nat} {x : Str} {sub : Str → Str → Bool} {tbl : List Str} (h : NFl P w K mg base k x sub tbl) (hk : k ≤ k') : NFl P w K mg base k' x sub tbl :=
  let ⟨f, fd, ps, F, m, kp, b⟩ := h.ex; ⟨f, fd, ps, ⟨F.len, fun A outer s H args us vs Q p hr => F.run A outer s H args us vs Q p (hr.mono hk)⟩, m, kp, b⟩
/-- a new list if .. else a new list -/
def nIfO (t : NSt → R Bool) (f g : NSt → R (List PyData)) : NSt → R (List PyData) := fun n => (t n).bind fun b n' => if b = true then f n' else g n'
theorem neo_if {X : Cx} {W : WX} {c a b : Expr} {pos : Pos} {ft : NSt → R Bool} {va vb : NSt → R (List PyData)} (hc : NT X W c ft) (ha : NEo X W a va) (hb : NEo X W b vb) : NEo X W (.IfExp c a b pos) (nIfO ft va vb) := by
  obtain ⟨tc, pc, sc⟩ := hc.ex
  obtain ⟨ta, pa, sa⟩ := ha.ex
  obtain ⟨tb, pb, sb⟩ := hb.ex
  refine ⟨tIf tc ta tb, pe_ifExp pc pa pb, fun c Q S h => ?_⟩
  refine sc c _ S (Pst.seq (rel := relT) (rel' := relO X.K) mono_O h fun k n' k' H' F' _ st S' r q => ?_)
  cases r
  cases k with
  | true => exact iteT (sa ⟨n', c.s, H', F'⟩ Q S' q)
  | false => exact iteF (sb ⟨n', c.s, H', F'⟩ Q S' q)
/-! ### a def that promises nothing -/
section
variable {P : Program} {w : World} {K : PySem.W.Frag} {mg : Str → Option Value} {base : Heap}
theorem NFn.bad {x nm qual : Str} {params : Arguments} {sbody : List Stmt} {scope : Scope} {f : Addr} {fd : FuncData} {ps : List Str} {k n : Nat} (F : FunD K nm qual params sbody scope [] [] f fd) (hm : mg x = some (.ref f)) (hb : Binds K fd ps []) : NFn P w K mg base k x n (fun _ => .bad) :=
  ⟨f, fd, ps, ⟨fun _ _ _ _ h => by obtain ⟨_, _, _, _, _, _, h⟩ := h; exact h.elim, fun _ _ _ _ _ _ _ _ _ _ _ _ _ h => by obtain ⟨_, _, _, _, _, _, h⟩ := h; exact h.elim⟩, hm, F.kp, hb⟩
/-- where a def of the text stands -/
structure DefIn (K : PySem.W.Frag) (mg : Str → Option Value) (x py : Str) (st : Stmt) : Prop where
  ex : ∃ (f : Addr) (fd : FuncData), FunD K py py (defArgs st) (defBody st) (defScope st) [] [] f fd ∧ mg x = some (.ref f)
end
/-! ### facts of the written part -/
mutual
def valOk (K : PySem.W.Frag) : PyData → Value → Bool
  | .none, .none => true
  | .bool a, .bool b => a == b
  | .int i, .int j _ => decide (i = j)
  | .str a, .str b _ => decide (a = b)
  | .tuple ds, .ref a => match K.lookup a with
    | some ⟨.type c, _, .seq its _, _⟩ => decide (c = "tuple") && (decide (its.size ≤ sizeLine) && valsOk K ds its.toList)
    | _ => false
  | _, _ => false
def valsOk (K : PySem.W.Frag) : List PyData → List Value → Bool
  | [], [] => true
  | d :: ds, v :: vs => valOk K d v && valsOk K ds vs
  | _, _ => false
end
theorem Vals.mk {v : V} {u : Value} {vs : List V} {us : List Value} (h1 : RelV v u) (h2 : Vals vs us) : Vals (v :: vs) (u :: us) := .cons h1 h2
mutual
theorem valOk_ok {K : PySem.W.Frag} : ∀ (d : PyData) (v : Value), valOk K d v = true → ∃ w, RelV w v ∧ ∀ H F, Rep K H F d w
  | .none, v, h => by
    cases v <;> first | exact ⟨.non, rfl, fun _ _ => Rep.mkNone⟩ | (unfold valOk at h; cases h)
  | .bool a, v, h => by
    cases v <;> first | (unfold valOk at h; have e := eq_of_beq h; subst e; exact ⟨.bl a, rfl, fun _ _ => Rep.mkBool⟩) | (unfold valOk at h; cases h)
  | .int a, v, h => by
    cases v <;> first | (unfold valOk at h; have e := of_decide_eq_true h; subst e; exact ⟨.int a, ⟨_, rfl⟩, fun _ _ => Rep.mkInt⟩) | (unfold valOk at h; cases h)
  | .str a, v, h => by
    cases v <;> first | (unfold valOk at h; have e := of_decide_eq_true h; subst e; exact ⟨.str a, ⟨_, rfl⟩, fun _ _ => Rep.mkStr⟩) | (unfold valOk at h; cases h)
  | .tuple ds, v, h => by
    cases v with
    | ref a =>
      unfold valOk at h
      split at h
      · rename_i c od its n sl q
        obtain ⟨h1, h2⟩ := Bool.and_eq_true_iff.mp h
        obtain ⟨h2, h3⟩ := Bool.and_eq_true_iff.mp h2
        have h1 := of_decide_eq_true h1
        have h2 := of_decide_eq_true h2
        subst h1
        obtain ⟨ws, hv, hr⟩ := valsOk_ok ds _ h3
        exact ⟨.ref a, rfl, fun H F => Rep.mkTupK (fun H' => .inr ⟨_, its, n, q, rfl, rfl, h2, hv⟩) (hr H F)⟩
      · cases h
    | _ => unfold valOk at h; cases h
  | .list ds, v, h => by unfold valOk at h; cases h
  | .dict ds, v, h => by unfold valOk at h; cases h
theorem valsOk_ok {K : PySem.W.Frag} : ∀ (ds : List PyData) (vs : List Value), valsOk K ds vs = true → ∃ ws, Vals ws vs ∧ ∀ H F, Reps K H F ds ws
  | [], vs, h => by
    cases vs with
    | nil => exact ⟨[], .nil, fun _ _ => Reps.nil⟩
    | cons v vs => unfold valsOk at h; cases h
  | d :: ds, vs, h => by
    cases vs with
    | nil => unfold valsOk at h; cases h
    | cons v vs =>
      unfold valsOk at h
      obtain ⟨h1, h2⟩ := Bool.and_eq_true_iff.mp h
      obtain ⟨w, r1, r2⟩ := valOk_ok d v h1
      obtain ⟨ws, r3, r4⟩ := valsOk_ok ds vs h2
      exact ⟨w :: ws, .cons r1 r3, fun H F => Reps.cons (r2 H F) (r4 H F)⟩
end
inductive Fb where
  | dat (x : Str) (d : PyData)
  | excC (x : Str)
  | kit (x y : Str) (b : Bool)
def Fb.ok (K : PySem.W.Frag) : Fb → Bool
  | .dat x d => match PySem.W.nsIn K mainGlobals x with
    | some (some v) => valOk K d v
    | _ => false
  | .excC x => He.eqO (PySem.W.findIn K (.ref (He.ga K x)) "__getattribute__") (some (some (.builtin "BaseException.__getattribute__"))) && (He.eqO (PySem.W.findIn K (.ref (He.ga K x)) "__getattr__") (some none) && (decide (PySem.W.subIn K (.ref (He.ga K x)) (.type "BaseException") = some true) &&
    (PySem.W.hasDictIn K (He.ga K x) && (He.eqO (PySem.W.findIn K (.ref (He.ga K x)) "__class__") (some (some (.builtin "object.__class__"))) && (decide (PySem.W.takesIn K (.builtin "object.__class__") = some true) && decide (PySem.W.mroIn K (He.ga K x) (.type "object") = some true)))))) && He.eqO (PySem.W.specialIn K (.builtin "object.__class__") "__get__") (some (some (.builtin "getset_descriptor.__get__")))
  | .kit x y b => decide (PySem.W.kitOne K (.ref (He.ga K x)) (.ref (He.ga K y)) = some b)
section
variable {K : PySem.W.Frag} {h : Heap} {mg : Str → Option Value}
theorem dat_ok (X : K.In h) (G : h.Ns mainGlobals mg) {x : Str} {d : PyData} (c : (Fb.dat x d).ok K = true) : Gv K mg x d := by
  have c : (match PySem.W.nsIn K mainGlobals x with
    | some (some v) => valOk K d v
    | _ => false) = true := c
  split at c
  · rename_i v q
    obtain ⟨w, r, rr⟩ := valOk_ok d v c
    exact ⟨w, v, PySem.W.mg_of X G q, r, rr⟩
  · cases c
theorem gv_int {x : Str} {i : Int} (h : ∃ t, mg x = some (.int i t)) : Gv K mg x (.int i) := let ⟨t, e⟩ := h; ⟨.int i, _, e, ⟨t, rfl⟩, fun _ _ => Rep.mkInt⟩
theorem gv_str {x : Str} {i : Str} (h : ∃ t, mg x = some (.str i t)) : Gv K mg x (.str i) := let ⟨t, e⟩ := h; ⟨.str i, _, e, ⟨t, rfl⟩, fun _ _ => Rep.mkStr⟩
theorem excF_ok (X : K.In h) (G : h.Ns mainGlobals mg) {x : Str} (c : (He.Fa.exc x).ok K = true) (g : (He.Fa.glo x).ok K = true) : ExcF K mg x := by
  obtain ⟨h1, h2, h3, h4⟩ := He.exc_ok c
  exact ⟨_, He.glo_ok X G g, h1, h2, h3, h4⟩
theorem excC_ok {x : Str} (c : (Fb.excC x).ok K = true) : ExcC K (He.ga K x) := by
  unfold Fb.ok at c
  obtain ⟨c, hn⟩ := Bool.and_eq_true_iff.mp c
  obtain ⟨c1, c⟩ := Bool.and_eq_true_iff.mp c
  obtain ⟨c2, c⟩ := Bool.and_eq_true_iff.mp c
  obtain ⟨c3, c⟩ := Bool.and_eq_true_iff.mp c
  obtain ⟨c4, c⟩ := Bool.and_eq_true_iff.mp c
  obtain ⟨c5, c⟩ := Bool.and_eq_true_iff.mp c
  obtain ⟨c6, c7⟩ := Bool.and_eq_true_iff.mp c
  exact ⟨He.eqO_ok c1, He.eqO_ok c2, of_decide_eq_true c3, c4, He.eqO_ok c5, He.eqO_ok hn, of_decide_eq_true c6, of_decide_eq_true c7⟩
theorem kit_ok {x y : Str} {b : Bool} (c : (Fb.kit x y b).ok K = true) : PySem.W.kitOne K (.ref (He.ga K x)) (.ref (He.ga K y)) = some b := of_decide_eq_true c
end
/-! ### the head: facts of two sorts -/
abbrev AlM : Type := He.AlD × Bool
def obsM (n : Nat) (fa : List He.Fa) (fn : List He.DefD) (fb : List Fb) (g : Addr → Option Obj) : AlM := (He.obsDG n fa fn g, fb.all fun f => f.ok (He.frG g (He.asD g n)))
def hookM (n : Nat) (fa : List He.Fa) (fn : List He.DefD) (fb : List Fb) : PySem.W.Hook where
  α := AlM
  obs := fun s => obsM n fa fn fb s.heap.get?
  val := fun _ => (He.valD fn, true)
  says := fun _ h => ∃ K : PySem.W.Frag, K.In h ∧ He.SaysD fa fn K ∧ (fb.all fun f => f.ok K) = true
  of := fun _ s e => ⟨_, He.frG_in, congrArg (fun z : AlM => z.1) e, congrArg (fun z : AlM => z.2) e⟩
  keeps := fun _ _ _ ⟨K, hK, c⟩ k => ⟨K, PySem.W.Frag.In.keeps hK k, c⟩
theorem obsM_eq {n : Nat} {fa : List He.Fa} {fn : List He.DefD} {fb : List Fb} {g : Addr → Option Obj} {s : Shared} (h : ∀ a, g a = s.heap.get? a) : obsM n fa fn fb g = (hookM n fa fn fb).obs s := by
  have e : g = s.heap.get? := funext h
  rw [e] <;> rfl
theorem fb_at {K : PySem.W.Frag} {fb : List Fb} (c : (fb.all fun f => f.ok K) = true) (i : Nat) {f : Fb} (h : fb[i]? = some f := by rfl) : f.ok K = true := List.all_eq_true.mp c f (List.mem_of_getElem? h)
/-! ### the end -/
/-- what nothing of an error lets out -/
def CXe : CXT := fun _ _ _ E _ _ => ∃ (cls : Value) (d : Option Addr) (H' : Hp), E cls d H'
theorem FnOk.toE {P : Program} {w : World} {K : PySem.W.Frag} {mg : Str → Option Value} {base : Heap} {k : Nat} {f : Addr} {fd : FuncData} {ps : List Str} {sp : Sp} (F : FnOk P w K mg base (L2.CX P w) k f fd ps sp) : FnOk P w K mg base CXe k f fd ps sp := by
  refine ⟨F.len, fun A outer s H args us vs Q E hr he hb hv hs => codeAny_mono (F.run A outer s H args us vs Q E hr he hb hv hs) fun r s' q => ?_⟩
  cases r with
  | ok fl => cases fl <;> exact q
  | error e =>
    obtain ⟨a, B, H', cls, d, _, _, _, _, _, _, _, q⟩ := q
    exact ⟨cls, d, H', q⟩
end NL
end L2
/-! NL12: the end of a law. -/
namespace L2
namespace NL
open PySem PySem.Spec PyProof.Rows
theorem fall_nil {p : Str → Prop} : ∀ t ∈ ([] : List Str), p t := fun _ h => by cases h
theorem fall_cons {p : Str → Prop} {a : Str} {l : List Str} (h : p a) (r : ∀ t ∈ l, p t) : ∀ t ∈ a :: l, p t := fun t q => by
  rcases List.mem_cons.mp q with e | e
  · subst e; exact h
  · exact r t e
theorem law_end {K : PySem.W.Frag} {mg : Str → Option Value} {g : NExp} {m : Nat} (h : ∀ ns : List Int, ns.length ≤ m → ∃ n' : NSt, g [some (.scr (ns.map .int))] = .ok (.bool true) n') :
    ∀ (H : Hp) (a : Addr) (ns : List Int), ns.length ≤ m → Only H → SqL K H a (ns.map V.int) → NProm K mg 1 g [.ref a] H (fun v _ => v = .bl true) fun _ _ _ => False := by
  intro H a ns hl hO hS
  obtain ⟨n', e⟩ := h ns hl
  refine ⟨[some (.scr (ns.map .int))], fun _ => False, rfl, fun i xs q => ?_, fun o q => ?_, ⟨rfl, fun i sl q => ?_, fun i j si sj b q1 q2 h1 h2 _ _ => ?_, fun _ z => z.elim⟩, ?_⟩
  · cases i with
    | zero => cases q
    | succ i => cases q
  · rcases List.mem_cons.mp q with q | q
    · rw [q]; simp
    · cases q
  · cases i with
    | zero =>
      have q : some (some (Sl.scr (ns.map PyData.int))) = some (some sl) := q
      cases q
      refine ⟨.ref a, rfl, a, ns, rfl, rfl, ?_⟩
      rcases hS with (hS | ⟨o, hS⟩) | ⟨o, its, n, q1, q2, q3, q4, q5, q6⟩
      · rcases hO a with z | ⟨o, xs, z⟩
        · rw [z] at hS; cases hS
        · rw [z] at hS; cases hS
      · exact .inl ⟨o, hS⟩
      · exact .inr fun H' => .inr ⟨o, its, n, q1, q2, q3, q4, q5, q6⟩
    | succ i => cases q
  · cases i with
    | zero =>
      have q1 : some (some (Sl.scr (ns.map PyData.int))) = some (some si) := q1
      cases q1
      cases h1
    | succ i => cases q1
  · rw [e]
    intro b H' F' _ _ r
    exact Rep.bool (K := K) (H := H') (F := F') r
end NL
end L2
/-! NL13: comprehensions of two clauses. -/
namespace L2
namespace NL
open PySem PySem.Spec PyProof.Rows
/-- frozen things are kept -/
def StepF (c c' : Cf) : Prop := ∀ a, c.F a → c'.F a ∧ c'.H a = c.H a
theorem StepF.of {K : PySem.W.Frag} {c c' : Cf} (st : Step c c') (S : Sim K c) : StepF c c' := st.frz S
theorem StepF.trans {a b c : Cf} (h : StepF a b) (g : StepF b c) : StepF a c := fun x f => ⟨(g x (h x f).1).1, (g x (h x f).1).2.trans (h x f).2⟩
def GivesF (K : PySem.W.Frag) (J : It) (ds : List PyData) (c1 : Cf) : Prop := ∀ c2 : Cf, StepF c1 c2 → Sim K c2 → ∀ i, i ≤ ds.length →
  (∀ d, ds[i]? = some d → J.go i c2.H ∧ ∀ x H', J.yld i c2.H x H' → ∃ F', Step c2 ⟨c2.n, c2.s, H', F'⟩ ∧ Sim K ⟨c2.n, c2.s, H', F'⟩ ∧ Rep K H' F' d x) ∧ (i = ds.length → J.stop i c2.H)
theorem givesF_list {K : PySem.W.Frag} {c1 : Cf} {a : Addr} {ds : List PyData} {vs : List V} (f : c1.F a) (h : c1.H a = some (.lst vs)) (r : Reps K c1.H c1.F ds vs) : GivesF K (Itl K a) ds c1 := fun c2 st S2 i hi => by
  have h2 : SqL K c2.H a vs := SqL.of ((st a f).2.trans h)
  have r2 : Reps K c2.H c2.F ds vs := Reps.keep st _ _ r
  refine ⟨fun d ed => ?_, fun e => ⟨vs, h2, by rw [r.length]; omega⟩⟩
  obtain ⟨v, ev, rv⟩ := r2.get ed
  refine ⟨⟨vs, v, h2, ev⟩, fun x H' ⟨e1, e2⟩ => ?_⟩
  subst e1
  have e3 := e2 vs h2
  rw [ev] at e3
  cases e3
  exact ⟨c2.F, Step.refl _, S2, rv⟩
theorem givesF_tup {K : PySem.W.Frag} {c1 : Cf} {a : Addr} {ds : List PyData} {vs : List V} (f : (c1.F a ∧ c1.H a = some (.tup vs)) ∨ ∀ H', SqT K H' a vs) (r : Reps K c1.H c1.F ds vs) : GivesF K (Itt K a) ds c1 := fun c2 st S2 i hi => by
  have h2 : SqT K c2.H a vs := by
    rcases f with ⟨f, h⟩ | f
    · exact SqT.of ((st a f).2.trans h)
    · exact f _
  have r2 : Reps K c2.H c2.F ds vs := Reps.keep st _ _ r
  refine ⟨fun d ed => ?_, fun e => ⟨vs, h2, by rw [r.length]; omega⟩⟩
  obtain ⟨v, ev, rv⟩ := r2.get ed
  refine ⟨⟨vs, v, h2, ev⟩, fun x H' ⟨e1, e2⟩ => ?_⟩
  subst e1
  have e3 := e2 vs h2
  rw [ev] at e3
  cases e3
  exact ⟨c2.F, Step.refl _, S2, rv⟩
theorem givesF_str {K : PySem.W.Frag} {c1 : Cf} {z : Str} : GivesF K (Its z) (z.cps.toList.map fun c => PyData.str ⟨#[c]⟩) c1 := fun c2 st S2 i hi => gives_str (c1 := c2) c2 (Step.refl _) S2 i hi
theorem givesF_rng {K : PySem.W.Frag} {c1 : Cf} {lo hi : Int} : GivesF K (Itr lo (hi - lo).toNat) (rgD lo hi) c1 := fun c2 st S2 i hi' => gives_rng (c1 := c2) c2 (Step.refl _) S2 i hi'
structure NI2 (X : Cx) (W : WX) (tg iter : Expr) (f : NSt → R (List PyData)) : Prop where
  ex : ∃ wi, PI X tg iter wi ∧ ∀ (c : Cf) (Q : It → Hp → Prop), Sim X.K c → Pst X.K X.mg W (fun _ c1 ds J => GivesF X.K J ds c1) c Q (f c.n) → wi c.s c.H Q
theorem mono_I2 {K : PySem.W.Frag} : Mono (fun _ c1 ds J => GivesF K J ds c1) := fun _ _ _ _ _ _ h => h
def cI (K : PySem.W.Frag) (mg : Str → Option Value) (W : WX) (f : NSt → R (List PyData)) : TI := fun σ H Q => ∃ c : Cf, c.s = σ ∧ c.H = H ∧ Sim K c ∧ Pst K mg W (fun _ c1 ds J => GivesF K J ds c1) c Q (f c.n)
theorem NI2.canon {X : Cx} {W : WX} {tg e : Expr} {f : NSt → R (List PyData)} (h : NI2 X W tg e f) : PI X tg e (cI X.K X.mg W f) := by
  obtain ⟨t, p, s⟩ := h.ex
  exact ⟨fun pins s0 σ H Q I ⟨c, e1, e2, S, q⟩ => by subst e1 e2; exact p.run pins s0 c.s c.H Q I (s c Q S q)⟩
section
variable {X : Cx} {W : WX} {tg : Expr}
theorem ni2_v {e : Expr} {f : NExp} (h : NE X W e f) : NI2 X W tg e (iV f) := by
  obtain ⟨t, p, s⟩ := h.ex
  refine ⟨iAnyN X.K t, pi_anyN p, fun c Q S q => ?_⟩
  refine s c _ S (Pst.seq (rel := relE X.K) (rel' := fun _ c1 ds J => GivesF X.K J ds c1) mono_I2 q fun d n' v H' F' _ st S' r q' => ?_)
  cases d with
  | list xs =>
    obtain ⟨a, vs, rfl, f, h, rs⟩ := Rep.list (K := X.K) (H := H') (F := F') r
    exact .inl ⟨a, rfl, ⟨vs, SqL.of h⟩, q' (Itl X.K a) H' F' (Step.refl _) S' (givesF_list f h rs)⟩
  | tuple xs =>
    have r' : Rep X.K H' F' (.tuple xs) v := r
    unfold Rep at r'
    obtain ⟨a, vs, rfl, f, rs⟩ := r'
    refine .inr (.inl ⟨a, rfl, ⟨vs, ?_⟩, q' (Itt X.K a) H' F' (Step.refl _) S' (givesF_tup f rs)⟩)
    rcases f with ⟨f, h⟩ | f
    · exact SqT.of h
    · exact f _
  | str z => exact .inr (.inr ⟨z, Rep.str (K := X.K) (H := H') (F := F') r, q' (Its z) H' F' (Step.refl _) S' givesF_str⟩)
  | _ => exact q'.elim
theorem ni2_rg1 {a : Expr} {fs : NSt → R (List AV)} {p pos : Pos} (hm : X.mg "range" = none) (ha : NA X W [a] fs) (hg : Gl X "range" := by rfl) (hs : starEach [a] X.env = [(false, eval a X.env)] := by rfl) : NI2 X W tg (.Call (.Name "range" p) [a] [] pos) (iRg1 fs) := by
  obtain ⟨t, pa, s⟩ := ha.ex
  refine ⟨iRng1 t, pi_range1 hg hm pa hs, fun c Q S q => ?_⟩
  refine s c _ S (Pst.seq (rel := relA X.K) (rel' := fun _ c1 ds J => GivesF X.K J ds c1) mono_I2 q fun as n' vs H' F' _ st S' r q' => ?_)
  split at q'
  · rename_i j _
    split at q'
    · rename_i hz
      cases r with
      | cons r1 rr =>
        cases rr
        obtain ⟨h1, h2⟩ := rgOk_ok hz
        have e1 : _ = V.int j := Rep.int (K := X.K) (H := H') (F := F') r1
        subst e1
        have gg : GivesF X.K (Itr 0 j.toNat) (rgD 0 j) ⟨n', c.s, H', F'⟩ := by
          have := givesF_rng (K := X.K) (c1 := ⟨n', c.s, H', F'⟩) (lo := 0) (hi := j)
          rw [Int.sub_zero] at this
          exact this
        exact ⟨j, rfl, h1, h2, q' (Itr 0 j.toNat) H' F' (Step.refl _) S' gg⟩
    · exact q'.elim
  · exact q'.elim
theorem ni2_rg2 {a b : Expr} {fs : NSt → R (List AV)} {p pos : Pos} (hm : X.mg "range" = none) (ha : NA X W [a, b] fs) (hg : Gl X "range" := by rfl) (hs : starEach [a, b] X.env = [(false, eval a X.env), (false, eval b X.env)] := by rfl) (hs2 : starEach [b] X.env = [(false, eval b X.env)] := by rfl) :
    NI2 X W tg (.Call (.Name "range" p) [a, b] [] pos) (iRg2 fs) := by
  obtain ⟨t, pa, s⟩ := ha.ex
  refine ⟨iRng2 t, pi_range2 hg hm pa hs hs2, fun c Q S q => ?_⟩
  refine s c _ S (Pst.seq (rel := relA X.K) (rel' := fun _ c1 ds J => GivesF X.K J ds c1) mono_I2 q fun as n' vs H' F' _ st S' r q' => ?_)
  split at q'
  · rename_i i j _
    split at q'
    · rename_i hz
      cases r with
      | cons r1 rr =>
        cases rr with
        | cons r2 rr =>
          cases rr
          obtain ⟨h1, h2⟩ := rgOk_ok hz.1
          obtain ⟨h3, h4⟩ := rgOk_ok hz.2
          have e1 : _ = V.int i := Rep.int (K := X.K) (H := H') (F := F') r1
          have e2 : _ = V.int j := Rep.int (K := X.K) (H := H') (F := F') r2
          subst e1 e2
          exact ⟨i, j, rfl, ⟨h1, h2, h3, h4⟩, q' (Itr i (j - i).toNat) H' F' (Step.refl _) S' givesF_rng⟩
    · exact q'.elim
  · exact q'.elim
end
/-! ### the walk -/
def nLc2L (g : PyData → NSt → Option NSt) (t : NSt → R Bool) (fi1 : NSt → R (List PyData)) (g1 : PyData → NSt → Option NSt) (t1 : NSt → R Bool) (f : NExp) (vs vs1 : List Nat) : List PyData → List PyData → NSt → R (List PyData)
  | [], acc, n => .ok acc n
  | d :: ds, acc, n => match g d n with
    | none => .bad
    | some n1 => (t n1).bind fun b n2 => if b = true then (fi1 n2).bind fun ds1 n3 => if noHeld n3 vs1 = true then (nLcL g1 t1 f vs1 ds1 acc (wipeN n3 vs1)).bind fun acc' n4 => nLc2L g t fi1 g1 t1 f vs vs1 ds acc' (wipeN n4 vs) else .bad
      else nLc2L g t fi1 g1 t1 f vs vs1 ds acc (wipeN n2 vs)
def nLc2 (fi : NSt → R (List PyData)) (g : PyData → NSt → Option NSt) (t : NSt → R Bool) (fi1 : NSt → R (List PyData)) (g1 : PyData → NSt → Option NSt) (t1 : NSt → R Bool) (f : NExp) (vs vs1 : List Nat) : NSt → R (List PyData) := fun n => (fi n).bind fun ds n1 => if noHeld n1 vs = true ∧ ∀ i ∈ vs1, i ∈ vs then (match nLc2L g t fi1 g1 t1 f vs vs1 ds [] (wipeN n1 vs) with
  | .ok acc n2 => .ok acc (restoreN n2 n1 vs)
  | _ => .bad) else .bad
theorem wipe_wipe {σ : L2.St} {vs vs1 : List Nat} (h : ∀ i ∈ vs1, i ∈ vs) : wipe (wipe σ vs1) vs = wipe σ vs :=
  wipe_eq (wipe_length _ _) fun j hj => by rw [wipe_out' (fun z => hj (h j z)), wipe_out' hj]
section
variable {K : PySem.W.Frag}
/-- D is written, slots are wiped, at the slots' own -/
theorem Sim.wipeH {c1 c4 : Cf} {vs : List Nat} {D : Addr} {acc acc' : List PyData} {us : List V} (nv : ∀ v ∈ vs, ∀ sl : Sl, c1.n[v]? = some (some sl) → sl.held = false) (st : Step c1 c4) (S : Sim K c4) (hD : c1.H D = none) (nfD : ¬ c4.F D) (nhD : ¬ c4.Hd D) (hDl : ∀ o u, c4.H D ≠ some (.frz o u))
    (r : Reps K c4.H c4.F acc' us) :
    let c5 : Cf := ⟨wipeN c4.n vs, wipe c4.s vs, upd c4.H D (.lst us), c4.F⟩; Step c1 c5 ∧ Sim K c5 ∧ Apart K c5 D acc' := by
  intro c5
  have fr : ∀ a, c4.F a → c4.F a ∧ upd c4.H D (.lst us) a = c4.H a := fun a f => ⟨f, upd_ne fun z => by subst z; exact nfD f⟩
  have old : ∀ (j : Nat) (s : Sl), (wipeN c4.n vs)[j]? = some (some s) → j ∉ vs ∧ c4.n[j]? = some (some s) := fun j s e => by
    by_cases hj : j ∈ vs
    · exact absurd e (wipeN_in hj)
    · rw [wipeN_out hj] at e; exact ⟨hj, e⟩
  have oldS : ∀ {j : Nat}, j ∉ vs → (wipe c4.s vs)[j]? = c4.s[j]? := fun {j} hj => by rw [wipe_out' hj]
  have hd5 : ∀ a, c5.Hd a → c4.Hd a := fun a ⟨j, s, e, hh, es⟩ => by
    obtain ⟨hj, e1⟩ := old j s e
    exact ⟨j, s, e1, hh, by rw [← oldS hj]; exact es⟩
  refine ⟨⟨fun a n nh => ?_, fun a n => ?_, st.fz, st.fn, fun a h => st.hd a (hd5 a h), fun a ⟨j, xs, e, es⟩ => ?_, fun i xs e => ?_, by show (wipeN c4.n vs).length = _; rw [wipeN_len]; exact st.ln⟩, ⟨?_, fun j s e => ?_, fun i j si sj b e1 e2 h1 h2 q1 q2 => ?_, fun a f => ?_⟩, ⟨⟨us, upd_same, Reps.keep fr _ _ r⟩, nfD, fun h => nhD (hd5 D h)⟩⟩
  · have : a ≠ D := fun z => by subst z; exact n hD
    show upd c4.H D (.lst us) a = _
    rw [upd_ne this]; exact st.keep a n nh
  · have : a ≠ D := fun z => by subst z; exact n hD
    show upd c4.H D (.lst us) a ≠ none
    rw [upd_ne this]; exact st.live a n
  · obtain ⟨hj, e1⟩ := old j _ e
    exact st.ow a ⟨j, xs, e1, by rw [← oldS hj]; exact es⟩
  · obtain ⟨ys, e1, e2⟩ := st.mu i xs e
    have hi : i ∉ vs := fun z => by have := nv i z _ e; cases this
    exact ⟨ys, by show (wipeN c4.n vs)[i]? = _; rw [wipeN_out hi]; exact e1, by show (wipe c4.s vs)[i]? = _; rw [wipe_out' hi]; exact e2⟩
  · show (wipeN c4.n vs).length = (wipe c4.s vs).length
    rw [wipeN_len, wipe_length]; exact S.len
  · obtain ⟨hj, e1⟩ := old j s e
    obtain ⟨v, e2, q⟩ := S.slot j s e1
    refine ⟨v, by show (wipe c4.s vs)[j]? = _; rw [oldS hj]; exact e2, ?_⟩
    have away : ∀ b, s.held = true → v = .ref b → b ≠ D := fun b hh z y => by
      subst z; subst y
      exact nhD ⟨j, s, e1, hh, e2⟩
    cases s with
    | val d => exact Rep.keep fr d v q
    | own xs =>
      obtain ⟨b, ws, rfl, nb, hb, rb⟩ := q
      exact ⟨b, ws, rfl, nb, (upd_ne (away b rfl rfl)).trans hb, Reps.keep fr _ _ rb⟩
    | lent xs =>
      obtain ⟨b, ws, rfl, nb, hb, rb⟩ := q
      exact ⟨b, ws, rfl, nb, (upd_ne (away b rfl rfl)).trans hb, Reps.keep fr _ _ rb⟩
    | scr xs =>
      obtain ⟨b, ns, rfl, e3, z⟩ := q
      refine ⟨b, ns, rfl, e3, ?_⟩
      rcases z with ⟨o, z⟩ | z
      · refine .inl ⟨o, (upd_ne fun y => ?_).trans z⟩
        subst y
        exact hDl _ _ z
      · exact .inr z
  · obtain ⟨hi, e1⟩ := old i si e1
    obtain ⟨hj, e2⟩ := old j sj e2
    exact S.sep i j si sj b e1 e2 h1 h2 (by rw [← oldS hi]; exact q1) (by rw [← oldS hj]; exact q2)
  · show upd c4.H D (.lst us) a ≠ none
    rw [(fr a f).2]; exact S.fz a f
theorem upd_eqF {H : Hp} {D : Addr} {ws : List V} (hw : H D = some (.lst ws)) : upd H D (.lst ws) = H := by
  funext b
  by_cases hb : b = D
  · subst hb; rw [upd_same]; exact hw.symm
  · rw [upd_ne hb]
end
section
variable {X : Cx} {W : WX}
theorem lc2_st {own : List (Str × Nat)} {vs0 vs1 : List Nat} (h0 : ∀ i ∈ vs0, i ∈ own.map (·.2)) {wi : TI} {fi fi1 : NSt → R (List PyData)} {gg gg1 : PyData → NSt → Option NSt} {t t1 : NSt → R Bool} {f : NExp}
    (si : ∀ (c : Cf) (Q : It → Hp → Prop), Sim X.K c → Pst X.K X.mg W (fun _ c1 ds J => Gives X.K J ds c1) c Q (fi c.n) → wi c.s c.H Q)
    {c : Cf} {Q : VK} (S : Sim X.K c) (h : Pst X.K X.mg W (relO X.K) c Q (nLc2 fi gg t fi1 gg1 t1 f (own.map (·.2)) vs1 c.n)) :
    tLc2 wi (cG X.K vs0 gg) (cT X.K X.mg W0 t) (cI X.K X.mg W0 fi1) (cG X.K vs1 gg1) (cT X.K X.mg W0 t1) (cE X.K X.mg W0 f) (own.map (·.2)) vs1 c.s c.H Q := by
  generalize hvs : own.map (·.2) = vs at h h0 ⊢
  refine si c _ S (Pst.seq (rel := fun _ c1 ds J => Gives X.K J ds c1) (rel' := relO X.K) mono_O h fun ds n1 J H1 F1 _ st1 S1 gv h1 => ?_)
  intro D hD
  split at h1
  · rename_i hnh
    obtain ⟨hnh, hin⟩ := hnh
    have nv : ∀ v ∈ vs, ∀ sl : Sl, n1[v]? = some (some sl) → sl.held = false := fun v hv sl e => noHeld_ok hnh hv e
    have nv1 : ∀ v ∈ vs1, ∀ sl : Sl, n1[v]? = some (some sl) → sl.held = false := fun v hv sl e => noHeld_ok hnh (hin v hv) e
    cases el : nLc2L gg t fi1 gg1 t1 f vs vs1 ds [] (wipeN n1 vs) with
    | ok accF nF =>
      rw [el] at h1
      let c1 : Cf := ⟨n1, c.s, H1, F1⟩
      have S1' : Sim X.K c1 := S1
      have start := Sim.wipeD (K := X.K) (c1 := c1) (c4 := c1) (vs := vs) (D := D) (acc := []) (acc' := []) (us := []) nv (Step.refl _) S1' hD (fun f => S1'.fz D f hD) (fun hd => S1'.hdH hd hD) (fun o u z => by have z' : H1 D = _ := z; rw [hD] at z'; cases z') rfl Reps.nil
      refine ⟨fun i m H => ∃ (cc : Cf) (acc : List PyData), cc.s = wipe c.s vs ∧ cc.H = H ∧ i ≤ ds.length ∧ m = ds.length - i ∧ Step c1 cc ∧ Sim X.K cc ∧ Apart X.K cc D acc ∧ nLc2L gg t fi1 gg1 t1 f vs vs1 (ds.drop i) acc cc.n = .ok accF nF, ⟨ds.length, _, [], rfl, rfl, Nat.zero_le _, rfl, start.1, start.2.1, start.2.2, el⟩, ?_⟩
      rintro i m H ⟨cc, acc, hcs, rfl, hi, rfl, stc, Sc, ap, er⟩
      obtain ⟨gi, gs⟩ := gv cc stc Sc i hi
      by_cases hlt : i < ds.length
      · have ed : ds[i]? = some ds[i] := List.getElem?_eq_getElem hlt
        obtain ⟨go, gy⟩ := gi _ ed
        have edr : ds.drop i = ds[i] :: ds.drop (i + 1) := List.drop_eq_getElem_cons hlt
        rw [edr] at er
        unfold nLc2L at er
        refine .inr ⟨go, fun H' => ∃ (cc' : Cf) (acc' : List PyData), cc'.s = wipe c.s vs ∧ cc'.H = H' ∧ Step c1 cc' ∧ Sim X.K cc' ∧ Apart X.K cc' D acc' ∧ nLc2L gg t fi1 gg1 t1 f vs vs1 (ds.drop (i + 1)) acc' cc'.n = .ok accF nF,
          fun H' ⟨cc', acc', z1, z2, z3, z4, z5, z6⟩ => ⟨ds.length - (i + 1), by omega, cc', acc', z1, z2, hlt, rfl, z3, z4, z5, z6⟩, fun x H' y => ?_⟩
        obtain ⟨F', st3, S3, r3⟩ := gy x H' y
        cases eg : gg ds[i] cc.n with
        | none => rw [eg] at er; cases er
        | some n3 =>
          rw [eg] at er
          dsimp only at er
          refine ⟨⟨cc.n, cc.s, H', F'⟩, ds[i], n3, hcs, rfl, S3, r3, eg, fun σ4 st4 S4 kk ll => ?_⟩
          have st34 : Step cc ⟨n3, σ4, H', F'⟩ := st3.trans st4
          have w4 : wipe σ4 vs = wipe c.s vs := wipe_eq (by have l1 : σ4.length = cc.s.length := ll; rw [l1, hcs, wipe_length]) fun j hj => by
            have := (kk j fun z => hj (h0 j z)).1
            have this' : σ4[j]? = cc.s[j]? := this
            rw [this', hcs]
          refine ⟨w4, ⟨n3, σ4, H', F'⟩, rfl, rfl, S4, ?_⟩
          cases et : t n3 with
          | bad => rw [et] at er; cases er
          | err x n5 => rw [et] at er; cases er
          | ok b n5 =>
            rw [et] at er
            intro b' H5 F5 st5 S5 rb
            cases rb
            have st35 : Step cc ⟨n5, σ4, H5, F5⟩ := st34.trans st5
            have er' : (if b = true then (fi1 n5).bind fun ds1 n3 => if noHeld n3 vs1 = true then (nLcL gg1 t1 f vs1 ds1 acc (wipeN n3 vs1)).bind fun acc' n4 => nLc2L gg t fi1 gg1 t1 f vs vs1 (ds.drop (i + 1)) acc' (wipeN n4 vs) else .bad
              else nLc2L gg t fi1 gg1 t1 f vs vs1 (ds.drop (i + 1)) acc (wipeN n5 vs)) = .ok accF nF := er
            cases b with
            | false =>
              refine iteF ?_
              have a5 := ap.step Sc st35
              obtain ⟨ws, hw, rw5⟩ := a5.ex
              have fin := Sim.wipeD (K := X.K) (c1 := c1) (c4 := ⟨n5, σ4, H5, F5⟩) (vs := vs) (D := D) (acc := acc) (acc' := acc) (us := ws) nv (stc.trans st35) S5 hD a5.nf a5.nh (fun o u z => by have z' := hw.symm.trans z; cases z') w4 rw5
              exact ⟨_, acc, rfl, upd_eqF hw, fin.1, fin.2.1, fin.2.2, er'⟩
            | true =>
              refine iteT ?_
              simp only [if_true] at er'
              refine ⟨⟨n5, σ4, H5, F5⟩, rfl, rfl, S5, ?_⟩
              cases ef : fi1 n5 with
              | bad => rw [ef] at er'; cases er'
              | err x n6 => rw [ef] at er'; cases er'
              | ok ds1 n6 =>
                rw [ef] at er'
                intro J1 H6 F6 st6 S6 gv1
                have er2 : (if noHeld n6 vs1 = true then (nLcL gg1 t1 f vs1 ds1 acc (wipeN n6 vs1)).bind fun acc' n4 => nLc2L gg t fi1 gg1 t1 f vs vs1 (ds.drop (i + 1)) acc' (wipeN n4 vs) else R.bad) = .ok accF nF := er'
                split at er2
                · rename_i hnh1
                  cases el1 : nLcL gg1 t1 f vs1 ds1 acc (wipeN n6 vs1) with
                  | bad => rw [el1] at er2; cases er2
                  | err x n7 => rw [el1] at er2; cases er2
                  | ok acc7 n7 =>
                    rw [el1] at er2
                    have er3 : nLc2L gg t fi1 gg1 t1 f vs vs1 (ds.drop (i + 1)) acc7 (wipeN n7 vs) = .ok accF nF := er2
                    have st36 : Step cc ⟨n6, σ4, H6, F6⟩ := st35.trans st6
                    have a6 := ap.step Sc st36
                    obtain ⟨ws, hw, rw6⟩ := a6.ex
                    have sm : Sim X.K ⟨n6, σ4, H6, F6⟩ := S6
                    have start1 := Sim.wipeH (K := X.K) (c1 := c1) (c4 := ⟨n6, σ4, H6, F6⟩) (vs := vs1) (D := D) (acc := acc) (acc' := acc) (us := ws) nv1 (stc.trans st36) sm hD a6.nf a6.nh (fun o u z => by have z' := hw.symm.trans z; cases z') rw6
                    refine ⟨fun j k H => ∃ (ci : Cf) (acci : List PyData), ci.s = wipe σ4 vs1 ∧ ci.H = H ∧ j ≤ ds1.length ∧ k = ds1.length - j ∧ Step c1 ci ∧ StepF ⟨n6, σ4, H6, F6⟩ ci ∧ Sim X.K ci ∧ Apart X.K ci D acci ∧ nLcL gg1 t1 f vs1 (ds1.drop j) acci ci.n = .ok acc7 n7,
                      ⟨ds1.length, _, acc, rfl, upd_eqF hw, Nat.zero_le _, rfl, start1.1, (fun a f => ⟨f, upd_ne fun z => by subst z; exact a6.nf f⟩), start1.2.1, start1.2.2, el1⟩, ?_⟩
                    rintro j k H ⟨ci, acci, his, rfl, hj, rfl, sti, sfi, Si, api, eri⟩
                    obtain ⟨gi1, gs1⟩ := gv1 ci sfi Si j hj
                    by_cases hlt1 : j < ds1.length
                    · have ed1 : ds1[j]? = some ds1[j] := List.getElem?_eq_getElem hlt1
                      obtain ⟨go1, gy1⟩ := gi1 _ ed1
                      have edr1 : ds1.drop j = ds1[j] :: ds1.drop (j + 1) := List.drop_eq_getElem_cons hlt1
                      rw [edr1] at eri
                      unfold nLcL at eri
                      refine .inr ⟨go1, fun H' => ∃ (ci' : Cf) (acc' : List PyData), ci'.s = wipe σ4 vs1 ∧ ci'.H = H' ∧ Step c1 ci' ∧ StepF ⟨n6, σ4, H6, F6⟩ ci' ∧ Sim X.K ci' ∧ Apart X.K ci' D acc' ∧ nLcL gg1 t1 f vs1 (ds1.drop (j + 1)) acc' ci'.n = .ok acc7 n7,
                        fun H' ⟨cc', acc', z1, z2, z3, z4, z5, z6, z7⟩ => ⟨ds1.length - (j + 1), by omega, cc', acc', z1, z2, hlt1, rfl, z3, z4, z5, z6, z7⟩, fun x1 H8 y1 => ?_⟩
                      obtain ⟨F8, st8, S8, r8⟩ := gy1 x1 H8 y1
                      cases eg1 : gg1 ds1[j] ci.n with
                      | none => rw [eg1] at eri; cases eri
                      | some n9 =>
                        rw [eg1] at eri
                        dsimp only at eri
                        refine ⟨⟨ci.n, ci.s, H8, F8⟩, ds1[j], n9, his, rfl, S8, r8, eg1, fun σ9 st9 S9 kk1 ll1 => ?_⟩
                        have st89 : Step ci ⟨n9, σ9, H8, F8⟩ := st8.trans st9
                        have w9 : wipe σ9 vs1 = wipe σ4 vs1 := wipe_eq (by have l1 : σ9.length = ci.s.length := ll1; rw [l1, his, wipe_length]) fun j hj => by
                          have := (kk1 j hj).1
                          have this' : σ9[j]? = ci.s[j]? := this
                          rw [this', his]
                        refine ⟨w9, ⟨n9, σ9, H8, F8⟩, rfl, rfl, S9, ?_⟩
                        cases et1 : t1 n9 with
                        | bad => rw [et1] at eri; cases eri
                        | err x n5 => rw [et1] at eri; cases eri
                        | ok b1 n10 =>
                          rw [et1] at eri
                          intro b1' H10 F10 st10 S10 rb1
                          cases rb1
                          have st8a : Step ci ⟨n10, σ9, H10, F10⟩ := st89.trans st10
                          have eri' : (if b1 = true then (f n10).bind fun y n3 => if acci.length < sizeLine then nLcL gg1 t1 f vs1 (ds1.drop (j + 1)) (acci ++ [y]) (wipeN n3 vs1) else .bad
                            else nLcL gg1 t1 f vs1 (ds1.drop (j + 1)) acci (wipeN n10 vs1)) = .ok acc7 n7 := eri
                          cases b1 with
                          | false =>
                            refine iteF ?_
                            have a5 := api.step Si st8a
                            obtain ⟨ws5, hw5, rw5⟩ := a5.ex
                            have sm5 : Sim X.K ⟨n10, σ9, H10, F10⟩ := S10
                            have fin := Sim.wipeH (K := X.K) (c1 := c1) (c4 := ⟨n10, σ9, H10, F10⟩) (vs := vs1) (D := D) (acc := acci) (acc' := acci) (us := ws5) nv1 (sti.trans st8a) sm5 hD a5.nf a5.nh (fun o u z => by have z' := hw5.symm.trans z; cases z') rw5
                            exact ⟨_, acci, w9, upd_eqF hw5, fin.1, sfi.trans ((StepF.of st8a Si).trans fun a f => ⟨f, upd_ne fun z => by subst z; exact a5.nf f⟩), fin.2.1, fin.2.2, eri'⟩
                          | true =>
                            refine iteT ?_
                            simp only [if_true] at eri'
                            refine ⟨⟨n10, σ9, H10, F10⟩, rfl, rfl, S10, ?_⟩
                            cases ef1 : f n10 with
                            | bad => rw [ef1] at eri'; cases eri'
                            | err x n6 => rw [ef1] at eri'; cases eri'
                            | ok y' n11 =>
                              rw [ef1] at eri'
                              intro v11 H11 F11 st11 S11 r11
                              have eri2 : (if acci.length < sizeLine then nLcL gg1 t1 f vs1 (ds1.drop (j + 1)) (acci ++ [y']) (wipeN n11 vs1) else R.bad) = .ok acc7 n7 := eri'
                              split at eri2
                              · rename_i hz
                                have st8b : Step ci ⟨n11, σ9, H11, F11⟩ := st8a.trans st11
                                have a6 := api.step Si st8b
                                obtain ⟨ws6, hw6, rw7⟩ := a6.ex
                                have sm6 : Sim X.K ⟨n11, σ9, H11, F11⟩ := S11
                                refine ⟨ws6, hw6, by rw [rw7.length]; exact hz, ?_⟩
                                have fin := Sim.wipeH (K := X.K) (c1 := c1) (c4 := ⟨n11, σ9, H11, F11⟩) (vs := vs1) (D := D) (acc := acci) (acc' := acci ++ [y']) (us := ws6 ++ [v11]) nv1 (sti.trans st8b) sm6 hD a6.nf a6.nh (fun o u z => by have z' := hw6.symm.trans z; cases z') (rw7.append (Reps.cons r11 Reps.nil))
                                exact ⟨_, acci ++ [y'], w9, rfl, fin.1, sfi.trans ((StepF.of st8b Si).trans fun a f => ⟨f, upd_ne fun z => by subst z; exact a6.nf f⟩), fin.2.1, fin.2.2, eri2⟩
                              · cases eri2
                    · have e : j = ds1.length := by omega
                      subst e
                      refine .inl ⟨gs1 rfl, ?_⟩
                      rw [List.drop_length] at eri
                      unfold nLcL at eri
                      cases eri
                      obtain ⟨ws5, hw5, rw5⟩ := api.ex
                      have wz : wipe ci.s vs = wipe c.s vs := by rw [his, wipe_wipe hin, w4]
                      have fin := Sim.wipeD (K := X.K) (c1 := c1) (c4 := ci) (vs := vs) (D := D) (acc := acc7) (acc' := acc7) (us := ws5) nv sti Si hD api.nf api.nh (fun o u z => by have z' := hw5.symm.trans z; cases z') wz rw5
                      exact ⟨_, acc7, rfl, upd_eqF hw5, fin.1, fin.2.1, fin.2.2, er3⟩
                · cases er2
      · have e : i = ds.length := by omega
        subst e
        refine .inl ⟨gs rfl, ?_⟩
        rw [List.drop_length] at er
        unfold nLc2L at er
        cases er
        have fin := Sim.restoreD (K := X.K) (c := ⟨n1, c.s, H1, F1⟩) (c1 := c1) (cc := cc) nv (Step.refl _) S1' stc Sc rfl hcs hD ap
        exact h1 (.ref D) cc.H cc.F fin.1 fin.2.1 fin.2.2
    | err x n => rw [el] at h1; exact h1.elim
    | bad => rw [el] at h1; exact h1.elim
  · exact h1.elim
theorem neo_lc2 {elt tg iter tg1 iter1 : Expr} {ifs ifs1 : List Expr} {scope : Scope} {own : List (Str × Nat)} {vs0 vs1 : List Nat} {pos : Pos} {fi fi1 : NSt → R (List PyData)} {gg gg1 : PyData → NSt → Option NSt} {t t1 : NSt → R Bool} {f : NExp} (hc : X.calm = true) (hN : X.N.Nodup) (hi : NI X W tg iter fi) (ok : BlkOk X.N X.env.scope scope own) (hv : ∀ i ∈ vs1, i ∈ own.map (·.2)) (h0 : ∀ i ∈ vs0, i ∈ own.map (·.2))
    (hg : ∀ s H C cl fp, NG (BX X s H scope C cl fp) tg vs0 gg) (ht : ∀ s H C cl fp, PTs (BX X s H scope C cl fp) ifs (cT X.K X.mg W0 t))
    (hi1 : ∀ s H C cl fp, NI2 (BX X s H scope C cl fp) W0 tg1 iter1 fi1) (hg1 : ∀ s H C cl fp, NG (BX X s H scope C cl fp) tg1 vs1 gg1) (ht1 : ∀ s H C cl fp, PTs (BX X s H scope C cl fp) ifs1 (cT X.K X.mg W0 t1))
    (he : ∀ s H C cl fp, NE (BX X s H scope C cl fp) W0 elt f)
    (hs : ∀ x, foldedSetIterable iter X.env x = pure x := by intro _; rfl) (hs1 : ∀ env x, foldedSetIterable iter1 env x = pure x := by intro _ _; rfl) : NEo X W (.ListComp elt [⟨tg, iter, ifs, 0⟩, ⟨tg1, iter1, ifs1, 0⟩] scope pos) (nLc2 fi gg t fi1 gg1 t1 f (own.map (·.2)) vs1) := by
  obtain ⟨wi, pi, si⟩ := hi.ex
  exact ⟨_, pe_lc2 hc hN pi ok hv (fun s H C cl fp => (hg s H C cl fp).canon) ht (fun s H C cl fp => (hi1 s H C cl fp).canon) (fun s H C cl fp => (hg1 s H C cl fp).canon) ht1 (fun s H C cl fp => (he s H C cl fp).canon) hs hs1, fun c Q S h => lc2_st h0 si S h⟩
end
end NL
end L2
/-! NL14: sorted(set(ints)), tuple(range(..)). -/
namespace L2
namespace NL
open PySem PySem.Spec PyProof.Rows
section
variable {P : Program} {w : World} {A : Around} {E : Value → Shared → Prop} {s : Shared}
/-- a set as it is born -/
abbrev bornSet (w : World) : Obj := { cls := .type "set", dict := none, data := .set #[] 0 (.fresh 0 0 (!w.params.followText "set-order")) }
set_option maxRecDepth 100000 in
set_option maxHeartbeats 3200000 in
/-- set(xs), xs a list of ints: what sorted asks of it is kept -/
theorem set_of_listI {l : Addr} {its : Array Value} (ns : List Int) {Q : Value → Shared → Prop} (free : A.handled = none) (isl : s.heap.IsList l its) (hints : IntsAre its.toList ns) (room : ns.length + 1 < scanBound)
    (done : ∀ (hp : Heap) (tk c : Nat), SetR w hp s.heap.objs.size (fun j => decide (j ∈ ns)) c → c ≤ ns.length → (∀ b o, s.heap.get? b = some o → hp.get? b = some o) → Q (.ref s.heap.objs.size) { s with heap := hp, toks := tk }) :
    wpAny (model P w) A (call (.type "set") [.ref l]) Q E s := by
  have sz : its.size = ns.length := by rw [← Array.length_toList]; exact IntsAre.length hints
  obtain ⟨_, _, mro_⟩ := F.called_set.mro
  have made_ := F.called_set.made
  have sub_ := F.called_set.sub
  have nt_ := F.called_set.notType
  have cc_ := F.called_set.canCreate
  have tc_ := F.typeCall_set_1 (.ref l)
  refine wpAny_call (codeAny_of_tree (wpAny_pure ⟨Code.quiet_builtin _ (by decide +kernel), codeAny_builtin F.entry_type_call ?_⟩))
  rw [Around.under_plain (weight_type_call_type "set" [.ref l] []) rfl]
  repeat (any_goals (first | assumption | wp_step))
  refine codeAny_mono (code_set_led1 (.ref l) (E := E) (Q₁ := fun ob sb => ob = .ref s.heap.objs.size ∧ sb = { s with heap := s.heap.push (bornSet w) }) ⟨rfl, rfl⟩) fun r sb hr => ?_
  match r, hr with
  | .error _, hr => exact hr
  | .ok (.ret ob), hr =>
    obtain ⟨rfl, rfl⟩ := hr
    have born : (s.heap.push (bornSet w)).get? s.heap.objs.size = some (bornSet w) := Heap.get?_push_size _ rfl
    have ty_ : Shared.TypeIs { s with heap := s.heap.push (bornSet w) } (.ref s.heap.objs.size) "set" := ⟨_, born, rfl⟩
    have lk_ := F.called_set.init.lookup
    have bd_ := F.called_set.init.bind (.ref s.heap.objs.size)
    repeat (any_goals (first | assumption | wp_step))
    refine codeAny_mono (codeAny_call_builtin (R := wants (fun r2 s2 => r2 = .none ∧ ∃ hp tk c, s2 = { s with heap := hp, toks := tk } ∧ SetR w hp s.heap.objs.size (fun j => decide (j ∈ ns)) c ∧ c ≤ ns.length ∧
        (∀ b o, s.heap.get? b = some o → hp.get? b = some o)) E) F.called_set.init.plain F.entry_set_init (check_set_init_1 ty_ ?_)) fun r2 s2 hr2 => ?_
    · obtain ⟨⟨cl, dc, dt, sl⟩, getl, clE, nl, dtE⟩ := isl
      simp only at clE dtE
      subst clE dtE
      have getl1 : (s.heap.push (bornSet w)).get? l = some { cls := .type "list", dict := dc, data := .seq its nl, slots := sl } := Heap.get?_push_of_some _ getl
      have q1_ := F.sub_list_set
      have q2_ := F.sub_list_frozenset
      have q3_ : (Value.type "list" == Value.type "dict") = false := by decide
      have isl1 : (s.heap.push (bornSet w)).IsList l its := ⟨_, getl1, rfl, nl, rfl⟩
      unfold Builtin.«set.__init__» noKeywords Builtin.Frozenset.updateFrom
      generalize eqPI : pyIter = PI
      wp_walk
      subst eqPI
      refine wpAny_pyIter_list isl1 (wpAny_bind (wpAny_runValue ?_))
      have lts : l < s.heap.objs.size := Heap.lt_size getl
      have free3 : A.in1.in1.in1.handled = none := by simp [free]
      have neI : l ≠ (s.heap.push (bornSet w)).objs.size := by rw [Heap.size_push]; exact Nat.ne_of_lt (Nat.lt_succ_of_lt lts)
      have away : s.heap.objs.size ∉ [(s.heap.push (bornSet w)).objs.size, l] := by
        rw [Heap.size_push]
        simp only [List.mem_cons, List.not_mem_nil, or_false, not_or]
        exact ⟨Nat.ne_of_lt (Nat.lt_succ_self _), Nat.ne_of_gt lts⟩
      have vals : ∀ (i : Nat) (v : Value), its[i]? = some v → ∃ k t, ns[i]? = some k ∧ v = .int k t := fun i v hv => by
        have hi : i < ns.length := by rw [← sz]; exact (Array.getElem?_eq_some_iff.mp hv).1
        obtain ⟨t, e⟩ := IntsAre.int_at hints i v (by rw [Array.getElem?_toList]; exact hv)
        exact ⟨ns[i], t, List.getElem?_eq_getElem hi, by rw [e, List.getD_eq_getElem?_getD, List.getElem?_eq_getElem hi]; rfl⟩
      refine set_update_ints ((Walks.list free3 _ l neI its).toS) s.heap.objs.size away ns sz room vals (its.size - 0) 0 _ (by omega) (Nat.zero_le _) ⟨⟨_, Heap.get?_push_size _ rfl, rfl, rfl⟩, (isl1.push _)⟩
        ⟨0, Nat.le_refl 0, setR_new_at (Heap.get?_push_of_some _ born)⟩ fun s3 c3 mv le3 R3 => ?_
      obtain ⟨hp, gn, dr, tk, os⟩ := s3
      cases (show gn = s.gens from mv.gens)
      cases (show dr = s.drawn from mv.drawn)
      cases (show os = s.os from mv.os)
      refine wpAny_pure (show wpAny _ _ (ret Value.none) _ _ _ from wpAny_pure ⟨rfl, hp, tk, c3, rfl, R3, by rw [← sz]; exact le3, fun b o e => ?_⟩)
      have lb : b < s.heap.objs.size := Heap.lt_size e
      refine mv.heap b o ?_ (Heap.get?_push_of_some _ (Heap.get?_push_of_some _ e))
      simp only [List.mem_cons, List.not_mem_nil, or_false, not_or]
      exact ⟨Nat.ne_of_lt lb, by rw [Heap.size_push]; exact Nat.ne_of_lt (Nat.lt_succ_of_lt lb)⟩
    · match r2, hr2 with
      | .error _, hr2 => exact hr2
      | .ok (.ret r3), hr2 =>
        obtain ⟨rfl, hp, tk, c3, rfl, R3, le3, kp⟩ := hr2
        repeat (any_goals (first | assumption | wp_step))
        exact done _ _ _ R3 le3 kp
end
end NL
end L2
/-! NL15: sorted(set(ints)), tuple(range(..)), as rules. -/
namespace L2
namespace NL
open PySem PySem.Spec PyProof.Rows
/-- ascending, each once -/
def insU (k : Int) : List Int → List Int
  | [] => [k]
  | x :: l => if k < x then k :: x :: l else if k = x then x :: l else x :: insU k l
def sortU (ns : List Int) : List Int := ns.foldr insU []
theorem insU_mem {k j : Int} : ∀ {l : List Int}, j ∈ insU k l ↔ j = k ∨ j ∈ l
  | [] => by simp [insU]
  | x :: l => by
    unfold insU
    by_cases h : k < x
    · simp [h]
    · by_cases e : k = x
      · subst e; simp
      · simp [h, e, insU_mem (l := l)]
        constructor
        · rintro (h | h | h) <;> simp [h]
        · rintro (h | h | h) <;> simp [h]
theorem insU_lt {k : Int} : ∀ {l : List Int}, l.Pairwise (· < ·) → (insU k l).Pairwise (· < ·)
  | [], _ => by simp [insU]
  | x :: l, h => by
    unfold insU
    by_cases h1 : k < x
    · rw [if_pos h1]
      refine List.Pairwise.cons (fun y hy => ?_) h
      rcases List.mem_cons.mp hy with rfl | hy
      · exact h1
      · exact Int.lt_trans h1 ((List.pairwise_cons.mp h).1 y hy)
    · rw [if_neg h1]
      by_cases e : k = x
      · rw [if_pos e]; exact h
      · rw [if_neg e]
        refine List.Pairwise.cons (fun y hy => ?_) (insU_lt (List.pairwise_cons.mp h).2)
        rcases insU_mem.mp hy with rfl | hy
        · omega
        · exact (List.pairwise_cons.mp h).1 y hy
theorem sortU_mem {j : Int} : ∀ {ns : List Int}, j ∈ sortU ns ↔ j ∈ ns
  | [] => by simp [sortU]
  | k :: ns => by
    show j ∈ insU k (sortU ns) ↔ _
    rw [insU_mem, sortU_mem, List.mem_cons]
theorem sortU_lt : ∀ {ns : List Int}, (sortU ns).Pairwise (· < ·)
  | [] => by simp [sortU]
  | k :: ns => insU_lt sortU_lt
theorem insU_len {k : Int} : ∀ {l : List Int}, (insU k l).length ≤ l.length + 1
  | [] => by simp [insU]
  | x :: l => by
    unfold insU
    split
    · simp
    · split
      · simp
      · simp only [List.length_cons]
        have := insU_len (k := k) (l := l)
        omega
theorem sortU_len : ∀ {ns : List Int}, (sortU ns).length ≤ ns.length
  | [] => by simp [sortU]
  | k :: ns => by
    show (insU k (sortU ns)).length ≤ ns.length + 1
    have := insU_len (k := k) (l := sortU ns)
    have := sortU_len (ns := ns)
    omega
/-- two ascending rows of the same ints are one -/
theorem asc_uniq : ∀ {xs ys : List Int}, xs.Pairwise (· < ·) → ys.Pairwise (· < ·) → (∀ k, k ∈ xs ↔ k ∈ ys) → xs = ys
  | [], [], _, _, _ => rfl
  | [], y :: ys, _, _, h => by have := (h y).mpr List.mem_cons_self; cases this
  | x :: xs, [], _, _, h => by have := (h x).mp List.mem_cons_self; cases this
  | x :: xs, y :: ys, hx, hy, h => by
    obtain ⟨hx1, hx2⟩ := List.pairwise_cons.mp hx
    obtain ⟨hy1, hy2⟩ := List.pairwise_cons.mp hy
    have e : x = y := by
      rcases List.mem_cons.mp ((h x).mp List.mem_cons_self) with e | e
      · exact e
      · rcases List.mem_cons.mp ((h y).mpr List.mem_cons_self) with e2 | e2
        · exact e2.symm
        · have := hy1 x e
          have := hx1 y e2
          omega
    subst e
    congr 1
    refine asc_uniq hx2 hy2 fun k => ⟨fun hk => ?_, fun hk => ?_⟩
    · rcases List.mem_cons.mp ((h k).mp (List.mem_cons_of_mem _ hk)) with e | e
      · have := hx1 k hk; omega
      · exact e
    · rcases List.mem_cons.mp ((h k).mpr (List.mem_cons_of_mem _ hk)) with e | e
      · have := hy1 k hk; omega
      · exact e
/-- set(xs), xs a list of ints -/
def rSetOfI (K : PySem.W.Frag) (w : World) : List V → Hp → VK → Prop := fun xs H Q => ∃ (l : Addr) (ns : List Int), xs = [V.ref l] ∧ SqL K H l (ns.map V.int) ∧ ns.length + 1 < scanBound ∧
  ∀ (a : Addr) (c : Nat), H a = none → c ≤ ns.length → Q (.ref a) (upd H a (SetO w a (fun j => decide (j ∈ ns)) c))
section
variable {X : Cx} {W : WX}
theorem cr_setOfI (hc : X.calm = true) : CallR X (.type "set") (rSetOfI X.K X.w) := by
  intro pins s σ H xs us Q I r h
  obtain ⟨l, ns, rfl, hl, hf, q⟩ := h
  rw [Vals.ref1 r]
  obtain ⟨its, rv, pl, hz⟩ := I.list hl
  have hn : H s.heap.objs.size = none := I.hok.fresh (Nat.le_refl _)
  refine set_of_listI (P := X.prog) (w := X.w) ns (I.ok.hd hc) pl.isList (by simpa using ints_of_vals rv) hf fun hp tk c R le kp => ?_
  exact ⟨.ref s.heap.objs.size, upd H s.heap.objs.size (SetO X.w s.heap.objs.size (fun j => decide (j ∈ ns)) c), I.laid (t' := tk) kp (Nat.le_refl _) (setO_new R), rfl, q _ c hn le⟩
theorem reps_ints {K : PySem.W.Frag} {H : Hp} {F : Fz} : ∀ (ns : List Int), Reps K H F (ns.map PyData.int) (ns.map V.int)
  | [] => Reps.nil
  | n :: ns => Reps.cons Rep.mkInt (reps_ints ns)
def nSortU (p : Opd) : NSt → R (List PyData) := fun n => (p.run n).bind fun a n1 => match a.get n1 with
  | some (.list xs) => match intsOf xs with
    | some ns => if ns.length < 63 then .ok ((sortU ns).map .int) n1 else .bad
    | none => .bad
  | _ => .bad
theorem neo_sortU {x : Expr} {p : Opd} {p0 p1 q0 pos : Pos} (hc : X.calm = true) (hm : X.mg "sorted" = none) (hm1 : X.mg "set" = none) (ha : NO X W x p) (hg : Gl X "sorted" := by rfl) (hg1 : Gl X "set" := by rfl)
    (he : starEach [Expr.Call (.Name "set" p1) [x] [] q0] X.env = (false, eval (Expr.Call (.Name "set" p1) [x] [] q0) X.env) :: starEach [] X.env := by rfl) (hpl : (backTo pos (starEach [] X.env)).any (·.1) = false := by rfl)
    (he1 : starEach [x] X.env = (false, eval x X.env) :: starEach [] X.env := by rfl) (hpl1 : (backTo q0 (starEach [] X.env)).any (·.1) = false := by rfl) :
    NEo X W (.Call (.Name "sorted" p0) [.Call (.Name "set" p1) [x] [] q0] [] pos) (nSortU p) := by
  obtain ⟨t, pa, s⟩ := ha.ex
  refine ⟨_, pe_callB (cr_sortedSet hc) hg hm boot_sorted (pa_cons (pe_callTy (cr_setOfI hc) hg1 hm1 PyProof.Rows.boot_set (pa_cons pa pa_nil he1) (by decide) (by decide) he1 hpl1) pa_nil he) (by decide) (by decide) he hpl, fun c Q S h => ?_⟩
  refine s c _ S (Pst.seq (rel := relV X.K) (rel' := relO X.K) mono_O h fun a n1 vx H1 F1 _ st1 S1 rx h1 => ?_)
  cases ea : a.get n1 with
  | none => rw [ea] at h1; exact h1.elim
  | some d =>
    rw [ea] at h1
    cases d with
    | list xs =>
      obtain ⟨b, ws, rfl, hH, rr⟩ := (S1.avGet rx ea).list
      dsimp only at h1
      cases ei : intsOf xs with
      | none => rw [ei] at h1; exact h1.elim
      | some ns =>
        rw [ei] at h1
        dsimp only at h1
        split at h1
        · rename_i hz
          rw [intsOf_eq ei] at rr
          have ew := rr.ints'
          subst ew
          refine ⟨b, ns, rfl, SqL.of hH, by unfold scanBound; omega, fun a1 c1 ha1 hc1 => ?_⟩
          refine ⟨a1, _, c1, rfl, upd_same, by omega, fun ms q hp hm2 hl2 hq => ?_⟩
          have em : ms = sortU ns := asc_uniq hp sortU_lt fun k => by rw [hm2, sortU_mem]; simp
          subst em
          have hne : q ≠ a1 := fun z => by subst z; rw [upd_same] at hq; cases hq
          have hq1 : H1 q = none := by rw [upd_ne hne] at hq; exact hq
          obtain ⟨S2, st2⟩ := Sim.ext S1 (H' := upd H1 a1 (SetO X.w a1 (fun j => decide (j ∈ ns)) c1)) (F' := F1) (upd_old ha1) (fun _ h => h) fun a h => .inl h
          obtain ⟨S3, st3, r3⟩ := S2.newLst (p := q) hq (reps_ints (sortU ns))
          exact h1 (.ref q) _ _ (st2.trans st3) S3 (mono_O _ _ _ _ _ st2 r3)
        · exact h1.elim
    | _ => exact h1.elim
/-- tuple(range(..)) -/
def nTupRg (f : NSt → R (List AV)) : NExp := fun n => (f n).bind fun as n' => match as with
  | [.v (.int j)] => if 0 ≤ j ∧ j ≤ 100000 then .ok (.tuple (rgD 0 j)) n' else .bad
  | [.v (.int i), .v (.int j)] => if 0 ≤ i ∧ i ≤ 100000 ∧ 0 ≤ j ∧ j ≤ 100000 then .ok (.tuple (rgD i j)) n' else .bad
  | _ => .bad
theorem reps_rg {K : PySem.W.Frag} {H : Hp} {F : Fz} (i j : Int) : Reps K H F (rgD i j) (rgV i j) := by
  unfold rgD rgV
  have := reps_ints (K := K) (H := H) (F := F) ((List.range (j - i).toNat).map fun (k : Nat) => i + (k : Int))
  rw [List.map_map, List.map_map] at this
  exact this
theorem ne_tupRg1 {a : Expr} {f : NExp} {p p0 q0 pos : Pos} (hc : X.calm = true) (hm : X.mg "tuple" = none) (hm1 : X.mg "range" = none) (ha : NE X W a f) (hg : Gl X "tuple" := by rfl) (hg1 : Gl X "range" := by rfl)
    (na : starEach [a] X.env = (false, eval a X.env) :: starEach [] X.env := by rfl)
    (na2 : starEach [Expr.Call (.Name "range" p) [a] [] q0] X.env = (false, eval (Expr.Call (.Name "range" p) [a] [] q0) X.env) :: starEach [] X.env := by rfl) :
    NE X W (.Call (.Name "tuple" p0) [.Call (.Name "range" p) [a] [] q0] [] pos) (nTupRg (aCons (.e f) aNil)) := by
  obtain ⟨t, pa, s⟩ := ha.ex
  refine ⟨_, pe_tupRg hc hg hm (prg_1 hg1 hm1 pa na) na2, fun c Q S h => ?_⟩
  have h : Pst X.K X.mg W (relE X.K) c Q ((f c.n).bind fun d n1 => match d with
    | .int j => if 0 ≤ j ∧ j ≤ 100000 then .ok (.tuple (rgD 0 j)) n1 else .bad
    | _ => .bad) := by
    have e : nTupRg (aCons (.e f) aNil) c.n = (f c.n).bind fun d n1 => match d with
      | .int j => if 0 ≤ j ∧ j ≤ 100000 then .ok (.tuple (rgD 0 j)) n1 else .bad
      | _ => .bad := by
      show (((((f c.n).bind _).bind _).bind _) : R PyData) = _
      cases f c.n with
      | ok d n1 => cases d <;> rfl
      | err x n1 => rfl
      | bad => rfl
    rw [← e]
    exact h
  refine s c _ S (Pst.seq (rel := relE X.K) (rel' := relE X.K) mono_E h fun d n1 v H1 F1 _ st1 S1 r1 h1 => ?_)
  cases d with
  | int j =>
    dsimp only at h1
    split at h1
    · rename_i hj
      have e1 := Rep.int (K := X.K) (H := H1) (F := F1) r1
      refine ⟨j, e1, RgOk.of_le (by omega) (by omega) (by omega) (by omega), fun q hq => ?_⟩
      obtain ⟨S2, st2, r2⟩ := S1.newTup (p := q) hq (reps_rg 0 j)
      exact h1 _ _ _ st2 S2 r2
    · exact h1.elim
  | _ => exact h1.elim
/-- x += e, x -= e: ints -/
def oAddI : PyData → PyData → Option PyData
  | .int a, .int b => some (.int (a + b))
  | _, _ => none
def oSubI : PyData → PyData → Option PyData
  | .int a, .int b => some (.int (a - b))
  | _, _ => none
theorem no_addI : Op2 X (ipI fun i j => i + j) oAddI := by
  intro c x y z vx vy Q S rx ry e h
  unfold oAddI at e
  split at e
  · cases e
    exact ⟨_, _, rx.int, ry.int, fin0 S h Rep.mkInt⟩
  · cases e
theorem no_subI : Op2 X (ipI fun i j => i - j) oSubI := by
  intro c x y z vx vy Q S rx ry e h
  unfold oSubI at e
  split at e
  · cases e
    exact ⟨_, _, rx.int, ry.int, fin0 S h Rep.mkInt⟩
  · cases e
end
end NL
end L2
/-! NL16: dicts that do not change; starred displays. -/
namespace L2
namespace NL
open PySem PySem.Spec PyProof.Rows
def isKey : PyData → PyData → Bool
  | .str a, .str b => a == b
  | .int a, .int b => a == b
  | _, _ => false
def dLook (kvs : List (PyData × PyData)) (k : PyData) : Option PyData := (kvs.find? fun kv => isKey kv.1 k).map (·.2)
theorem isKey_keyD {a b : Key} : isKey (keyD a) (keyD b) = decide (a = b) := by
  cases a <;> cases b <;> simp [keyD, isKey]
  all_goals (rw [Bool.eq_iff_iff]; simp)
theorem dLook_ok {K : PySem.W.Frag} {H : Hp} {F : Fz} {k : Key} : ∀ {kvs : List (PyData × PyData)} {kx : List (Key × V)}, kvs.map (·.1) = kx.map (fun p => keyD p.1) → RepsP K H F kvs (kx.map (·.2)) → match dLook kvs (keyD k) with
    | some d => ∃ v, valV kx k = some v ∧ Rep K H F d v
    | none => valV kx k = none
  | [], [], _, _ => rfl
  | [], _ :: _, h, _ => by cases h
  | _ :: _, [], h, _ => by cases h
  | (a, d) :: kvs, p :: kx, h, r => by
    rw [List.map_cons, List.map_cons, List.cons.injEq] at h
    obtain ⟨h1, h2⟩ := h
    have h1 : a = keyD p.1 := h1
    rw [List.map_cons] at r
    unfold RepsP at r
    obtain ⟨v, vs, e, r1, r2⟩ := r
    cases e
    unfold RepP at r1
    have ih := dLook_ok (k := k) h2 r2
    subst h1
    unfold dLook at ih ⊢
    rw [List.find?_cons]
    dsimp only
    rw [isKey_keyD]
    by_cases e : p.1 = k
    · rw [decide_eq_true e]
      exact ⟨p.2, valV_pos e, r1⟩
    · rw [decide_eq_false e, valV_neg e]
      exact ih
def keyOf : PyData → Option Key
  | .str a => some (.inr a)
  | .int a => some (.inl a)
  | _ => none
theorem keyOf_D {d : PyData} {k : Key} (h : keyOf d = some k) : d = keyD k := by
  cases d <;> cases h <;> rfl
theorem keyOf_V {K : PySem.W.Frag} {H : Hp} {F : Fz} {d : PyData} {k : Key} {v : V} (h : keyOf d = some k) (r : Rep1 K H F d v) : v = kV k := by
  cases d <;> cases h
  · exact r.int
  · exact r.str
/-- d[k] -/
def oDix : PyData → PyData → Option PyData
  | .dict kvs, k => match keyOf k with
    | some _ => dLook kvs k
    | none => none
  | _, _ => none
def oDin : PyData → PyData → Option PyData
  | k, .dict kvs => match keyOf k with
    | some _ => some (.bool (dLook kvs k).isSome)
    | none => none
  | _, _ => none
def oDnot : PyData → PyData → Option PyData
  | k, .dict kvs => match keyOf k with
    | some _ => some (.bool (!(dLook kvs k).isSome))
    | none => none
  | _, _ => none
def rDGet : R2 := fun x y H Q => ∃ a v, x = .ref a ∧ DGet H a y (some v) ∧ Q v H
def rDIn : R2 := fun y x H Q => ∃ a o, x = .ref a ∧ DGet H a y o ∧ Q (.bl o.isSome) H
def rDNotIn : R2 := fun y x H Q => ∃ a o, x = .ref a ∧ DGet H a y o ∧ Q (.bl (!o.isSome)) H
section
variable {X : Cx} {W : WX} {e e2 : Expr} {p q : Opd} {pos : Pos}
theorem dget_of {K : PySem.W.Frag} {H : Hp} {F : Fz} {kvs : List (PyData × PyData)} {k : Key} {v : V} (r : Rep K H F (.dict kvs) v) : ∃ a o, v = .ref a ∧ DGet H a (kV k) o ∧ match dLook kvs (keyD k) with
    | some d => ∃ u, o = some u ∧ Rep K H F d u
    | none => o = none := by
  obtain ⟨a, ws, e, f, ⟨ob, kx, hH, hk, e2⟩, rr⟩ := r.dict
  subst e2
  have := dLook_ok (k := k) hk rr
  refine ⟨a, valV kx k, e, .inl ⟨kx, k, .inr ⟨ob, hH⟩, rfl, rfl⟩, ?_⟩
  cases hd : dLook kvs (keyD k) with
  | none => rw [hd] at this; exact this
  | some d => rw [hd] at this; exact this
theorem no_dix : Op2 X rDGet oDix := by
  intro c x y z vx vy Q S rx ry e h
  cases x with
  | dict kvs =>
    have e : (match keyOf y with
      | some _ => dLook kvs y
      | none => none) = some z := e
    cases hk : keyOf y with
    | none => rw [hk] at e; cases e
    | some k =>
      rw [hk] at e
      have ey := keyOf_D hk
      have ev := keyOf_V hk ry
      subst ey ev
      obtain ⟨a, o, e1, g, m⟩ := dget_of (k := k) rx.dict
      have e : dLook kvs (keyD k) = some z := e
      rw [e] at m
      obtain ⟨u, e2, ru⟩ := m
      subst e1 e2
      exact ⟨a, u, rfl, g, fin0 S h ru⟩
  | _ => cases e
theorem no_din : Op2 X rDIn oDin := by
  intro c x y z vx vy Q S rx ry e h
  cases y with
  | dict kvs =>
    cases hk : keyOf x with
    | none =>
      have e : (match keyOf x with
        | some _ => some (PyData.bool (dLook kvs x).isSome)
        | none => none) = some z := by cases x <;> exact e
      rw [hk] at e
      cases e
    | some k =>
      have e : (match keyOf x with
        | some _ => some (PyData.bool (dLook kvs x).isSome)
        | none => none) = some z := by cases x <;> exact e
      rw [hk] at e
      cases e
      have ey := keyOf_D hk
      have ev := keyOf_V hk rx
      subst ey ev
      obtain ⟨a, o, e1, g, m⟩ := dget_of (k := k) ry.dict
      subst e1
      refine ⟨a, o, rfl, g, fin0 S h ?_⟩
      have eo : (dLook kvs (keyD k)).isSome = o.isSome := by
        cases hd : dLook kvs (keyD k) with
        | none => rw [hd] at m; rw [m]; rfl
        | some d => rw [hd] at m; obtain ⟨u, rfl, _⟩ := m; rfl
      rw [eo]
      exact Rep.mkBool
  | _ => cases x <;> cases e
theorem no_dnot : Op2 X rDNotIn oDnot := by
  intro c x y z vx vy Q S rx ry e h
  cases y with
  | dict kvs =>
    cases hk : keyOf x with
    | none =>
      have e : (match keyOf x with
        | some _ => some (PyData.bool (!(dLook kvs x).isSome))
        | none => none) = some z := by cases x <;> exact e
      rw [hk] at e
      cases e
    | some k =>
      have e : (match keyOf x with
        | some _ => some (PyData.bool (!(dLook kvs x).isSome))
        | none => none) = some z := by cases x <;> exact e
      rw [hk] at e
      cases e
      have ey := keyOf_D hk
      have ev := keyOf_V hk rx
      subst ey ev
      obtain ⟨a, o, e1, g, m⟩ := dget_of (k := k) ry.dict
      subst e1
      refine ⟨a, o, rfl, g, fin0 S h ?_⟩
      have eo : (dLook kvs (keyD k)).isSome = o.isSome := by
        cases hd : dLook kvs (keyD k) with
        | none => rw [hd] at m; rw [m]; rfl
        | some d => rw [hd] at m; obtain ⟨u, rfl, _⟩ := m; rfl
      rw [eo]
      exact Rep.mkBool
  | _ => cases x <;> cases e
theorem ne_dix (hu : X.A.units + 64 < cLine) (ha : NO X W e p) (hb : NO X W e2 q) (hs : NoSl e2 := by exact fun _ _ => rfl) : NE X W (.Subscript e e2 pos) (nOp2 oDix p q) := by
  obtain ⟨ta, pa, sa⟩ := ha.ex
  obtain ⟨tb, pb, sb⟩ := hb.ex
  exact ⟨tDGet ta tb, pe_dget (by omega) pa pb hs, fun c Q S h => two sa sb no_dix S h⟩
theorem ne_din (hu : X.A.units + 64 < cLine) (ha : NO X W e p) (hb : NO X W e2 q) (hm : behindInMarks .In e2 = false := by rfl) : NE X W (.Compare e [.In] [e2] pos) (nOp2 oDin p q) := by
  obtain ⟨ta, pa, sa⟩ := ha.ex
  obtain ⟨tb, pb, sb⟩ := hb.ex
  exact ⟨tDIn ta tb, pe_cmp (pc_din (by omega) pa pb) hm, fun c Q S h => two sa sb no_din S h⟩
theorem nt_din (hu : X.A.units + 64 < cLine) (ha : NO X W e p) (hb : NO X W e2 q) (hm : behindInMarks .In e2 = false := by rfl) : NT X W (.Compare e [.In] [e2] pos) (asB (nOp2 oDin p q)) := by
  obtain ⟨ta, pa, sa⟩ := ha.ex
  obtain ⟨tb, pb, sb⟩ := hb.ex
  exact ⟨tB (tDIn ta tb), pt_cmp (pc_din (by omega) pa pb) hm, fun c Q S h => asB_st (t := tDIn ta tb) (fun c Q S h => two sa sb no_din S h) S h⟩
theorem ne_dnot (hu : X.A.units + 64 < cLine) (ha : NO X W e p) (hb : NO X W e2 q) (hm : behindInMarks .NotIn e2 = false := by rfl) : NE X W (.Compare e [.NotIn] [e2] pos) (nOp2 oDnot p q) := by
  obtain ⟨ta, pa, sa⟩ := ha.ex
  obtain ⟨tb, pb, sb⟩ := hb.ex
  exact ⟨tDNotIn ta tb, pe_cmp (pc_dnotin (by omega) pa pb) hm, fun c Q S h => two sa sb no_dnot S h⟩
theorem nt_dnot (hu : X.A.units + 64 < cLine) (ha : NO X W e p) (hb : NO X W e2 q) (hm : behindInMarks .NotIn e2 = false := by rfl) : NT X W (.Compare e [.NotIn] [e2] pos) (asB (nOp2 oDnot p q)) := by
  obtain ⟨ta, pa, sa⟩ := ha.ex
  obtain ⟨tb, pb, sb⟩ := hb.ex
  exact ⟨tB (tDNotIn ta tb), pt_cmp (pc_dnotin (by omega) pa pb) hm, fun c Q S h => asB_st (t := tDNotIn ta tb) (fun c Q S h => two sa sb no_dnot S h) S h⟩
/-! ### walks -/
theorem RepsP.get {K : PySem.W.Frag} {H : Hp} {F : Fz} : ∀ {kvs : List (PyData × PyData)} {kx : List (Key × V)} {i : Nat} {kd : PyData × PyData}, kvs.map (·.1) = kx.map (fun p => keyD p.1) → RepsP K H F kvs (kx.map (·.2)) → kvs[i]? = some kd → ∃ kv, kx[i]? = some kv ∧ kd.1 = keyD kv.1 ∧ Rep K H F kd.2 kv.2
  | [], _, i, kd, _, _, h => by cases h
  | _ :: _, [], _, _, h, _, _ => by cases h
  | (a, d) :: kvs, p :: kx, i, kd, h, r, g => by
    rw [List.map_cons, List.map_cons, List.cons.injEq] at h
    rw [List.map_cons] at r
    unfold RepsP at r
    obtain ⟨v, vs, e, r1, r2⟩ := r
    cases e
    unfold RepP at r1
    cases i with
    | zero => cases g; exact ⟨p, rfl, h.1, r1⟩
    | succ i => exact RepsP.get (kvs := kvs) (kx := kx) h.2 r2 g
def dItems (kvs : List (PyData × PyData)) : List PyData := kvs.map fun kv => .tuple [kv.1, kv.2]
def iItm (f : NExp) : NSt → R (List PyData) := fun n => (f n).bind fun d n' => match d with
  | .dict kvs => .ok (dItems kvs) n'
  | _ => .bad
theorem rep_key {K : PySem.W.Frag} {H : Hp} {F : Fz} {k : Key} : Rep K H F (keyD k) (kV k) := by
  cases k
  · exact Rep.mkInt
  · exact Rep.mkStr
theorem ni_items {elts : List Expr} {kk : Nat} {tpos apos cpos : Pos} {f : NExp} (h : NE X W e f) (hbase : attributeBase e "items" X.env (eval e X.env) = eval e X.env := by rfl) (hline : (apos.endLine == cpos.line) = true := by rfl) :
    NI X W (.Tuple elts kk tpos) (.Call (.Attribute e "items" apos) [] [] cpos) (iItm f) := by
  obtain ⟨t, p, s⟩ := h.ex
  refine ⟨iItems t, pi_items p hbase hline, fun c Q S q => ?_⟩
  refine s c _ S (Pst.seq (rel := relE X.K) (rel' := fun _ c1 ds J => Gives X.K J ds c1) mono_I q fun d n' v H' F' _ st S' r q' => ?_)
  cases d with
  | dict kvs =>
    obtain ⟨a, ws, rfl, fa, ⟨ob, kx, hH, hk, e2⟩, rr⟩ := Rep.dict (K := X.K) (H := H') (F := F') r
    subst e2
    refine ⟨a, ob, kx, rfl, hH, q' (Iti a ob kx) H' F' (Step.refl _) S' fun c2 st2 S2 i hi => ?_⟩
    have hH2 : c2.H a = some (.frz ob (.dK kx)) := (st2.frz S' a fa).2.trans hH
    have r2 : RepsP X.K c2.H c2.F kvs (kx.map (·.2)) := RepsP.keep (st2.frz S') _ _ rr
    have hl : kvs.length = kx.length := by
      have := congrArg List.length hk
      rwa [List.length_map, List.length_map] at this
    refine ⟨fun d ed => ?_, fun e => ⟨hH2, by rw [e]; unfold dItems; rw [List.length_map, hl]; exact Nat.le_refl _⟩⟩
    unfold dItems at ed
    rw [List.getElem?_map] at ed
    cases ek : kvs[i]? with
    | none => rw [ek] at ed; cases ed
    | some kd =>
      rw [ek] at ed
      cases ed
      obtain ⟨kv, e1, e2, e3⟩ := RepsP.get hk r2 ek
      refine ⟨⟨hH2, (List.getElem?_eq_some_iff.mp e1).1⟩, fun x H2 ⟨T, k, v, e4, e5, e6, e7⟩ => ?_⟩
      rw [e1] at e4
      cases e4
      subst e5 e7
      obtain ⟨S3, st3, r3⟩ := S2.newTup (p := T) (ws := [kV k, v]) (ds := [kd.1, kd.2]) e6 (by rw [e2]; exact Reps.cons rep_key (Reps.cons e3 Reps.nil))
      exact ⟨_, st3, S3, r3⟩
  | _ => exact q'.elim
/-! ### dict(pairs) -/
def unPair : PyData → Option (PyData × PyData)
  | .tuple [k, d] => match keyOf k with
    | some _ => some (k, d)
    | none => none
  | _ => none
def pairsOf : List PyData → Option (List (PyData × PyData))
  | [] => some []
  | x :: xs => match unPair x, pairsOf xs with
    | some p, some r => some (p :: r)
    | _, _ => none
def distK : List (PyData × PyData) → Bool
  | [] => true
  | p :: r => !(r.any fun q => isKey p.1 q.1) && distK r
end
end NL
end L2
/-! NL17: dict(pairs), {k: v}, starred displays. -/
namespace L2
namespace NL
open PySem PySem.Spec PyProof.Rows
theorem merge_dist : ∀ (kx acc : List (Key × V)), (∀ p ∈ kx, valV acc p.1 = none) → kx.Pairwise (fun p q => ¬ p.1 = q.1) → mergeK acc kx = acc ++ kx
  | [], acc, _, _ => by simp [mergeK]
  | p :: kx, acc, h, hp => by
    obtain ⟨h1, h2⟩ := List.pairwise_cons.mp hp
    have hn := h p List.mem_cons_self
    show mergeK (putK acc p.1 p.2) kx = _
    rw [putK_new p.2 hn, merge_dist kx _ (fun q hq => ?_) h2]
    · simp
    · rw [valV_snoc p.1 q.1 p.2 acc hn, if_neg (fun z => h1 q hq z.symm)]
      exact h q (List.mem_cons_of_mem _ hq)
theorem dist_pw : ∀ {kvs : List (PyData × PyData)} {kx : List (Key × V)}, kvs.map (·.1) = kx.map (fun p => keyD p.1) → distK kvs = true → kx.Pairwise (fun p q => ¬ p.1 = q.1)
  | [], [], _, _ => List.Pairwise.nil
  | [], _ :: _, h, _ => by cases h
  | _ :: _, [], h, _ => by cases h
  | (a, d) :: kvs, p :: kx, h, hd => by
    rw [List.map_cons, List.map_cons, List.cons.injEq] at h
    obtain ⟨h1, h2⟩ := h
    have h1 : a = keyD p.1 := h1
    unfold distK at hd
    obtain ⟨hd1, hd2⟩ := Bool.and_eq_true_iff.mp hd
    refine List.Pairwise.cons (fun q hq e => ?_) (dist_pw h2 hd2)
    have hq2 : keyD q.1 ∈ kvs.map (·.1) := by rw [h2]; exact List.mem_map.mpr ⟨q, hq, rfl⟩
    obtain ⟨r, hr, er⟩ := List.mem_map.mp hq2
    have : (kvs.any fun q => isKey (a, d).1 q.1) = true := List.any_eq_true.mpr ⟨r, hr, by
      show isKey a r.1 = true
      have er : r.1 = keyD q.1 := er
      rw [er, h1, isKey_keyD]
      exact decide_eq_true e⟩
    rw [this] at hd1
    cases hd1
theorem merge_nil {kvs : List (PyData × PyData)} {kx : List (Key × V)} (h : kvs.map (·.1) = kx.map (fun p => keyD p.1)) (hd : distK kvs = true) : mergeK [] kx = kx := by
  rw [merge_dist kx [] (fun _ _ => rfl) (dist_pw h hd), List.nil_append]
theorem pairs_reps {K : PySem.W.Frag} {H : Hp} {F : Fz} : ∀ {xs : List PyData} {kvs : List (PyData × PyData)} {ws : List V}, pairsOf xs = some kvs → Reps K H F xs ws →
    ∃ (ps : List Addr) (kx : List (Key × V)), ws = ps.map V.ref ∧ Paired (fun p (kv : Key × V) => SqT K H p [kV kv.1, kv.2]) ps kx ∧ kvs.map (·.1) = kx.map (fun p => keyD p.1) ∧ RepsP K H F kvs (kx.map (·.2))
  | [], kvs, ws, h, r => by
    cases h
    unfold Reps at r
    subst r
    exact ⟨[], [], rfl, .nil, rfl, by unfold RepsP; rfl⟩
  | x :: xs, kvs, ws, h, r => by
    unfold Reps at r
    obtain ⟨v, vs, rfl, r1, r2⟩ := r
    unfold pairsOf at h
    cases hu : unPair x with
    | none => rw [hu] at h; cases h
    | some kd =>
      cases hp : pairsOf xs with
      | none => rw [hu, hp] at h; cases h
      | some rest =>
        rw [hu, hp] at h
        cases h
        obtain ⟨ps, kx, e1, e2, e3, e4⟩ := pairs_reps hp r2
        unfold unPair at hu
        split at hu
        · rename_i k d
          cases hk : keyOf k with
          | none => rw [hk] at hu; cases hu
          | some key =>
            rw [hk] at hu
            cases hu
            obtain ⟨a, us, rfl, hq, ru⟩ := r1.tuple
            unfold Reps at ru
            obtain ⟨u1, us1, rfl, ra, rb⟩ := ru
            unfold Reps at rb
            obtain ⟨u2, us2, rfl, rc, rd⟩ := rb
            unfold Reps at rd
            subst rd
            have ek := keyOf_D hk
            have ev := keyOf_V (K := K) (H := H) (F := F) hk (.inl ra)
            subst ek ev
            refine ⟨a :: ps, (key, u2) :: kx, by rw [e1]; rfl, .cons hq e2, by rw [List.map_cons, List.map_cons, e3], ?_⟩
            rw [List.map_cons]
            unfold RepsP
            refine ⟨u2, _, rfl, ?_, e4⟩
            unfold RepP
            exact rc
        · cases hu
section
variable {X : Cx} {W : WX} {pos : Pos}
/-- dict(xs), xs a list of pairs with keys that differ -/
def nDictOf (p : Opd) : NExp := fun n => (p.run n).bind fun a n1 => match a.get n1 with
  | some (.list xs) => match pairsOf xs with
    | some kvs => if distK kvs = true then .ok (.dict kvs) n1 else .bad
    | none => .bad
  | _ => .bad
theorem ne_dictOf {x : Expr} {p : Opd} {p0 : Pos} (hc : X.calm = true) (hm : X.mg "dict" = none) (ha : NO X W x p) (hg : Gl X "dict" := by rfl)
    (he : starEach [x] X.env = (false, eval x X.env) :: starEach [] X.env := by rfl) (hpl : (backTo pos (starEach [] X.env)).any (·.1) = false := by rfl) (hb : bootBuiltins "dict" = some (.type "dict") := by decide +kernel) :
    NE X W (.Call (.Name "dict" p0) [x] [] pos) (nDictOf p) := by
  obtain ⟨t, pa, s⟩ := ha.ex
  refine ⟨_, pe_lockD (pe_callTy (call_dictP hc) hg hm hb (pa_cons pa pa_nil he) (by decide) (by decide) he hpl), fun c Q S h => ?_⟩
  refine s c _ S (Pst.seq (rel := relV X.K) (rel' := relE X.K) mono_E h fun a n1 vx H1 F1 _ st1 S1 rx h1 => ?_)
  cases ea : a.get n1 with
  | none => rw [ea] at h1; exact h1.elim
  | some d =>
    rw [ea] at h1
    cases d with
    | list xs =>
      obtain ⟨b, ws, rfl, hH, rr⟩ := (S1.avGet rx ea).list
      dsimp only at h1
      cases ep : pairsOf xs with
      | none => rw [ep] at h1; exact h1.elim
      | some kvs =>
        rw [ep] at h1
        dsimp only at h1
        split at h1
        · rename_i hd
          obtain ⟨ps, kx, rfl, e2, e3, e4⟩ := pairs_reps ep rr
          refine ⟨b, ps, kx, rfl, SqL.of hH, e2, fun q hq => ⟨q, kx, rfl, by rw [upd_same, merge_nil e3 hd], fun od => ?_⟩⟩
          rw [upd_upd]
          obtain ⟨S2, st2, r2⟩ := S1.newDict (p := q) (od := od) hq e3 e4
          exact h1 _ _ _ st2 S2 r2
        · exact h1.elim
    | _ => exact h1.elim
/-! ### starred -/
def seqA : Option PyData → Option (List PyData)
  | some (.list xs) => some xs
  | some (.tuple xs) => some xs
  | _ => none
def aStar (p : Opd) (f : NSt → R (List AV)) : NSt → R (List AV) := fun n => (p.run n).bind fun a n1 => match seqA (a.get n1) with
  | some xs => (f n1).bind fun as n2 => .ok (xs.map .v ++ as) n2
  | none => .bad
theorem reps_av {K : PySem.W.Frag} {c : Cf} : ∀ {xs : List PyData} {ws : List V} {as : List AV} {vs : List V}, Reps K c.H c.F xs ws → Paired (AVRep K c) as vs → Paired (AVRep K c) (xs.map .v ++ as) (ws ++ vs)
  | [], ws, as, vs, r, q => by
    unfold Reps at r
    subst r
    exact q
  | x :: xs, ws, as, vs, r, q => by
    unfold Reps at r
    obtain ⟨v, us, rfl, r1, r2⟩ := r
    exact .cons r1 (reps_av r2 q)
theorem na_star {e : Expr} {es : List Expr} {p : Opd} {fs : NSt → R (List AV)} {sp : Pos} (ha : NO X W e p) (hr : NA X W es fs) (hs : starEach (.Starred e sp :: es) X.env = (true, eval e X.env) :: starEach es X.env := by rfl) : NA X W (.Starred e sp :: es) (aStar p fs) := by
  obtain ⟨ta, pa, sa⟩ := ha.ex
  obtain ⟨tr, pr, sr⟩ := hr.ex
  refine ⟨StX.tStar X.K ta tr, StX.pa_star pa pr hs, fun c Q S h => ?_⟩
  refine sa c _ S (Pst.seq (rel := relV X.K) (rel' := relA X.K) mono_A h fun a n1 v H1 F1 _ st1 S1 r1 h1 => ?_)
  cases ea : seqA (a.get n1) with
  | none => rw [ea] at h1; exact h1.elim
  | some xs =>
    rw [ea] at h1
    dsimp only at h1
    have hx : ∃ b ws, v = V.ref b ∧ (SqT X.K H1 b ws ∨ SqL X.K H1 b ws) ∧ Reps X.K H1 F1 xs ws := by
      unfold seqA at ea
      split at ea
      · rename_i ys eg
        cases ea
        obtain ⟨b, ws, e1, e2, e3⟩ := (S1.avGet r1 eg).list
        exact ⟨b, ws, e1, .inr (SqL.of e2), e3⟩
      · rename_i ys eg
        cases ea
        obtain ⟨b, ws, e1, e2, e3⟩ := (S1.avGet r1 eg).tuple
        exact ⟨b, ws, e1, .inl e2, e3⟩
      · cases ea
    obtain ⟨b, ws, e1, e2, e3⟩ := hx
    subst e1
    refine ⟨b, ws, rfl, e2, ?_⟩
    refine sr ⟨n1, c.s, H1, F1⟩ _ S1 (Pst.seq (rel := relA X.K) (rel' := relA X.K) mono_A h1 fun as n2 vs H2 F2 _ st2 S2 r2 h2 => ?_)
    exact h2 (ws ++ vs) H2 F2 (Step.refl _) S2 (reps_av (c := ⟨n2, c.s, H2, F2⟩) (st2.reps S1 e3) r2)
end
end NL
end L2
/-! NL18: {k: v, ..}. -/
namespace L2
namespace NL
open PySem PySem.Spec PyProof.Rows
/-- what none holds is written, and locked -/
theorem Sim.putF {K : PySem.W.Frag} {c : Cf} (S : Sim K c) {p : Addr} {o : HO} (nf : ¬ c.F p) (nh : ¬ c.Hd p) (hz : ∀ ob u, c.H p ≠ some (.frz ob u)) : Sim K ⟨c.n, c.s, upd c.H p o, orEq c.F p⟩ := by
  have fr : ∀ a, c.F a → orEq c.F p a ∧ upd c.H p o a = c.H a := fun a f => ⟨.inl f, upd_ne fun z => by subst z; exact nf f⟩
  refine ⟨S.len, fun j s e => ?_, S.sep, fun a f => ?_⟩
  · obtain ⟨v, e2, q⟩ := S.slot j s e
    refine ⟨v, e2, ?_⟩
    have away : ∀ b, s.held = true → v = .ref b → b ≠ p := fun b hh z y => by
      subst z; subst y
      exact nh ⟨j, s, e, hh, e2⟩
    cases s with
    | val d => exact Rep.keep fr d v q
    | own xs =>
      obtain ⟨b, ws, rfl, nb, hb, rb⟩ := q
      have hne := away b rfl rfl
      exact ⟨b, ws, rfl, fun f => f.elim nb hne, (upd_ne hne).trans hb, Reps.keep fr _ _ rb⟩
    | lent xs =>
      obtain ⟨b, ws, rfl, nb, hb, rb⟩ := q
      have hne := away b rfl rfl
      exact ⟨b, ws, rfl, fun f => f.elim nb hne, (upd_ne hne).trans hb, Reps.keep fr _ _ rb⟩
    | scr xs =>
      obtain ⟨b, ns, rfl, e3, z⟩ := q
      refine ⟨b, ns, rfl, e3, ?_⟩
      rcases z with ⟨ob, z⟩ | z
      · refine .inl ⟨ob, (upd_ne fun y => ?_).trans z⟩
        subst y
        exact hz _ _ z
      · exact .inr z
  · rcases f with f | f
    · show upd c.H p o a ≠ none
      rw [(fr a f).2]; exact S.fz a f
    · show upd c.H p o a ≠ none
      rw [f, upd_same]; simp
theorem Step.putF {c0 c : Cf} (st : Step c0 c) {p : Addr} {o : HO} (h0 : c0.H p = none) : Step c0 ⟨c.n, c.s, upd c.H p o, orEq c.F p⟩ := by
  have ne : ∀ a, c0.H a ≠ none → a ≠ p := fun a n z => by subst z; exact n h0
  refine ⟨fun a n k => ?_, fun a n => ?_, fun a f => .inl (st.fz a f), fun a f => ?_, st.hd, st.ow, st.mu, st.ln⟩
  · show upd c.H p o a = _
    rw [upd_ne (ne a n)]; exact st.keep a n k
  · show upd c.H p o a ≠ none
    rw [upd_ne (ne a n)]; exact st.live a n
  · rcases f with f | f
    · exact st.fn a f
    · exact .inr (.inl (by rw [f]; exact h0))
structure NPs (X : Cx) (W : WX) (pos : Pos) (keys : List (Option Expr)) (values : List Expr) (ks : List Str) (fs : NSt → R (List AV)) : Prop where
  ex : ∃ trs, PPs X pos keys values trs ∧ ∀ (c : Cf) (Q : List (V × V) → Hp → Prop), Sim X.K c → Pst X.K X.mg W (fun c0 c1 as ps => ps.map (·.1) = ks.map V.str ∧ relA X.K c0 c1 as (ps.map (·.2))) c Q (fs c.n) → tPairs trs c.s c.H Q
theorem mono_PP {K : PySem.W.Frag} {ks : List Str} : Mono (fun c0 c1 as (ps : List (V × V)) => ps.map (·.1) = ks.map V.str ∧ relA K c0 c1 as (ps.map (·.2))) := fun _ _ _ _ _ _ h => h
section
variable {X : Cx} {W : WX} {pos : Pos}
theorem nps_nil : NPs X W pos [] [] [] aNil := ⟨[], pps_nil, fun c Q S h => h [] c.H c.F (Step.refl c) S ⟨rfl, .nil⟩⟩
theorem nps_cons {k : Str} {j kp} {v : Expr} {f : NExp} {keys : List (Option Expr)} {values : List Expr} {ks : List Str} {fs : NSt → R (List AV)} (hv : NE X W v f) (hr : NPs X W pos keys values ks fs) :
    NPs X W pos (some (.Constant (.str k) j kp) :: keys) (v :: values) (k :: ks) (aCons (.e f) fs) := by
  obtain ⟨tv, pv, sv⟩ := hv.ex
  obtain ⟨trs, pr, sr⟩ := hr.ex
  refine ⟨(tC (.str k), tv) :: trs, pps_cons pe_str pv pr, fun c Q S h => ?_⟩
  show tv c.s c.H fun y H2 => tPairs trs c.s H2 fun ps H3 => Q ((V.str k, y) :: ps) H3
  have h : Pst X.K X.mg W (fun c0 c1 as (ps : List (V × V)) => ps.map (·.1) = (k :: ks).map V.str ∧ relA X.K c0 c1 as (ps.map (·.2))) c Q ((f c.n).bind fun d n1 => (fs n1).bind fun as n2 => .ok (.v d :: as) n2) := by
    have e : aCons (.e f) fs c.n = (f c.n).bind fun d n1 => (fs n1).bind fun as n2 => .ok (.v d :: as) n2 := by
      show ((f c.n).bind _).bind _ = _
      cases f c.n <;> rfl
    rw [← e]
    exact h
  refine sv c _ S (Pst.seq (rel := relE X.K) mono_PP h fun d n1 y H1 F1 _ st1 S1 r1 h1 => ?_)
  refine sr ⟨n1, c.s, H1, F1⟩ _ S1 (Pst.seq (rel := fun c0 c1 as (ps : List (V × V)) => ps.map (·.1) = ks.map V.str ∧ relA X.K c0 c1 as (ps.map (·.2))) mono_PP h1 fun as n2 ps H2 F2 _ st2 S2 r2 h2 => ?_)
  refine h2 ((V.str k, y) :: ps) H2 F2 (Step.refl _) S2 ⟨?_, .cons ?_ r2.2⟩
  · rw [List.map_cons, List.map_cons, r2.1]
  · exact (st2.rep S1 r1 : Rep X.K H2 F2 d y)
def nDisp (ks : List Str) (fs : NSt → R (List AV)) : NExp := fun n => (fs n).bind fun as n1 => match nTup.plains as with
  | some ds => if ds.length = ks.length ∧ distK ((ks.map PyData.str).zip ds) = true then .ok (.dict ((ks.map PyData.str).zip ds)) n1 else .bad
  | none => .bad
theorem disp_rel : ∀ {ks : List Str} {ds : List PyData} {ps : List (V × V)} {K : PySem.W.Frag} {H : Hp} {F : Fz}, ds.length = ks.length → ps.map (·.1) = ks.map V.str → Reps K H F ds (ps.map (·.2)) →
    ∃ kx : List (Key × V), ps = kx.map (fun kv => (kV kv.1, kv.2)) ∧ ((ks.map PyData.str).zip ds).map (·.1) = kx.map (fun p => keyD p.1) ∧ RepsP K H F ((ks.map PyData.str).zip ds) (kx.map (·.2)) ∧ kx.length = ks.length
  | [], [], [], K, H, F, _, _, _ => ⟨[], rfl, rfl, by show RepsP K H F [] []; unfold RepsP; rfl, rfl⟩
  | [], [], _ :: _, _, _, _, _, h, _ => by cases h
  | [], _ :: _, _, _, _, _, h, _, _ => by cases h
  | _ :: _, [], _, _, _, _, h, _, _ => by cases h
  | _ :: _, _ :: _, [], _, _, _, _, h, _ => by cases h
  | k :: ks, d :: ds, (u, v) :: ps, K, H, F, hl, hk, r => by
    rw [List.map_cons, List.map_cons, List.cons.injEq] at hk
    obtain ⟨hk1, hk2⟩ := hk
    have hk1 : u = V.str k := hk1
    subst hk1
    rw [List.map_cons] at r
    unfold Reps at r
    obtain ⟨v', vs, e, r1, r2⟩ := r
    cases e
    obtain ⟨kx, e1, e2, e3, e4⟩ := disp_rel (ks := ks) (ds := ds) (ps := ps) (by simpa using hl) hk2 r2
    refine ⟨(.inr k, v) :: kx, by rw [e1]; rfl, ?_, ?_, by simp [e4]⟩
    · show PyData.str k :: ((ks.map PyData.str).zip ds).map (·.1) = _
      rw [e2]
      rfl
    · show RepsP K H F ((PyData.str k, d) :: (ks.map PyData.str).zip ds) (v :: kx.map (·.2))
      unfold RepsP
      refine ⟨v, _, rfl, ?_, e3⟩
      unfold RepP
      exact r1
theorem ne_disp {keys : List (Option Expr)} {values : List Expr} {ks : List Str} {fs : NSt → R (List AV)} (h : NPs X W pos keys values ks fs) (hall : keys.all (·.isSome) = true) (hl : keys.length = values.length) (h0 : keys ≠ []) (h15 : keys.length ≤ 15) (hk : ks.length = keys.length) :
    NE X W (.Dict keys values pos) (nDisp ks fs) := by
  obtain ⟨trs, hp, s⟩ := h.ex
  refine ⟨_, pe_lockD (pe_disp hp hall hl h0 h15), fun c Q S h p hp => ?_⟩
  obtain ⟨S0, st0⟩ := Sim.ext S (H' := upd c.H p (.dK [])) (F' := c.F) (upd_old hp) (fun _ h => h) fun a h => .inl h
  have nf0 : ¬ c.F p := fun f => S.fz p f hp
  have nh0 : ¬ c.Hd p := fun hd => S.hdH hd hp
  have hp0 : (upd c.H p (.dK []) : Hp) p ≠ none := by rw [upd_same]; simp
  have nh1 : ¬ (⟨c.n, c.s, upd c.H p (.dK []), c.F⟩ : Cf).Hd p := nh0
  refine s ⟨c.n, c.s, upd c.H p (.dK []), c.F⟩ _ S0 ?_
  unfold nDisp at h
  show Pst _ _ _ _ _ _ (fs c.n)
  cases e : fs c.n with
  | err x n =>
    rw [e] at h
    exact fun cls d H' F' s1 S1 r1 => h cls d H' F' (st0.trans s1) S1 r1
  | bad => rw [e] at h; exact h.elim
  | ok as n1 =>
    rw [e] at h
    intro ps H1 F1 st1 S1 r1
    have hH1 : H1 p = some (.dK []) := (st1.keep p hp0 nh1).trans upd_same
    refine ⟨hH1, ?_⟩
    have h1 : Pst X.K X.mg W (relE X.K) c Q (match nTup.plains as with
      | some ds => if ds.length = ks.length ∧ distK ((ks.map PyData.str).zip ds) = true then .ok (.dict ((ks.map PyData.str).zip ds)) n1 else .bad
      | none => .bad) := h
    cases ea : nTup.plains as with
    | none => rw [ea] at h1; exact h1.elim
    | some ds =>
      rw [ea] at h1
      dsimp only at h1
      split at h1
      · rename_i hz
        have rr : Reps X.K H1 F1 ds (ps.map (·.2)) := plains_ok (c := ⟨n1, c.s, H1, F1⟩) r1.2 ea
        obtain ⟨kx, e1, e2, e3, e4⟩ := disp_rel hz.1 r1.1 rr
        refine ⟨kx, e1, by omega, p, kx, rfl, by rw [upd_same, merge_nil e2 hz.2], fun od => ?_⟩
        rw [upd_upd]
        have nf : ¬ F1 p := fun f => by
          rcases st1.fn p f with z | z | z
          · exact nf0 z
          · exact hp0 z
          · exact nh1 z.hd
        have nh : ¬ (⟨n1, c.s, H1, F1⟩ : Cf).Hd p := fun hd => by
          rcases st1.hd p hd with z | z
          · exact nh1 z
          · exact hp0 z
        have hz2 : ∀ ob u, (⟨n1, c.s, H1, F1⟩ : Cf).H p ≠ some (.frz ob u) := fun ob u z => by
          have z' := hH1.symm.trans z
          cases z'
        have S2 := Sim.putF (o := .frz od (.dK kx)) S1 nf nh hz2
        have fr : ∀ a, F1 a → orEq F1 p a ∧ upd H1 p (.frz od (.dK kx)) a = H1 a := fun a f => ⟨.inl f, upd_ne fun z => by subst z; exact nf f⟩
        exact h1 (.ref p) _ (orEq F1 p) (Step.putF (o := .frz od (.dK kx)) (st0.trans st1) hp) S2 (Rep.mkDict (.inr rfl) upd_same e2 (RepsP.keep fr _ _ e3))
      · exact h1.elim
end
end NL
end L2
/-! NL19: x = dict(..); if t: x["k"] = e. -/
namespace L2
namespace NL
open PySem PySem.Spec PyProof.Rows
theorem Sim.setNone {K : PySem.W.Frag} {c : Cf} (S : Sim K c) {i : Nat} {v : V} (hl : notLent c.n i = true) :
    let c' : Cf := ⟨c.n.set i none, c.s.set i (some v), c.H, c.F⟩; Sim K c' ∧ Step c c' := by
  intro c'
  obtain ⟨hi, nl⟩ := notLent_ok hl
  have old : ∀ j sl, (c.n.set i none)[j]? = some (some sl) → j ≠ i ∧ c.n[j]? = some (some sl) := fun j sl e => by
    by_cases hj : i = j
    · subst hj
      rw [List.getElem?_set_self hi] at e
      cases e
    · rw [List.getElem?_set_ne hj] at e
      exact ⟨fun z => hj z.symm, e⟩
  have oldS : ∀ {j a}, j ≠ i → (c.s.set i (some v))[j]? = some (some (V.ref a)) → c.s[j]? = some (some (V.ref a)) := fun hj e => by
    rw [List.getElem?_set_ne (Ne.symm hj)] at e; exact e
  have hd : ∀ a, c'.Hd a → c.Hd a := fun a ⟨j, sl, e, hh, es⟩ => let ⟨hj, e1⟩ := old j sl e; ⟨j, sl, e1, hh, oldS hj es⟩
  have ow : ∀ a, c'.Ow a → c.Ow a := fun a ⟨j, xs, e, es⟩ => let ⟨hj, e1⟩ := old j _ e; ⟨j, xs, e1, oldS hj es⟩
  refine ⟨⟨by simp [c', S.len], fun j sl e => ?_, fun j k sj sk a e1 e2 h1 h2 q1 q2 => ?_, S.fz⟩, ⟨fun _ _ _ => rfl, fun _ h => h, fun _ h => h, fun _ h => .inl h, fun a h => .inl (hd a h), fun a h => .inl (ow a h), fun j xs e => ?_, by simp [c']⟩⟩
  · obtain ⟨hj, e1⟩ := old j sl e
    obtain ⟨w, e2, r⟩ := S.slot j sl e1
    exact ⟨w, by show (c.s.set i (some v))[j]? = _; rw [List.getElem?_set_ne (Ne.symm hj)]; exact e2, r⟩
  · obtain ⟨hj, e1⟩ := old j sj e1
    obtain ⟨hk, e2⟩ := old k sk e2
    exact S.sep j k sj sk a e1 e2 h1 h2 (oldS hj q1) (oldS hk q2)
  · have hj : i ≠ j := fun z => by subst z; exact nl xs e
    exact ⟨xs, by show (c.n.set i _)[j]? = _; rw [List.getElem?_set_ne hj]; exact e, by show (c.s.set i _)[j]? = _; rw [List.getElem?_set_ne hj]⟩
theorem Sim.fill {K : PySem.W.Frag} {c : Cf} (S : Sim K c) {i : Nat} {d : PyData} {v : V} (hn : c.n[i]? = some none) (hs : c.s[i]? = some (some v)) (r : Rep K c.H c.F d v) :
    let c' : Cf := ⟨c.n.set i (some (.val d)), c.s, c.H, c.F⟩; Sim K c' ∧ Step c c' := by
  have hl : notLent c.n i = true := by unfold notLent; rw [hn]
  have e : c.s.set i (some v) = c.s := by
    apply List.ext_getElem?
    intro j
    by_cases hj : i = j
    · subst hj
      have hlt : i < c.s.length := (List.getElem?_eq_some_iff.mp hs).1
      rw [List.getElem?_set_self hlt, hs]
    · rw [List.getElem?_set_ne hj]
  have := S.setVal hl r
  rw [e] at this
  exact this
/-- the statements behind it, with the dict locked -/
def tLkS (i : Nat) (t : TS) : TS := fun D σ H => ∃ (d : Addr) (kx : List (Key × V)), σ[i]? = some (some (.ref d)) ∧ H d = some (.dK kx) ∧ ∀ od, t D σ (upd H d (.frz od (.dK kx)))
theorem pss_lock {X : Cx} {i : Nat} {st : List Stmt} {t : TS} (h : PSs X st t) : PSs X st (tLkS i t) := by
  refine ⟨fun pins s σ H D I ⟨d, kx, _, e, q⟩ => ?_⟩
  obtain ⟨od, I2⟩ := I.lock e trivial
  exact h.run pins s σ _ D I2 (q od)
def dPutP (kvs : List (PyData × PyData)) (k d : PyData) : List (PyData × PyData) :=
  if (kvs.any fun kv => isKey kv.1 k) = true then kvs.map (fun kv => if isKey kv.1 k = true then (kv.1, d) else kv) else kvs ++ [(k, d)]
theorem any_key {k : Key} : ∀ {kvs : List (PyData × PyData)} {kx : List (Key × V)}, kvs.map (·.1) = kx.map (fun p => keyD p.1) → (kvs.any fun kv => isKey kv.1 (keyD k)) = (kx.any fun kv => decide (kv.1 = k))
  | [], [], _ => rfl
  | [], _ :: _, h => by cases h
  | _ :: _, [], h => by cases h
  | (a, d) :: kvs, p :: kx, h => by
    rw [List.map_cons, List.map_cons, List.cons.injEq] at h
    obtain ⟨h1, h2⟩ := h
    have h1 : a = keyD p.1 := h1
    rw [List.any_cons, List.any_cons, any_key h2]
    dsimp only
    rw [h1, isKey_keyD]
theorem map_put {K : PySem.W.Frag} {H : Hp} {F : Fz} {k : Key} {d : PyData} {v : V} (rd : Rep K H F d v) : ∀ {kvs : List (PyData × PyData)} {kx : List (Key × V)}, kvs.map (·.1) = kx.map (fun p => keyD p.1) → RepsP K H F kvs (kx.map (·.2)) →
    (kvs.map (fun kv => if isKey kv.1 (keyD k) = true then (kv.1, d) else kv)).map (·.1) = (kx.map (fun kv => if kv.1 = k then (kv.1, v) else kv)).map (fun p => keyD p.1) ∧ RepsP K H F (kvs.map (fun kv => if isKey kv.1 (keyD k) = true then (kv.1, d) else kv)) ((kx.map (fun kv => if kv.1 = k then (kv.1, v) else kv)).map (·.2))
  | [], [], _, _ => ⟨rfl, by show RepsP K H F [] []; unfold RepsP; rfl⟩
  | [], _ :: _, h, _ => by cases h
  | _ :: _, [], h, _ => by cases h
  | (a, e) :: kvs, p :: kx, h, r => by
    rw [List.map_cons, List.map_cons, List.cons.injEq] at h
    obtain ⟨h1, h2⟩ := h
    have h1 : a = keyD p.1 := h1
    rw [List.map_cons] at r
    unfold RepsP at r
    obtain ⟨w, ws, e1, r1, r2⟩ := r
    cases e1
    unfold RepP at r1
    obtain ⟨q1, q2⟩ := map_put rd h2 r2
    have ek : isKey a (keyD k) = decide (p.1 = k) := by rw [h1, isKey_keyD]
    simp only [List.map_cons, ek] at q1 q2 ⊢
    by_cases hk : p.1 = k
    · simp only [hk, decide_true, if_true]
      refine ⟨?_, ?_⟩
      · rw [q1, h1, hk]
      · unfold RepsP
        refine ⟨v, _, rfl, ?_, q2⟩
        unfold RepP
        exact rd
    · simp only [hk, decide_false, if_false, Bool.false_eq_true]
      refine ⟨?_, ?_⟩
      · rw [q1, h1]
      · unfold RepsP
        refine ⟨p.2, _, rfl, ?_, q2⟩
        unfold RepP
        exact r1
theorem snoc_rep {K : PySem.W.Frag} {H : Hp} {F : Fz} {k : Key} {d : PyData} {v : V} (rd : Rep K H F d v) : ∀ {kvs : List (PyData × PyData)} {ws : List V}, RepsP K H F kvs ws → RepsP K H F (kvs ++ [(keyD k, d)]) (ws ++ [v])
  | [], ws, r => by
    unfold RepsP at r
    subst r
    show RepsP K H F [(keyD k, d)] [v]
    unfold RepsP
    refine ⟨v, [], rfl, ?_, ?_⟩
    · unfold RepP; exact rd
    · unfold RepsP; rfl
  | p :: kvs, ws, r => by
    unfold RepsP at r
    obtain ⟨w, us, rfl, r1, r2⟩ := r
    show RepsP K H F (p :: (kvs ++ [(keyD k, d)])) (w :: (us ++ [v]))
    unfold RepsP
    exact ⟨w, _, rfl, r1, snoc_rep rd r2⟩
theorem put_rep {K : PySem.W.Frag} {H : Hp} {F : Fz} {k : Key} {d : PyData} {v : V} (rd : Rep K H F d v) {kvs : List (PyData × PyData)} {kx : List (Key × V)} (h : kvs.map (·.1) = kx.map (fun p => keyD p.1)) (r : RepsP K H F kvs (kx.map (·.2))) :
    (dPutP kvs (keyD k) d).map (·.1) = (putK kx k v).map (fun p => keyD p.1) ∧ RepsP K H F (dPutP kvs (keyD k) d) ((putK kx k v).map (·.2)) := by
  unfold dPutP putK
  rw [any_key h]
  by_cases ha : (kx.any fun kv => decide (kv.1 = k)) = true
  · rw [if_pos ha, if_pos ha]
    exact map_put rd h r
  · rw [if_neg ha, if_neg ha]
    refine ⟨by rw [List.map_append, List.map_append, h]; rfl, ?_⟩
    rw [List.map_append]
    exact snoc_rep rd r
def freeSl (n : NSt) (i : Nat) : Bool := match n[i]? with
  | some none => true
  | _ => false
theorem freeSl_ok {n : NSt} {i : Nat} (h : freeSl n i = true) : n[i]? = some none := by
  unfold freeSl at h
  split at h
  · assumption
  · cases h
def sDictSet (i : Nat) (p : Opd) (t : NSt → R Bool) (k : Str) (fe : NExp) : NStm := fun n => (nDictOf p n).st fun d n1 => match d with
  | .dict kvs => if notLent n1 i = true ∧ kvs.length ≤ 1000 then (t (n1.set i none)).st fun b n2 => if b = true then (fe n2).st fun v n3 => if freeSl n3 i = true then .nx (n3.set i (some (.val (.dict (dPutP kvs (.str k) v))))) else .bad
      else if freeSl n2 i = true then .nx (n2.set i (some (.val (.dict kvs)))) else .bad
    else .bad
  | _ => .bad
section
variable {X : Cx} {W : WX}
theorem nss_dictSet (i : Nat) {x k : Str} {le te ve : Expr} {rest : List Stmt} {p : Opd} {t : NSt → R Bool} {fe : NExp} {g : NStm} {p0 p1 p2 p3 p4 pos ps1 ps2 ps3 : Pos} {j : Nat}
    (hu : X.A.units + 64 < cLine) (hN : X.N.Nodup) (hi : X.N[i]? = some x) (hx : Loc X.env.scope x) (hv : Vis X.env.scope x)
    (hc : X.calm = true) (hm : X.mg "dict" = none) (ha : NO X W le p) (ht : NT X W te t) (hfe : NE X W ve fe) (hr : NSs X W rest g)
    (hf : X.fn x = true ∨ X.env.scope.names.lookup x = some .local := by first | exact .inl rfl | exact .inr rfl | assumption) (hg : Gl X "dict" := by rfl)
    (he : starEach [le] X.env = (false, eval le X.env) :: starEach [] X.env := by rfl) (hpl : (backTo pos (starEach [] X.env)).any (·.1) = false := by rfl) (hb : bootBuiltins "dict" = some (.type "dict") := by decide +kernel)
    (hs1 : swapsWithSole [.Name x p1] (.Call (.Name "dict" p0) [le] [] pos) ps1.line X.env = pure false := by rfl) (hw1 : swappedStores [.Name x p1] (.Call (.Name "dict" p0) [le] [] pos) X.env = pure none := by rfl)
    (ha1 : (assignEach [.Name x p1] X.env).map (·.2) = [assign (.Name x p1) X.env] := by rfl)
    (hs2 : swapsWith ve (some (.Subscript (.Name x p2) (.Constant (.str k) j p3) p4)) ps2.line X.env = pure false := by rfl)
    (hd : (x == ("__debug__" : Str)) = false := by decide) (hcd : (x == ("__classdict__" : Str)) = false := by decide) :
    NSs X W (.Assign [.Name x p1] (.Call (.Name "dict" p0) [le] [] pos) ps1 :: .If te [.Assign [.Subscript (.Name x p2) (.Constant (.str k) j p3) p4] ve ps2] [] ps3 :: rest) (sSeq (sDictSet i p t k fe) g) := by
  obtain ⟨ta, pa, sa⟩ := ha.ex
  obtain ⟨tt, pt, st⟩ := ht.ex
  obtain ⟨tv, pv, sv⟩ := hfe.ex
  obtain ⟨tr, pr, sr⟩ := hr.ex
  refine ⟨_, pss_cons (ps_asg (pe_callTy (call_dictP hc) hg hm hb (pa_cons pa pa_nil he) (by decide) (by decide) he hpl) (pg_name hN hi hx hf) hs1 hw1 ha1) (pss_cons (ps_if pt (pss_one (ps_dput (by omega) (pe_var hi hv hd hcd) pe_str pv hs2)) pss_nil) (pss_lock (i := i) pr)), fun c D S h => ?_⟩
  have h : PstS X.K X.mg W c D ((sDictSet i p t k fe c.n).seq g) := h
  unfold sDictSet nDictOf at h
  refine sa c _ S ?_
  cases ep : p.run c.n with
  | err y n1 => rw [ep] at h; exact fun cls d H' F' s1 S1 r1 => h cls d c.s H' F' s1 S1 r1
  | bad => rw [ep] at h; exact h.elim
  | ok a n1 =>
    rw [ep] at h
    intro vx H1 F1 st1 S1 rx
    cases ea : a.get n1 with
    | none =>
      have h : PstS X.K X.mg W c D (((match a.get n1 with
        | some (.list xs) => match pairsOf xs with
          | some kvs => if distK kvs = true then R.ok (PyData.dict kvs) n1 else .bad
          | none => .bad
        | _ => .bad).st _).seq g) := h
      rw [ea] at h
      exact h.elim
    | some d =>
      have h : PstS X.K X.mg W c D (((match a.get n1 with
        | some (.list xs) => match pairsOf xs with
          | some kvs => if distK kvs = true then R.ok (PyData.dict kvs) n1 else .bad
          | none => .bad
        | _ => .bad).st _).seq g) := h
      rw [ea] at h
      cases d with
      | list xs =>
        obtain ⟨b, ws, rfl, hH, rr⟩ := (S1.avGet rx ea).list
        dsimp only at h
        cases epp : pairsOf xs with
        | none => rw [epp] at h; exact h.elim
        | some kvs =>
          rw [epp] at h
          dsimp only at h
          by_cases hdist : distK kvs = true
          · rw [if_pos hdist] at h
            obtain ⟨ps, kx, rfl, e2, e3, e4⟩ := pairs_reps epp rr
            refine ⟨b, ps, kx, rfl, SqL.of hH, e2, fun q hq => ?_⟩
            rw [merge_nil e3 hdist]
            have h : PstS X.K X.mg W c D ((if notLent n1 i = true ∧ kvs.length ≤ 1000 then (t (n1.set i none)).st fun b n2 => if b = true then (fe n2).st fun v n3 => if freeSl n3 i = true then .nx (n3.set i (some (.val (.dict (dPutP kvs (.str k) v))))) else .bad
                else if freeSl n2 i = true then .nx (n2.set i (some (.val (.dict kvs)))) else .bad
              else NR.bad).seq g) := h
            split at h
            · rename_i hz
              obtain ⟨hl, hlen⟩ := hz
              have hlk : kx.length ≤ 1000 := by
                have := congrArg List.length e3
                rw [List.length_map, List.length_map] at this
                omega
              -- the new dict, held by none
              obtain ⟨S2, st2⟩ := Sim.ext S1 (H' := upd H1 q (.dK kx)) (F' := F1) (upd_old hq) (fun _ h => h) fun a h => .inl h
              obtain ⟨S3, st3⟩ := Sim.setNone (K := X.K) (c := ⟨n1, c.s, upd H1 q (.dK kx), F1⟩) S2 (i := i) (v := .ref q) hl
              have cq : c.H q = none := Classical.byContradiction fun z => st1.live q z hq
              have stc3 := (st1.trans st2).trans st3
              have hq3 : (upd H1 q (.dK kx) : Hp) q ≠ none := by rw [upd_same]; simp
              have nf3 : ¬ F1 q := fun f => S1.fz q f hq
              have nh3 : ¬ (⟨n1.set i none, c.s.set i (some (.ref q)), upd H1 q (.dK kx), F1⟩ : Cf).Hd q := fun hd => by
                rcases st3.hd q hd with z | z
                · exact (S1.hdH (show (⟨n1, c.s, H1, F1⟩ : Cf).Hd q from z)) hq
                · exact hq3 z
              have hil : i < c.s.length := by
                have h1 := S1.len
                have h2 := (notLent_ok hl).1
                have h1' : n1.length = c.s.length := h1
                omega
              have hsi : (c.s.set i (some (V.ref q)))[i]? = some (some (.ref q)) := List.getElem?_set_self hil
              show tt (c.s.set i (some (.ref q))) (upd H1 q (.dK kx)) _
              -- the end, from any later point
              have fin : ∀ (n4 : NSt) (H4 : Hp) (F4 : Fz) (kvs' : List (PyData × PyData)) (ky : List (Key × V)) (od : Obj), Step ⟨n1.set i none, c.s.set i (some (.ref q)), upd H1 q (.dK kx), F1⟩ ⟨n4, c.s.set i (some (.ref q)), H4, F4⟩ → Sim X.K ⟨n4, c.s.set i (some (.ref q)), H4, F4⟩ →
                  n4[i]? = some none → kvs'.map (·.1) = ky.map (fun p => keyD p.1) → RepsP X.K H4 F4 kvs' (ky.map (·.2)) → PstS X.K X.mg W c D (g (n4.set i (some (.val (.dict kvs'))))) → tr D (c.s.set i (some (.ref q))) (upd H4 q (.frz od (.dK ky))) := by
                intro n4 H4 F4 kvs' ky od st4 S4 hn4 hk4 r4 hg4
                have hH4 : H4 q = some (.dK kx) := (st4.keep q hq3 nh3).trans upd_same
                have nf : ¬ F4 q := fun f => by
                  rcases st4.fn q f with z | z | z
                  · exact nf3 z
                  · exact hq3 z
                  · exact nh3 z.hd
                have nh : ¬ (⟨n4, c.s.set i (some (.ref q)), H4, F4⟩ : Cf).Hd q := fun hd => by
                  rcases st4.hd q hd with z | z
                  · exact nh3 z
                  · exact hq3 z
                have hzz : ∀ ob u, (⟨n4, c.s.set i (some (.ref q)), H4, F4⟩ : Cf).H q ≠ some (.frz ob u) := fun ob u z => by
                  have z' := hH4.symm.trans z
                  cases z'
                have S5 := Sim.putF (o := .frz od (.dK ky)) S4 nf nh hzz
                have st5 := Step.putF (o := .frz od (.dK ky)) (stc3.trans st4) cq
                have fr : ∀ a, F4 a → orEq F4 q a ∧ upd H4 q (.frz od (.dK ky)) a = H4 a := fun a f => ⟨.inl f, upd_ne fun z => by subst z; exact nf f⟩
                obtain ⟨S6, st6⟩ := Sim.fill (K := X.K) (c := ⟨n4, c.s.set i (some (.ref q)), upd H4 q (.frz od (.dK ky)), orEq F4 q⟩) S5 (i := i) (d := .dict kvs') hn4 hsi (Rep.mkDict (.inr rfl) upd_same hk4 (RepsP.keep fr _ _ r4))
                exact sr ⟨n4.set i (some (.val (.dict kvs'))), c.s.set i (some (.ref q)), upd H4 q (.frz od (.dK ky)), orEq F4 q⟩ D S6 (PstS.step (c := c) (c1 := ⟨n4.set i (some (.val (.dict kvs'))), c.s.set i (some (.ref q)), upd H4 q (.frz od (.dK ky)), orEq F4 q⟩) (st5.trans st6) hg4)
              refine st ⟨n1.set i none, c.s.set i (some (.ref q)), upd H1 q (.dK kx), F1⟩ _ S3 ?_
              show Pst _ _ _ _ _ _ (t (n1.set i none))
              cases et : t (n1.set i none) with
              | err y n2 => rw [et] at h; exact fun cls d H' F' s1 S1' r1 => h cls d _ H' F' (stc3.trans s1) S1' r1
              | bad => rw [et] at h; exact h.elim
              | ok bb n2 =>
                rw [et] at h
                intro bb' H5 F5 st5 S5 rb
                cases rb
                have st3' : Step (⟨n1.set i none, c.s.set i (some (.ref q)), upd H1 q (.dK kx), F1⟩ : Cf) ⟨n2, c.s.set i (some (.ref q)), H5, F5⟩ := st5
                have h : PstS X.K X.mg W c D ((if bb = true then (fe n2).st fun v n3 => if freeSl n3 i = true then .nx (n3.set i (some (.val (.dict (dPutP kvs (.str k) v))))) else .bad
                  else if freeSl n2 i = true then NR.nx (n2.set i (some (.val (.dict kvs)))) else .bad).seq g) := h
                have e4' : RepsP X.K (upd H1 q (.dK kx)) F1 kvs (kx.map (·.2)) := RepsP.keep (st2.frz S1) _ _ e4
                cases bb with
                | false =>
                  refine iteF ?_
                  simp only [Bool.false_eq_true, if_false] at h
                  by_cases hn2 : freeSl n2 i = true
                  · rw [if_pos hn2] at h
                    have hH5 : H5 q = some (.dK kx) := (st5.keep q hq3 nh3).trans upd_same
                    refine ⟨q, kx, hsi, hH5, fun od => ?_⟩
                    exact fin n2 H5 F5 kvs kx od st5 S5 (freeSl_ok hn2) e3 (RepsP.keep (st5.frz S3) _ _ e4') h
                  · rw [if_neg hn2] at h
                    exact h.elim
                | true =>
                  refine iteT ?_
                  simp only [if_true] at h
                  refine sv ⟨n2, c.s.set i (some (.ref q)), H5, F5⟩ _ S5 ?_
                  show Pst _ _ _ _ _ _ (fe n2)
                  cases ef : fe n2 with
                  | err y n3 => rw [ef] at h; exact fun cls d H' F' s1 S1' r1 => h cls d _ H' F' ((stc3.trans st5).trans s1) S1' r1
                  | bad => rw [ef] at h; exact h.elim
                  | ok dv n3 =>
                    rw [ef] at h
                    intro vv H6 F6 st6 S6 r6
                    have h : PstS X.K X.mg W c D ((if freeSl n3 i = true then NR.nx (n3.set i (some (.val (.dict (dPutP kvs (.str k) dv))))) else .bad).seq g) := h
                    by_cases hn3 : freeSl n3 i = true
                    · rw [if_pos hn3] at h
                      have st56 : Step (⟨n1.set i none, c.s.set i (some (.ref q)), upd H1 q (.dK kx), F1⟩ : Cf) ⟨n3, c.s.set i (some (.ref q)), H6, F6⟩ := st5.trans st6
                      have hH6 : H6 q = some (.dK kx) := (st56.keep q hq3 nh3).trans upd_same
                      have r6' : RepsP X.K H6 F6 kvs (kx.map (·.2)) := RepsP.keep (st56.frz S3) _ _ e4'
                      obtain ⟨w1, w2⟩ := put_rep (k := .inr k) r6 e3 r6'
                      refine ⟨.ref q, hsi, q, upd H6 q (.dK (putK kx (.inr k) vv)), rfl, .inl ⟨kx, .inr k, hH6, rfl, Nat.lt_of_le_of_lt hlk (by rw [sizeLine_eq]; decide), rfl⟩, ?_⟩
                      refine ⟨q, putK kx (.inr k) vv, hsi, upd_same, fun od => ?_⟩
                      rw [upd_upd]
                      exact fin n3 H6 F6 (dPutP kvs (.str k) dv) (putK kx (.inr k) vv) od st56 S6 (freeSl_ok hn3) w1 w2 h
                    · rw [if_neg hn3] at h
                      exact h.elim
            · exact h.elim
          · rw [if_neg hdist] at h
            exact h.elim
      | _ => exact h.elim
end
end NL
end L2
namespace L2
namespace NL
open PySem PySem.Spec PyProof.Rows
namespace Wlaw_k12
def top (i : Nat) : Stmt := PySem.Challenge.pw_borderward_k12_whole_trips_past_posts.main.body.getD i (.Pass ⟨0, 0, 0, 0⟩)
def tblF : List Str := ["NotRight", "NotThere", "NoAnswer", "TooLarge", "Malformed"]
def knownF : List Str := ["NotRight", "NotThere"]
def subF (x y : Str) : Bool := (x == "NotRight" && y == "NotRight") || (x == "NotThere" && y == "NotThere")
/-- what the written part gives -/
structure Tx (K : PySem.W.Frag) (mg : Str → Option Value) : Prop where
  f_abs : mg "abs" = none
  f_all : mg "all" = none
  f_bool : mg "bool" = none
  f_dict : mg "dict" = none
  f_int : mg "int" = none
  f_isinstance : mg "isinstance" = none
  f_len : mg "len" = none
  f_list : mg "list" = none
  f_max : mg "max" = none
  f_min : mg "min" = none
  f_range : mg "range" = none
  f_reversed : mg "reversed" = none
  f_set : mg "set" = none
  f_sorted : mg "sorted" = none
  f_str : mg "str" = none
  f_sum : mg "sum" = none
  f_tuple : mg "tuple" = none
  f_zip : mg "zip" = none
  g_DAY : Gv K mg "DAY" (.int 1440)
  g_LAST_DAY : Gv K mg "LAST_DAY" (.int 100000)
  g_LAST_MINUTE : Gv K mg "LAST_MINUTE" (.int 10000000)
  g_LONGEST_LEG : Gv K mg "LONGEST_LEG" (.int 5000)
  g_MOST_CLOSED : Gv K mg "MOST_CLOSED" (.int 100)
  g_MOST_LEGS : Gv K mg "MOST_LEGS" (.int 12)
  g_MOST_SIGNS : Gv K mg "MOST_SIGNS" (.int 12)
  g_WEEK : Gv K mg "WEEK" (.int 7)
  d__law_arrival : DefIn K mg "_law_arrival" "_law_arrival" (top 50)
  d__law_closed : DefIn K mg "_law_closed" "_law_closed" (top 46)
  d__law_draws : DefIn K mg "_law_draws" "_law_draws" (top 40)
  d__law_flags : DefIn K mg "_law_flags" "_law_flags" (top 44)
  d__law_hours : DefIn K mg "_law_hours" "_law_hours" (top 45)
  d__law_is_in_time : DefIn K mg "_law_is_in_time" "_law_is_in_time" (top 51)
  d__law_next_open : DefIn K mg "_law_next_open" "_law_next_open" (top 47)
  d__law_passed : DefIn K mg "_law_passed" "_law_passed" (top 49)
  d__law_pick : DefIn K mg "_law_pick" "_law_pick" (top 42)
  d__law_same : DefIn K mg "_law_same" "_law_same" (top 43)
  d__law_take : DefIn K mg "_law_take" "_law_take" (top 41)
  d__law_told : DefIn K mg "_law_told" "_law_told" (top 48)
  d_are_ascending : DefIn K mg "are_ascending" "are_ascending" (top 10)
  d_are_closed : DefIn K mg "are_closed" "are_closed" (top 25)
  d_are_hours : DefIn K mg "are_hours" "are_hours" (top 24)
  d_arrival : DefIn K mg "arrival" "arrival" (top 35)
  d_arrival_by : DefIn K mg "arrival_by" "arrival_by" (top 34)
  d_check : DefIn K mg "check" "check" (top 12)
  d_check_there : DefIn K mg "check_there" "check_there" (top 13)
  d_check_trip : DefIn K mg "check_trip" "check_trip" (top 31)
  d_is_day_row : DefIn K mg "is_day_row" "is_day_row" (top 23)
  d_is_in_time : DefIn K mg "is_in_time" "is_in_time" (top 36)
  d_is_integer : DefIn K mg "is_integer" "is_integer" (top 8)
  d_is_leg : DefIn K mg "is_leg" "is_leg" (top 30)
  d_is_minute : DefIn K mg "is_minute" "is_minute" (top 26)
  d_is_name : DefIn K mg "is_name" "is_name" (top 11)
  d_is_pair : DefIn K mg "is_pair" "is_pair" (top 22)
  d_is_post : DefIn K mg "is_post" "is_post" (top 29)
  d_is_within : DefIn K mg "is_within" "is_within" (top 9)
  d_latest_start : DefIn K mg "latest_start" "latest_start" (top 37)
  d_next_by : DefIn K mg "next_by" "next_by" (top 28)
  d_pairs_on : DefIn K mg "pairs_on" "pairs_on" (top 27)
  d_passed_at : DefIn K mg "passed_at" "passed_at" (top 33)
  d_passed_by : DefIn K mg "passed_by" "passed_by" (top 32)
  d_waiting_in : DefIn K mg "waiting_in" "waiting_in" (top 38)
  x_NotRight : ExcF K mg "NotRight"
  x_NotThere : ExcF K mg "NotThere"
  CB : ∃ C : Addr, mg "BorderError" = some (.ref C) ∧ ∀ y ∈ knownF, ∃ D, Flg K mg subF tblF y D ∧ PySem.W.exmOne K (.ref D) (.ref C) = some true

variable {P : Program} {w : World} {K : PySem.W.Frag} {mg : Str → Option Value} {base : Heap}
theorem sc_11 : FnScope ["value", "sign"] ["value"] (defScope (top 11)) := ⟨rfl, rfl, rfl, by decide +kernel, rfl, by decide +kernel, by decide +kernel⟩
def B_11 : NStm :=
  sSeq (sIf (tOr' (tNot' (asT (.e (nIsi "str" (.o 0))))) (tOr' (tNot' (asB (nChain oLe oLe (.e (nC (.int 1))) (.e (nCB bLen (aCons (.o 0) (aNil)))) (.e (nC (.int 12)))))) (tNot' (asB (nChain oLe oLe (.e (nC (.str "a"))) (.e (nOp2 oIx (.o 0) (.e (nC (.int 0))))) (.e (nC (.str "z")))))))) (sRet (nC (.bool false))) (sNil))
  (sRet (nCB bAll (aCons (.e (nL (nLc (iV (nF 0)) (gN 1) (tYesN) (nOr (nChain oLe oLe (.e (nC (.str "a"))) (.o 1) (.e (nC (.str "z")))) (nChain oLe oLe (.e (nC (.str "0"))) (.o 1) (.e (nC (.str "9"))))) [1]))) (aNil))))
def D_11 : NExp := runD 2 B_11
theorem n_11 {x : Str} (T : Tx K mg) (h : DefIn K mg x "is_name" (top 11)) : NFn P w K mg base 1 x 1 D_11 := by
  obtain ⟨f, fd, F0, hm⟩ := h.ex
  exact NFn.of F0 hm sc_11 (FunD.bindsN (ps := ["value"]) F0 fun _ _ _ _ _ _ us hl => match us, hl with | [_], _ => rfl) rfl fun cdv A outer s H E hr => by exact (nss_cons (ns_if (NW.t (nw_or (nt_not (nt_t (no_e (ne_isi kit_str (no_o 0) T.f_isinstance T.f_str bt_str)))) (nw_or (nt_not (nt_chain op_leN op_leN no_le no_le (no_e ne_int) (no_e (ne_len T.f_len (na_cons (no_o 0) na_nil))) (no_e (ne_g T.g_MOST_SIGNS)))) (nw_or1 (nt_not (nt_chain op_leN op_leN no_le no_le (no_e ne_str) (no_e (ne_ix (no_o 0) (no_e ne_int))) (no_e ne_str))))))) (nss_one (ns_ret ne_bool)) nss_nil)
    (nss_one (ns_ret (ne_cb (cr_all rfl) cn_all T.f_all bt_all (na_cons (no_e (ne_l (neo_lc (own := [("sign", 1)]) rfl sc_11.nd (ni_v (ne_f 0)) (blkOk_by rfl) (fun s_ H_ C_ cl_ fp_ => (ng_name 1 sc_11.nd rfl (by first | exact Or.inl rfl | exact Or.inr rfl))) (fun s_ H_ C_ cl_ fp_ => pts_nilN) (fun s_ H_ C_ cl_ fp_ => (ne_or (ne_chain op_leN op_leN no_le no_le (no_e ne_str) (no_o 1) (no_e ne_str)) (ne_one (ne_chain op_leN op_leN no_le no_le (no_e ne_str) (no_o 1) (no_e ne_str)))))))) na_nil)))))
theorem sc_12 : FnScope ["is_right"] ["is_right"] (defScope (top 12)) := ⟨rfl, rfl, rfl, by decide +kernel, rfl, by decide +kernel, by decide +kernel⟩
def B_12 : NStm :=
  sIf (tNot' (asT (.o 0))) (sRaise "NotRight") (sNil)
def D_12 : NExp := runD 1 B_12
theorem n_12 {x : Str} (T : Tx K mg) (h : DefIn K mg x "check" (top 12)) : NFn P w K mg base 1 x 1 D_12 := by
  obtain ⟨f, fd, F0, hm⟩ := h.ex
  exact NFn.of F0 hm sc_12 (FunD.bindsN (ps := ["is_right"]) F0 fun _ _ _ _ _ _ us hl => match us, hl with | [_], _ => rfl) rfl fun cdv A outer s H E hr => by exact (nss_one (ns_if (nt_not (nt_t (no_o 0))) (nss_one (ns_raise T.x_NotRight rfl (takes_of rfl rfl rfl rfl))) nss_nil))
theorem sc_13 : FnScope ["is_there"] ["is_there"] (defScope (top 13)) := ⟨rfl, rfl, rfl, by decide +kernel, rfl, by decide +kernel, by decide +kernel⟩
def B_13 : NStm :=
  sIf (tNot' (asT (.o 0))) (sRaise "NotThere") (sNil)
def D_13 : NExp := runD 1 B_13
theorem n_13 {x : Str} (T : Tx K mg) (h : DefIn K mg x "check_there" (top 13)) : NFn P w K mg base 1 x 1 D_13 := by
  obtain ⟨f, fd, F0, hm⟩ := h.ex
  exact NFn.of F0 hm sc_13 (FunD.bindsN (ps := ["is_there"]) F0 fun _ _ _ _ _ _ us hl => match us, hl with | [_], _ => rfl) rfl fun cdv A outer s H E hr => by exact (nss_one (ns_if (nt_not (nt_t (no_o 0))) (nss_one (ns_raise T.x_NotThere rfl (takes_of rfl rfl rfl rfl))) nss_nil))
theorem sc_8 : FnScope ["value"] ["value"] (defScope (top 8)) := ⟨rfl, rfl, rfl, by decide +kernel, rfl, by decide +kernel, by decide +kernel⟩
def B_8 : NStm :=
  sRet (nAnd (nIsi "int" (.o 0)) (nNot (nIsi "bool" (.o 0))))
def D_8 : NExp := runD 1 B_8
theorem n_8 {x : Str} (T : Tx K mg) (h : DefIn K mg x "is_integer" (top 8)) : NFn P w K mg base 1 x 1 D_8 := by
  obtain ⟨f, fd, F0, hm⟩ := h.ex
  exact NFn.of F0 hm sc_8 (FunD.bindsN (ps := ["value"]) F0 fun _ _ _ _ _ _ us hl => match us, hl with | [_], _ => rfl) rfl fun cdv A outer s H E hr => by exact (nss_one (ns_ret (ne_and (ne_isi kit_int (no_o 0) T.f_isinstance T.f_int bt_int) (ne_one (ne_not (ne_isi kit_bool (no_o 0) T.f_isinstance T.f_bool bt_bool))))))
theorem sc_9 : FnScope ["value", "low", "high"] ["value", "low", "high"] (defScope (top 9)) := ⟨rfl, rfl, rfl, by decide +kernel, rfl, by decide +kernel, by decide +kernel⟩
def B_9 : NStm :=
  sRet (nAnd (nCall D_8 (aCons (.o 0) (aNil))) (nChain oLe oLe (.o 1) (.o 0) (.o 2)))
def D_9 : NExp := runD 3 B_9
theorem n_9 {x : Str} (T : Tx K mg) (h : DefIn K mg x "is_within" (top 9)) : NFn P w K mg base 2 x 3 D_9 := by
  obtain ⟨f, fd, F0, hm⟩ := h.ex
  exact NFn.of F0 hm sc_9 (FunD.bindsN (ps := ["value", "low", "high"]) F0 fun _ _ _ _ _ _ us hl => match us, hl with | [_, _, _], _ => rfl) rfl fun cdv A outer s H E hr => by exact (nss_one (ns_ret (ne_and (ne_call ((n_8 T T.d_is_integer).mono (by omega)) hr (takes_of rfl rfl rfl rfl) (na_cons (no_o 0) na_nil) rfl rfl (aCons_len aNil_len)) (ne_one (ne_chain op_leN op_leN no_le no_le (no_o 1) (no_o 0) (no_o 2))))))
theorem sc_26 : FnScope ["value"] ["value"] (defScope (top 26)) := ⟨rfl, rfl, rfl, by decide +kernel, rfl, by decide +kernel, by decide +kernel⟩
def B_26 : NStm :=
  sRet (nCall D_9 (aCons (.o 0) (aCons (.e (nC (.int 0))) (aCons (.e (nC (.int 10000000))) (aNil)))))
def D_26 : NExp := runD 1 B_26
theorem n_26 {x : Str} (T : Tx K mg) (h : DefIn K mg x "is_minute" (top 26)) : NFn P w K mg base 3 x 1 D_26 := by
  obtain ⟨f, fd, F0, hm⟩ := h.ex
  exact NFn.of F0 hm sc_26 (FunD.bindsN (ps := ["value"]) F0 fun _ _ _ _ _ _ us hl => match us, hl with | [_], _ => rfl) rfl fun cdv A outer s H E hr => by exact (nss_one (ns_ret (ne_call ((n_9 T T.d_is_within).mono (by omega)) hr (takes_of rfl rfl rfl rfl) (na_cons (no_o 0) (na_cons (no_e ne_int) (na_cons (no_e (ne_g T.g_LAST_MINUTE)) na_nil))) rfl rfl (aCons_len (aCons_len (aCons_len aNil_len))))))
theorem sc_22 : FnScope ["value", "one"] ["value"] (defScope (top 22)) := ⟨rfl, rfl, rfl, by decide +kernel, rfl, by decide +kernel, by decide +kernel⟩
def B_22 : NStm :=
  sSeq (sIf (tOr' (tNot' (asT (.e (nIsi "tuple" (.o 0))))) (tOr' (asB (nOp2 oNe (.e (nCB bLen (aCons (.o 0) (aNil)))) (.e (nC (.int 2))))) (tNot' (asT (.e (nCB bAll (aCons (.e (nL (nLc (iV (nF 0)) (gN 1) (tYesN) (nCall D_9 (aCons (.o 1) (aCons (.e (nC (.int 0))) (aCons (.e (nC (.int 1440))) (aNil))))) [1]))) (aNil)))))))) (sRet (nC (.bool false))) (sNil))
  (sRet (nOp2 oLt (.e (nOp2 oIx (.o 0) (.e (nC (.int 0))))) (.e (nOp2 oIx (.o 0) (.e (nC (.int 1)))))))
def D_22 : NExp := runD 2 B_22
theorem n_22 {x : Str} (T : Tx K mg) (h : DefIn K mg x "is_pair" (top 22)) : NFn P w K mg base 3 x 1 D_22 := by
  obtain ⟨f, fd, F0, hm⟩ := h.ex
  exact NFn.of F0 hm sc_22 (FunD.bindsN (ps := ["value"]) F0 fun _ _ _ _ _ _ us hl => match us, hl with | [_], _ => rfl) rfl fun cdv A outer s H E hr => by exact (nss_cons (ns_if (NW.t (nw_or (nt_not (nt_t (no_e (ne_isi kit_tuple (no_o 0) T.f_isinstance T.f_tuple bt_tuple)))) (nw_or (nt_cmp (op_neN hr.units) no_ne (no_e (ne_len T.f_len (na_cons (no_o 0) na_nil))) (no_e ne_int) rfl) (nw_or1 (nt_not (nt_t (no_e (ne_cb (cr_all rfl) cn_all T.f_all bt_all (na_cons (no_e (ne_l (neo_lc (own := [("one", 1)]) rfl sc_22.nd (ni_v (ne_f 0)) (blkOk_by rfl) (fun s_ H_ C_ cl_ fp_ => (ng_name 1 sc_22.nd rfl (by first | exact Or.inl rfl | exact Or.inr rfl))) (fun s_ H_ C_ cl_ fp_ => pts_nilN) (fun s_ H_ C_ cl_ fp_ => (ne_call ((n_9 T T.d_is_within).mono (by omega)) hr takes0 (na_cons (no_o 1) (na_cons (no_e ne_int) (na_cons (no_e (ne_g T.g_DAY)) na_nil))) rfl rfl (aCons_len (aCons_len (aCons_len aNil_len)))))))) na_nil))))))))) (nss_one (ns_ret ne_bool)) nss_nil)
    (nss_one (ns_ret (ne_cmp (op_ltN hr.units) no_lt (no_e (ne_ix (no_o 0) (no_e ne_int))) (no_e (ne_ix (no_o 0) (no_e ne_int))) rfl))))
theorem sc_23 : FnScope ["value", "one", "other"] ["value"] (defScope (top 23)) := ⟨rfl, rfl, rfl, by decide +kernel, rfl, by decide +kernel, by decide +kernel⟩
def B_23 : NStm :=
  sSeq (sIf (tOr' (tNot' (asT (.e (nIsi "tuple" (.o 0))))) (tNot' (asT (.e (nCB bAll (aCons (.e (nL (nLc (iV (nF 0)) (gN 1) (tYesN) (nCall D_22 (aCons (.o 1) (aNil))) [1]))) (aNil))))))) (sRet (nC (.bool false))) (sNil))
  (sRet (nCB bAll (aCons (.e (nL (nLc (iZp (aCons (.e (nF 0)) (aCons (.e (nSl (.o 0) (pSome (nC (.int 1))) (pNone))) (aNil)))) (gT (gCons' (gN 1) (gCons' (gN 2) (gNil')))) (tYesN) (nOp2 oLt (.e (nOp2 oIx (.o 1) (.e (nC (.int 1))))) (.e (nOp2 oIx (.o 2) (.e (nC (.int 0)))))) [1, 2]))) (aNil))))
def D_23 : NExp := runD 3 B_23
theorem n_23 {x : Str} (T : Tx K mg) (h : DefIn K mg x "is_day_row" (top 23)) : NFn P w K mg base 4 x 1 D_23 := by
  obtain ⟨f, fd, F0, hm⟩ := h.ex
  exact NFn.of F0 hm sc_23 (FunD.bindsN (ps := ["value"]) F0 fun _ _ _ _ _ _ us hl => match us, hl with | [_], _ => rfl) rfl fun cdv A outer s H E hr => by exact (nss_cons (ns_if (NW.t (nw_or (nt_not (nt_t (no_e (ne_isi kit_tuple (no_o 0) T.f_isinstance T.f_tuple bt_tuple)))) (nw_or1 (nt_not (nt_t (no_e (ne_cb (cr_all rfl) cn_all T.f_all bt_all (na_cons (no_e (ne_l (neo_lc (own := [("one", 1)]) rfl sc_23.nd (ni_v (ne_f 0)) (blkOk_by rfl) (fun s_ H_ C_ cl_ fp_ => (ng_name 1 sc_23.nd rfl (by first | exact Or.inl rfl | exact Or.inr rfl))) (fun s_ H_ C_ cl_ fp_ => pts_nilN) (fun s_ H_ C_ cl_ fp_ => (ne_call ((n_22 T T.d_is_pair).mono (by omega)) hr takes0 (na_cons (no_o 1) na_nil) rfl rfl (aCons_len aNil_len)))))) na_nil)))))))) (nss_one (ns_ret ne_bool)) nss_nil)
    (nss_one (ns_ret (ne_cb (cr_all rfl) cn_all T.f_all bt_all (na_cons (no_e (ne_l (neo_lc (own := [("one", 1), ("other", 2)]) rfl sc_23.nd (ni_zip T.f_zip (na_cons (no_e (ne_f 0)) (na_cons (no_e (ne_sl (no_o 0) (np_some ne_int) np_none)) na_nil))) (blkOk_by rfl) (fun s_ H_ C_ cl_ fp_ => (ng_tup rfl (ngs_cons (ng_name 1 sc_23.nd rfl (by first | exact Or.inl rfl | exact Or.inr rfl)) (ngs_cons (ng_name 2 sc_23.nd rfl (by first | exact Or.inl rfl | exact Or.inr rfl)) ngs_nil)) (gCons_len (gCons_len gNil_len)))) (fun s_ H_ C_ cl_ fp_ => pts_nilN) (fun s_ H_ C_ cl_ fp_ => (ne_cmp (op_ltN hr.units) no_lt (no_e (ne_ix (no_o 1) (no_e ne_int))) (no_e (ne_ix (no_o 2) (no_e ne_int))) rfl))))) na_nil)))))
theorem sc_24 : FnScope ["value", "one"] ["value"] (defScope (top 24)) := ⟨rfl, rfl, rfl, by decide +kernel, rfl, by decide +kernel, by decide +kernel⟩
def B_24 : NStm :=
  sRet (nAnd (nIsi "tuple" (.o 0)) (nAnd (nOp2 oEq (.e (nCB bLen (aCons (.o 0) (aNil)))) (.e (nC (.int 7)))) (nCB bAll (aCons (.e (nL (nLc (iV (nF 0)) (gN 1) (tYesN) (nCall D_23 (aCons (.o 1) (aNil))) [1]))) (aNil)))))
def D_24 : NExp := runD 2 B_24
theorem n_24 {x : Str} (T : Tx K mg) (h : DefIn K mg x "are_hours" (top 24)) : NFn P w K mg base 5 x 1 D_24 := by
  obtain ⟨f, fd, F0, hm⟩ := h.ex
  exact NFn.of F0 hm sc_24 (FunD.bindsN (ps := ["value"]) F0 fun _ _ _ _ _ _ us hl => match us, hl with | [_], _ => rfl) rfl fun cdv A outer s H E hr => by exact (nss_one (ns_ret (ne_and (ne_isi kit_tuple (no_o 0) T.f_isinstance T.f_tuple bt_tuple) (ne_and (ne_cmp (op_eqN hr.units) no_eq (no_e (ne_len T.f_len (na_cons (no_o 0) na_nil))) (no_e (ne_g T.g_WEEK)) rfl) (ne_one (ne_cb (cr_all rfl) cn_all T.f_all bt_all (na_cons (no_e (ne_l (neo_lc (own := [("one", 1)]) rfl sc_24.nd (ni_v (ne_f 0)) (blkOk_by rfl) (fun s_ H_ C_ cl_ fp_ => (ng_name 1 sc_24.nd rfl (by first | exact Or.inl rfl | exact Or.inr rfl))) (fun s_ H_ C_ cl_ fp_ => pts_nilN) (fun s_ H_ C_ cl_ fp_ => (ne_call ((n_23 T T.d_is_day_row).mono (by omega)) hr takes0 (na_cons (no_o 1) na_nil) rfl rfl (aCons_len aNil_len)))))) na_nil)))))))
theorem sc_10 : FnScope ["values", "one", "other"] ["values"] (defScope (top 10)) := ⟨rfl, rfl, rfl, by decide +kernel, rfl, by decide +kernel, by decide +kernel⟩
def B_10 : NStm :=
  sRet (nCB bAll (aCons (.e (nL (nLc (iZp (aCons (.e (nF 0)) (aCons (.e (nSl (.o 0) (pSome (nC (.int 1))) (pNone))) (aNil)))) (gT (gCons' (gN 1) (gCons' (gN 2) (gNil')))) (tYesN) (nOp2 oLt (.o 1) (.o 2)) [1, 2]))) (aNil)))
def D_10 : NExp := runD 3 B_10
theorem n_10 {x : Str} (T : Tx K mg) (h : DefIn K mg x "are_ascending" (top 10)) : NFn P w K mg base 1 x 1 D_10 := by
  obtain ⟨f, fd, F0, hm⟩ := h.ex
  exact NFn.of F0 hm sc_10 (FunD.bindsN (ps := ["values"]) F0 fun _ _ _ _ _ _ us hl => match us, hl with | [_], _ => rfl) rfl fun cdv A outer s H E hr => by exact (nss_one (ns_ret (ne_cb (cr_all rfl) cn_all T.f_all bt_all (na_cons (no_e (ne_l (neo_lc (own := [("one", 1), ("other", 2)]) rfl sc_10.nd (ni_zip T.f_zip (na_cons (no_e (ne_f 0)) (na_cons (no_e (ne_sl (no_o 0) (np_some ne_int) np_none)) na_nil))) (blkOk_by rfl) (fun s_ H_ C_ cl_ fp_ => (ng_tup rfl (ngs_cons (ng_name 1 sc_10.nd rfl (by first | exact Or.inl rfl | exact Or.inr rfl)) (ngs_cons (ng_name 2 sc_10.nd rfl (by first | exact Or.inl rfl | exact Or.inr rfl)) ngs_nil)) (gCons_len (gCons_len gNil_len)))) (fun s_ H_ C_ cl_ fp_ => pts_nilN) (fun s_ H_ C_ cl_ fp_ => (ne_cmp (op_ltN hr.units) no_lt (no_o 1) (no_o 2) rfl))))) na_nil))))
theorem sc_25 : FnScope ["value", "one"] ["value"] (defScope (top 25)) := ⟨rfl, rfl, rfl, by decide +kernel, rfl, by decide +kernel, by decide +kernel⟩
def B_25 : NStm :=
  sSeq (sIf (tOr' (tNot' (asT (.e (nIsi "tuple" (.o 0))))) (asB (nOp2 oGt (.e (nCB bLen (aCons (.o 0) (aNil)))) (.e (nC (.int 100)))))) (sRet (nC (.bool false))) (sNil))
  (sRet (nAnd (nCB bAll (aCons (.e (nL (nLc (iV (nF 0)) (gN 1) (tYesN) (nCall D_9 (aCons (.o 1) (aCons (.e (nC (.int 0))) (aCons (.e (nC (.int 100000))) (aNil))))) [1]))) (aNil))) (nCall D_10 (aCons (.o 0) (aNil)))))
def D_25 : NExp := runD 2 B_25
theorem n_25 {x : Str} (T : Tx K mg) (h : DefIn K mg x "are_closed" (top 25)) : NFn P w K mg base 3 x 1 D_25 := by
  obtain ⟨f, fd, F0, hm⟩ := h.ex
  exact NFn.of F0 hm sc_25 (FunD.bindsN (ps := ["value"]) F0 fun _ _ _ _ _ _ us hl => match us, hl with | [_], _ => rfl) rfl fun cdv A outer s H E hr => by exact (nss_cons (ns_if (NW.t (nw_or (nt_not (nt_t (no_e (ne_isi kit_tuple (no_o 0) T.f_isinstance T.f_tuple bt_tuple)))) (nw_or1 (nt_cmp op_gtN no_gt (no_e (ne_len T.f_len (na_cons (no_o 0) na_nil))) (no_e (ne_g T.g_MOST_CLOSED)) rfl)))) (nss_one (ns_ret ne_bool)) nss_nil)
    (nss_one (ns_ret (ne_and (ne_cb (cr_all rfl) cn_all T.f_all bt_all (na_cons (no_e (ne_l (neo_lc (own := [("one", 1)]) rfl sc_25.nd (ni_v (ne_f 0)) (blkOk_by rfl) (fun s_ H_ C_ cl_ fp_ => (ng_name 1 sc_25.nd rfl (by first | exact Or.inl rfl | exact Or.inr rfl))) (fun s_ H_ C_ cl_ fp_ => pts_nilN) (fun s_ H_ C_ cl_ fp_ => (ne_call ((n_9 T T.d_is_within).mono (by omega)) hr takes0 (na_cons (no_o 1) (na_cons (no_e ne_int) (na_cons (no_e (ne_g T.g_LAST_DAY)) na_nil))) rfl rfl (aCons_len (aCons_len (aCons_len aNil_len)))))))) na_nil)) (ne_one (ne_call ((n_10 T T.d_are_ascending).mono (by omega)) hr (takes_of rfl rfl rfl rfl) (na_cons (no_o 0) na_nil) rfl rfl (aCons_len aNil_len)))))))
theorem sc_29 : FnScope ["value"] ["value"] (defScope (top 29)) := ⟨rfl, rfl, rfl, by decide +kernel, rfl, by decide +kernel, by decide +kernel⟩
def B_29 : NStm :=
  sRet (nAnd (nIsi "tuple" (.o 0)) (nAnd (nOp2 oEq (.e (nCB bLen (aCons (.o 0) (aNil)))) (.e (nC (.int 2)))) (nAnd (nCall D_24 (aCons (.e (nOp2 oIx (.o 0) (.e (nC (.int 0))))) (aNil))) (nCall D_25 (aCons (.e (nOp2 oIx (.o 0) (.e (nC (.int 1))))) (aNil))))))
def D_29 : NExp := runD 1 B_29
theorem n_29 {x : Str} (T : Tx K mg) (h : DefIn K mg x "is_post" (top 29)) : NFn P w K mg base 6 x 1 D_29 := by
  obtain ⟨f, fd, F0, hm⟩ := h.ex
  exact NFn.of F0 hm sc_29 (FunD.bindsN (ps := ["value"]) F0 fun _ _ _ _ _ _ us hl => match us, hl with | [_], _ => rfl) rfl fun cdv A outer s H E hr => by exact (nss_one (ns_ret (ne_and (ne_isi kit_tuple (no_o 0) T.f_isinstance T.f_tuple bt_tuple) (ne_and (ne_cmp (op_eqN hr.units) no_eq (no_e (ne_len T.f_len (na_cons (no_o 0) na_nil))) (no_e ne_int) rfl) (ne_and (ne_call ((n_24 T T.d_are_hours).mono (by omega)) hr (takes_of rfl rfl rfl rfl) (na_cons (no_e (ne_ix (no_o 0) (no_e ne_int))) na_nil) rfl rfl (aCons_len aNil_len)) (ne_one (ne_call ((n_25 T T.d_are_closed).mono (by omega)) hr (takes_of rfl rfl rfl rfl) (na_cons (no_e (ne_ix (no_o 0) (no_e ne_int))) na_nil) rfl rfl (aCons_len aNil_len))))))))
theorem sc_30 : FnScope ["value"] ["value"] (defScope (top 30)) := ⟨rfl, rfl, rfl, by decide +kernel, rfl, by decide +kernel, by decide +kernel⟩
def B_30 : NStm :=
  sSeq (sIf (tOr' (tNot' (asT (.e (nIsi "tuple" (.o 0))))) (asB (nOp2 oNe (.e (nCB bLen (aCons (.o 0) (aNil)))) (.e (nC (.int 2)))))) (sRet (nC (.bool false))) (sNil))
  (sRet (nAnd (nCall D_9 (aCons (.e (nOp2 oIx (.o 0) (.e (nC (.int 0))))) (aCons (.e (nC (.int 0))) (aCons (.e (nC (.int 5000))) (aNil))))) (nCall D_11 (aCons (.e (nOp2 oIx (.o 0) (.e (nC (.int 1))))) (aNil)))))
def D_30 : NExp := runD 1 B_30
theorem n_30 {x : Str} (T : Tx K mg) (h : DefIn K mg x "is_leg" (top 30)) : NFn P w K mg base 3 x 1 D_30 := by
  obtain ⟨f, fd, F0, hm⟩ := h.ex
  exact NFn.of F0 hm sc_30 (FunD.bindsN (ps := ["value"]) F0 fun _ _ _ _ _ _ us hl => match us, hl with | [_], _ => rfl) rfl fun cdv A outer s H E hr => by exact (nss_cons (ns_if (NW.t (nw_or (nt_not (nt_t (no_e (ne_isi kit_tuple (no_o 0) T.f_isinstance T.f_tuple bt_tuple)))) (nw_or1 (nt_cmp (op_neN hr.units) no_ne (no_e (ne_len T.f_len (na_cons (no_o 0) na_nil))) (no_e ne_int) rfl)))) (nss_one (ns_ret ne_bool)) nss_nil)
    (nss_one (ns_ret (ne_and (ne_call ((n_9 T T.d_is_within).mono (by omega)) hr (takes_of rfl rfl rfl rfl) (na_cons (no_e (ne_ix (no_o 0) (no_e ne_int))) (na_cons (no_e ne_int) (na_cons (no_e (ne_g T.g_LONGEST_LEG)) na_nil))) rfl rfl (aCons_len (aCons_len (aCons_len aNil_len)))) (ne_one (ne_call ((n_11 T T.d_is_name).mono (by omega)) hr (takes_of rfl rfl rfl rfl) (na_cons (no_e (ne_ix (no_o 0) (no_e ne_int))) na_nil) rfl rfl (aCons_len aNil_len)))))))
theorem sc_31 : FnScope ["posts", "minute", "legs", "name", "post", "one", "_"] ["posts", "minute", "legs"] (defScope (top 31)) := ⟨rfl, rfl, rfl, by decide +kernel, rfl, by decide +kernel, by decide +kernel⟩
def B_31 : NStm :=
  sSeq (sExpr (nCall D_12 (aCons (.e (nAnd (nIsi "dict" (.o 0)) (nCB bAll (aCons (.e (nL (nLc (iItm (nF 0)) (gT (gCons' (gN 3) (gCons' (gN 4) (gNil')))) (tYesN) (nAnd (nCall D_11 (aCons (.o 3) (aNil))) (nCall D_29 (aCons (.o 4) (aNil)))) [3, 4]))) (aNil))))) (aNil))))
  (sSeq (sExpr (nCall D_12 (aCons (.e (nCall D_26 (aCons (.o 1) (aNil)))) (aNil))))
  (sSeq (sExpr (nCall D_12 (aCons (.e (nAnd (nIsi "list" (.o 2)) (nAnd (nOp2 oLe (.e (nCB bLen (aCons (.o 2) (aNil)))) (.e (nC (.int 12)))) (nCB bAll (aCons (.e (nL (nLc (iV (nF 2)) (gN 5) (tYesN) (nCall D_30 (aCons (.o 5) (aNil))) [5]))) (aNil)))))) (aNil))))
  (sExpr (nCall D_13 (aCons (.e (nCB bAll (aCons (.e (nL (nLc (iV (nF 2)) (gT (gCons' (gN 6) (gCons' (gN 3) (gNil')))) (tYesN) (nOp2 oDin (.o 3) (.o 0)) [6, 3]))) (aNil)))) (aNil))))))
def D_31 : NExp := runD 7 B_31
theorem n_31 {x : Str} (T : Tx K mg) (h : DefIn K mg x "check_trip" (top 31)) : NFn P w K mg base 7 x 3 D_31 := by
  obtain ⟨f, fd, F0, hm⟩ := h.ex
  exact NFn.of F0 hm sc_31 (FunD.bindsN (ps := ["posts", "minute", "legs"]) F0 fun _ _ _ _ _ _ us hl => match us, hl with | [_, _, _], _ => rfl) rfl fun cdv A outer s H E hr => by exact (nss_cons (ns_expr (ne_call ((n_12 T T.d_check).mono (by omega)) hr (takes_of rfl rfl rfl rfl) (na_cons (no_e (ne_and (ne_isi kit_dict (no_o 0) T.f_isinstance T.f_dict bt_dict) (ne_one (ne_cb (cr_all rfl) cn_all T.f_all bt_all (na_cons (no_e (ne_l (neo_lc (own := [("name", 3), ("post", 4)]) rfl sc_31.nd (ni_items (ne_f 0)) (blkOk_by rfl) (fun s_ H_ C_ cl_ fp_ => (ng_tup rfl (ngs_cons (ng_name 3 sc_31.nd rfl (by first | exact Or.inl rfl | exact Or.inr rfl)) (ngs_cons (ng_name 4 sc_31.nd rfl (by first | exact Or.inl rfl | exact Or.inr rfl)) ngs_nil)) (gCons_len (gCons_len gNil_len)))) (fun s_ H_ C_ cl_ fp_ => pts_nilN) (fun s_ H_ C_ cl_ fp_ => (ne_and (ne_call ((n_11 T T.d_is_name).mono (by omega)) hr takes0 (na_cons (no_o 3) na_nil) rfl rfl (aCons_len aNil_len)) (ne_one (ne_call ((n_29 T T.d_is_post).mono (by omega)) hr takes0 (na_cons (no_o 4) na_nil) rfl rfl (aCons_len aNil_len)))))))) na_nil))))) na_nil) rfl rfl (aCons_len aNil_len)))
    (nss_cons (ns_expr (ne_call ((n_12 T T.d_check).mono (by omega)) hr (takes_of rfl rfl rfl rfl) (na_cons (no_e (ne_call ((n_26 T T.d_is_minute).mono (by omega)) hr (takes_of rfl rfl rfl rfl) (na_cons (no_o 1) na_nil) rfl rfl (aCons_len aNil_len))) na_nil) rfl rfl (aCons_len aNil_len)))
    (nss_cons (ns_expr (ne_call ((n_12 T T.d_check).mono (by omega)) hr (takes_of rfl rfl rfl rfl) (na_cons (no_e (ne_and (ne_isi kit_list (no_o 2) T.f_isinstance T.f_list bt_list) (ne_and (ne_cmp op_leN no_le (no_e (ne_len T.f_len (na_cons (no_o 2) na_nil))) (no_e (ne_g T.g_MOST_LEGS)) rfl) (ne_one (ne_cb (cr_all rfl) cn_all T.f_all bt_all (na_cons (no_e (ne_l (neo_lc (own := [("one", 5)]) rfl sc_31.nd (ni_v (ne_f 2)) (blkOk_by rfl) (fun s_ H_ C_ cl_ fp_ => (ng_name 5 sc_31.nd rfl (by first | exact Or.inl rfl | exact Or.inr rfl))) (fun s_ H_ C_ cl_ fp_ => pts_nilN) (fun s_ H_ C_ cl_ fp_ => (ne_call ((n_30 T T.d_is_leg).mono (by omega)) hr takes0 (na_cons (no_o 5) na_nil) rfl rfl (aCons_len aNil_len)))))) na_nil)))))) na_nil) rfl rfl (aCons_len aNil_len)))
    (nss_one (ns_expr (ne_call ((n_13 T T.d_check_there).mono (by omega)) hr (takes_of rfl rfl rfl rfl) (na_cons (no_e (ne_cb (cr_all rfl) cn_all T.f_all bt_all (na_cons (no_e (ne_l (neo_lc (own := [("_", 6), ("name", 3)]) rfl sc_31.nd (ni_v (ne_f 2)) (blkOk_by rfl) (fun s_ H_ C_ cl_ fp_ => (ng_tup rfl (ngs_cons (ng_name 6 sc_31.nd rfl (by first | exact Or.inl rfl | exact Or.inr rfl)) (ngs_cons (ng_name 3 sc_31.nd rfl (by first | exact Or.inl rfl | exact Or.inr rfl)) ngs_nil)) (gCons_len (gCons_len gNil_len)))) (fun s_ H_ C_ cl_ fp_ => pts_nilN) (fun s_ H_ C_ cl_ fp_ => (ne_din hr.units (no_o 3) (no_o 0)))))) na_nil))) na_nil) rfl rfl (aCons_len aNil_len)))))))
theorem sc_27 : FnScope ["hours", "closed", "day"] ["hours", "closed", "day"] (defScope (top 27)) := ⟨rfl, rfl, rfl, by decide +kernel, rfl, by decide +kernel, by decide +kernel⟩
def B_27 : NStm :=
  sRet (nIf (asB (nOp2 oIn (.o 2) (.o 1))) (nTup (aNil)) (nOp2 oIx (.o 0) (.e (nOp2 oMod (.o 2) (.e (nC (.int 7)))))))
def D_27 : NExp := runD 3 B_27
theorem n_27 {x : Str} (T : Tx K mg) (h : DefIn K mg x "pairs_on" (top 27)) : NFn P w K mg base 1 x 3 D_27 := by
  obtain ⟨f, fd, F0, hm⟩ := h.ex
  exact NFn.of F0 hm sc_27 (FunD.bindsN (ps := ["hours", "closed", "day"]) F0 fun _ _ _ _ _ _ us hl => match us, hl with | [_, _, _], _ => rfl) rfl fun cdv A outer s H E hr => by exact (nss_one (ns_ret (ne_if (nt_cmp (op_inN (u65 hr)) no_in (no_o 2) (no_o 1) rfl) (ne_tup na_nil) (ne_ix (no_o 0) (no_e (ne_op op_modN no_mod (no_o 2) (no_e (ne_g T.g_WEEK))))))))
theorem sc_28 : FnScope ["hours", "closed", "minute", "day", "begin", "shut", "first"] ["hours", "closed", "minute"] (defScope (top 28)) := ⟨rfl, rfl, rfl, by decide +kernel, rfl, by decide +kernel, by decide +kernel⟩
def B_28 : NStm :=
  sSeq (sIf (asB (nOp2 oGt (.o 2) (.e (nC (.int 10000000))))) (sRet (nC .none)) (sNil))
  (sSeq (sFor (iRg2 (aCons (.e (nOp2 oFdiv (.o 2) (.e (nC (.int 1440))))) (aCons (.e (nOp2 oAdd (.e (nOp2 oFdiv (.e (nC (.int 10000000))) (.e (nC (.int 1440))))) (.e (nC (.int 1))))) (aNil)))) (gN 3) (sFor (iV (nCall D_27 (aCons (.o 0) (aCons (.o 1) (aCons (.o 3) (aNil)))))) (gT (gCons' (gN 4) (gCons' (gN 5) (gNil')))) (sSeq (sAsg (nCB bMax (aCons (.o 2) (aCons (.e (nOp2 oAdd (.e (nOp2 oMul (.o 3) (.e (nC (.int 1440))))) (.o 4))) (aNil)))) (gN 6))
  (sIf (asB (nOp2 oLt (.o 6) (.e (nOp2 oAdd (.e (nOp2 oMul (.o 3) (.e (nC (.int 1440))))) (.o 5))))) (sRet (nIf (asB (nOp2 oLe (.o 6) (.e (nC (.int 10000000))))) (nV 6) (nC .none))) (sNil)))))
  (sRet (nC .none)))
def D_28 : NExp := runD 7 B_28
theorem n_28 {x : Str} (T : Tx K mg) (h : DefIn K mg x "next_by" (top 28)) : NFn P w K mg base 2 x 3 D_28 := by
  obtain ⟨f, fd, F0, hm⟩ := h.ex
  exact NFn.of F0 hm sc_28 (FunD.bindsN (ps := ["hours", "closed", "minute"]) F0 fun _ _ _ _ _ _ us hl => match us, hl with | [_, _, _], _ => rfl) rfl fun cdv A outer s H E hr => by exact (nss_cons (ns_if (nt_cmp op_gtN no_gt (no_o 2) (no_e (ne_g T.g_LAST_MINUTE)) rfl) (nss_one (ns_ret ne_none)) nss_nil)
    (nss_cons (ns_for (passes_of rfl) rfl (ni_rg2 T.f_range (na_cons (no_e (ne_op op_fdivNN no_fdiv (no_o 2) (no_e (ne_g T.g_DAY)))) (na_cons (no_e (ne_op op_addN no_add (no_e (ne_op op_fdivNN no_fdiv (no_e (ne_g T.g_LAST_MINUTE)) (no_e (ne_g T.g_DAY)))) (no_e ne_int))) na_nil))) (ng_name 3 sc_28.nd rfl (by first | exact Or.inl rfl | exact Or.inr rfl)) (nss_one (ns_for (passes_of rfl) rfl (ni_v (ne_call ((n_27 T T.d_pairs_on).mono (by omega)) hr (takes_of rfl rfl rfl rfl) (na_cons (no_o 0) (na_cons (no_o 1) (na_cons (no_o 3) na_nil))) rfl rfl (aCons_len (aCons_len (aCons_len aNil_len))))) (ng_tup rfl (ngs_cons (ng_name 4 sc_28.nd rfl (by first | exact Or.inl rfl | exact Or.inr rfl)) (ngs_cons (ng_name 5 sc_28.nd rfl (by first | exact Or.inl rfl | exact Or.inr rfl)) ngs_nil)) (gCons_len (gCons_len gNil_len))) (nss_cons (ns_asg (ne_cb (cr_maxN rfl) cn_max T.f_max bt_max (na_cons (no_o 2) (na_cons (no_e (ne_op op_addN no_add (no_e (ne_op op_mulN no_mul (no_o 3) (no_e (ne_g T.g_DAY)))) (no_o 4))) na_nil))) (ng_name 6 sc_28.nd rfl (by first | exact Or.inl rfl | exact Or.inr rfl)))
    (nss_one (ns_if (nt_cmp (op_ltN hr.units) no_lt (no_o 6) (no_e (ne_op op_addN no_add (no_e (ne_op op_mulN no_mul (no_o 3) (no_e (ne_g T.g_DAY)))) (no_o 5))) rfl) (nss_one (ns_ret (ne_if (nt_cmp op_leN no_le (no_o 6) (no_e (ne_g T.g_LAST_MINUTE)) rfl) (ne_v 6) ne_none))) nss_nil))))))
    (nss_one (ns_ret ne_none))))
theorem sc_32 : FnScope ["posts", "start", "legs", "found", "now", "minutes", "name", "hours", "closed"] ["posts", "start", "legs"] (defScope (top 32)) := ⟨rfl, rfl, rfl, by decide +kernel, rfl, by decide +kernel, by decide +kernel⟩
def B_32 : NStm :=
  sSeq (sPar 3 4 (evO (nLstO (aNil))) (evV (nF 1)))
  (sSeq (sFor (iV (nF 2)) (gT (gCons' (gN 5) (gCons' (gN 6) (gNil')))) (sSeq (sAsg (nOp2 oDix (.o 0) (.o 6)) (gT (gCons' (gN 7) (gCons' (gN 8) (gNil')))))
  (sSeq (sAsg (nCall D_28 (aCons (.o 7) (aCons (.o 8) (aCons (.e (nOp2 oAdd (.o 4) (.o 5))) (aNil))))) (gN 4))
  (sSeq (sIf (asB (nOp2 oIs (.o 4) (.e (nC .none)))) (sRet (nC .none)) (sNil))
  (sExpr (nAppend 3 (nV 4)))))))
  (sRet (nF 3)))
def D_32 : NExp := runD 9 B_32
theorem n_32 {x : Str} (T : Tx K mg) (h : DefIn K mg x "passed_by" (top 32)) : NFn P w K mg base 3 x 3 D_32 := by
  obtain ⟨f, fd, F0, hm⟩ := h.ex
  exact NFn.of F0 hm sc_32 (FunD.bindsN (ps := ["posts", "start", "legs"]) F0 fun _ _ _ _ _ _ us hl => match us, hl with | [_, _, _], _ => rfl) rfl fun cdv A outer s H E hr => by exact (nss_cons (ns_par 3 4 rfl sc_32.nd rfl rfl (by decide) rfl rfl (nv_o (neo_lst na_nil)) (nv_v (ne_f 1)))
    (nss_cons (ns_for (passes_of rfl) rfl (ni_v (ne_f 2)) (ng_tup rfl (ngs_cons (ng_name 5 sc_32.nd rfl (by first | exact Or.inl rfl | exact Or.inr rfl)) (ngs_cons (ng_name 6 sc_32.nd rfl (by first | exact Or.inl rfl | exact Or.inr rfl)) ngs_nil)) (gCons_len (gCons_len gNil_len))) (nss_cons (ns_asg (ne_dix hr.units (no_o 0) (no_o 6)) (ng_tup rfl (ngs_cons (ng_name 7 sc_32.nd rfl (by first | exact Or.inl rfl | exact Or.inr rfl)) (ngs_cons (ng_name 8 sc_32.nd rfl (by first | exact Or.inl rfl | exact Or.inr rfl)) ngs_nil)) (gCons_len (gCons_len gNil_len))))
    (nss_cons (ns_asg (ne_call ((n_28 T T.d_next_by).mono (by omega)) hr (takes_of rfl rfl rfl rfl) (na_cons (no_o 7) (na_cons (no_o 8) (na_cons (no_e (ne_op op_addN no_add (no_o 4) (no_o 5))) na_nil))) rfl rfl (aCons_len (aCons_len (aCons_len aNil_len)))) (ng_name 4 sc_32.nd rfl (by first | exact Or.inl rfl | exact Or.inr rfl)))
    (nss_cons (ns_if (nt_cmp op_isNN no_is (no_o 4) (no_e ne_none) rfl) (nss_one (ns_ret ne_none)) nss_nil)
    (nss_one (ns_expr (ne_append 3 (ne_v 4))))))))
    (nss_one (ns_ret (ne_f 3)))))
theorem sc_33 : FnScope ["posts", "start", "legs"] ["posts", "start", "legs"] (defScope (top 33)) := ⟨rfl, rfl, rfl, by decide +kernel, rfl, by decide +kernel, by decide +kernel⟩
def B_33 : NStm :=
  sSeq (sExpr (nCall D_31 (aCons (.o 0) (aCons (.o 1) (aCons (.o 2) (aNil))))))
  (sRet (nCall D_32 (aCons (.o 0) (aCons (.o 1) (aCons (.o 2) (aNil))))))
def D_33 : NExp := runD 3 B_33
theorem n_33 {x : Str} (T : Tx K mg) (h : DefIn K mg x "passed_at" (top 33)) : NFn P w K mg base 8 x 3 D_33 := by
  obtain ⟨f, fd, F0, hm⟩ := h.ex
  exact NFn.of F0 hm sc_33 (FunD.bindsN (ps := ["posts", "start", "legs"]) F0 fun _ _ _ _ _ _ us hl => match us, hl with | [_, _, _], _ => rfl) rfl fun cdv A outer s H E hr => by exact (nss_cons (ns_expr (ne_call ((n_31 T T.d_check_trip).mono (by omega)) hr (takes_of rfl rfl rfl rfl) (na_cons (no_o 0) (na_cons (no_o 1) (na_cons (no_o 2) na_nil))) rfl rfl (aCons_len (aCons_len (aCons_len aNil_len)))))
    (nss_one (ns_ret (ne_call ((n_32 T T.d_passed_by).mono (by omega)) hr (takes_of rfl rfl rfl rfl) (na_cons (no_o 0) (na_cons (no_o 1) (na_cons (no_o 2) na_nil))) rfl rfl (aCons_len (aCons_len (aCons_len aNil_len)))))))
theorem sc_34 : FnScope ["posts", "start", "legs", "found"] ["posts", "start", "legs"] (defScope (top 34)) := ⟨rfl, rfl, rfl, by decide +kernel, rfl, by decide +kernel, by decide +kernel⟩
def B_34 : NStm :=
  sSeq (sAsg (nCall D_32 (aCons (.o 0) (aCons (.o 1) (aCons (.o 2) (aNil))))) (gN 3))
  (sRet (nIf (asB (nOp2 oIs (.o 3) (.e (nC .none)))) (nC .none) (nOp2 oIx (.e (nL (nLstO (aCons (.e (nF 1)) (aStar (.o 3) (aNil)))))) (.e (nNeg (nC (.int 1)))))))
def D_34 : NExp := runD 4 B_34
theorem n_34 {x : Str} (T : Tx K mg) (h : DefIn K mg x "arrival_by" (top 34)) : NFn P w K mg base 4 x 3 D_34 := by
  obtain ⟨f, fd, F0, hm⟩ := h.ex
  exact NFn.of F0 hm sc_34 (FunD.bindsN (ps := ["posts", "start", "legs"]) F0 fun _ _ _ _ _ _ us hl => match us, hl with | [_, _, _], _ => rfl) rfl fun cdv A outer s H E hr => by exact (nss_cons (ns_asg (ne_call ((n_32 T T.d_passed_by).mono (by omega)) hr (takes_of rfl rfl rfl rfl) (na_cons (no_o 0) (na_cons (no_o 1) (na_cons (no_o 2) na_nil))) rfl rfl (aCons_len (aCons_len (aCons_len aNil_len)))) (ng_name 3 sc_34.nd rfl (by first | exact Or.inl rfl | exact Or.inr rfl)))
    (nss_one (ns_ret (ne_if (nt_cmp op_isNN no_is (no_o 3) (no_e ne_none) rfl) ne_none (ne_ix (no_e (ne_l (neo_lst (na_cons (no_e (ne_f 1)) (na_star (no_o 3) na_nil))))) (no_e (ne_neg ne_int)))))))
theorem sc_35 : FnScope ["posts", "start", "legs"] ["posts", "start", "legs"] (defScope (top 35)) := ⟨rfl, rfl, rfl, by decide +kernel, rfl, by decide +kernel, by decide +kernel⟩
def B_35 : NStm :=
  sSeq (sExpr (nCall D_31 (aCons (.o 0) (aCons (.o 1) (aCons (.o 2) (aNil))))))
  (sRet (nCall D_34 (aCons (.o 0) (aCons (.o 1) (aCons (.o 2) (aNil))))))
def D_35 : NExp := runD 3 B_35
theorem n_35 {x : Str} (T : Tx K mg) (h : DefIn K mg x "arrival" (top 35)) : NFn P w K mg base 8 x 3 D_35 := by
  obtain ⟨f, fd, F0, hm⟩ := h.ex
  exact NFn.of F0 hm sc_35 (FunD.bindsN (ps := ["posts", "start", "legs"]) F0 fun _ _ _ _ _ _ us hl => match us, hl with | [_, _, _], _ => rfl) rfl fun cdv A outer s H E hr => by exact (nss_cons (ns_expr (ne_call ((n_31 T T.d_check_trip).mono (by omega)) hr (takes_of rfl rfl rfl rfl) (na_cons (no_o 0) (na_cons (no_o 1) (na_cons (no_o 2) na_nil))) rfl rfl (aCons_len (aCons_len (aCons_len aNil_len)))))
    (nss_one (ns_ret (ne_call ((n_34 T T.d_arrival_by).mono (by omega)) hr (takes_of rfl rfl rfl rfl) (na_cons (no_o 0) (na_cons (no_o 1) (na_cons (no_o 2) na_nil))) rfl rfl (aCons_len (aCons_len (aCons_len aNil_len)))))))
theorem sc_36 : FnScope ["posts", "start", "legs", "by", "found"] ["posts", "start", "legs", "by"] (defScope (top 36)) := ⟨rfl, rfl, rfl, by decide +kernel, rfl, by decide +kernel, by decide +kernel⟩
def B_36 : NStm :=
  sSeq (sAsg (nCall D_34 (aCons (.o 0) (aCons (.o 1) (aCons (.o 2) (aNil))))) (gN 4))
  (sRet (nAnd (nOp2 oIsNot (.o 4) (.e (nC .none))) (nOp2 oLe (.o 4) (.o 3))))
def D_36 : NExp := runD 5 B_36
theorem n_36 {x : Str} (T : Tx K mg) (h : DefIn K mg x "is_in_time" (top 36)) : NFn P w K mg base 5 x 4 D_36 := by
  obtain ⟨f, fd, F0, hm⟩ := h.ex
  exact NFn.of F0 hm sc_36 (FunD.bindsN (ps := ["posts", "start", "legs", "by"]) F0 fun _ _ _ _ _ _ us hl => match us, hl with | [_, _, _, _], _ => rfl) rfl fun cdv A outer s H E hr => by exact (nss_cons (ns_asg (ne_call ((n_34 T T.d_arrival_by).mono (by omega)) hr (takes_of rfl rfl rfl rfl) (na_cons (no_o 0) (na_cons (no_o 1) (na_cons (no_o 2) na_nil))) rfl rfl (aCons_len (aCons_len (aCons_len aNil_len)))) (ng_name 4 sc_36.nd rfl (by first | exact Or.inl rfl | exact Or.inr rfl)))
    (nss_one (ns_ret (ne_and (ne_cmp op_notNN no_isnot (no_o 4) (no_e ne_none) rfl) (ne_one (ne_cmp op_leN no_le (no_o 4) (no_o 3) rfl))))))
theorem sc_37 : FnScope ["posts", "legs", "by", "low", "high", "middle"] ["posts", "legs", "by"] (defScope (top 37)) := ⟨rfl, rfl, rfl, by decide +kernel, rfl, by decide +kernel, by decide +kernel⟩
def B_37 : NStm :=
  sSeq (sExpr (nCall D_31 (aCons (.o 0) (aCons (.o 2) (aCons (.o 1) (aNil))))))
  (sSeq (sIf (tNot' (asT (.e (nCall D_36 (aCons (.o 0) (aCons (.e (nC (.int 0))) (aCons (.o 1) (aCons (.o 2) (aNil))))))))) (sRet (nC .none)) (sNil))
  (sSeq (sPar 3 4 (evV (nC (.int 0))) (evV (nF 2)))
  (sSeq (sWhile 400 (asB (nOp2 oLt (.o 3) (.o 4))) (sSeq (sAsg (nOp2 oFdiv (.e (nOp2 oAdd (.e (nOp2 oAdd (.o 3) (.o 4))) (.e (nC (.int 1))))) (.e (nC (.int 2)))) (gN 5))
  (sIf (asT (.e (nCall D_36 (aCons (.o 0) (aCons (.o 5) (aCons (.o 1) (aCons (.o 2) (aNil)))))))) (sAsg (nV 5) (gN 3)) (sAsg (nOp2 oSub (.o 5) (.e (nC (.int 1)))) (gN 4)))))
  (sRet (nV 3)))))
def D_37 : NExp := runD 6 B_37
theorem n_37 {x : Str} (T : Tx K mg) (h : DefIn K mg x "latest_start" (top 37)) : NFn P w K mg base 8 x 3 D_37 := by
  obtain ⟨f, fd, F0, hm⟩ := h.ex
  exact NFn.of F0 hm sc_37 (FunD.bindsN (ps := ["posts", "legs", "by"]) F0 fun _ _ _ _ _ _ us hl => match us, hl with | [_, _, _], _ => rfl) rfl fun cdv A outer s H E hr => by exact (nss_cons (ns_expr (ne_call ((n_31 T T.d_check_trip).mono (by omega)) hr (takes_of rfl rfl rfl rfl) (na_cons (no_o 0) (na_cons (no_o 2) (na_cons (no_o 1) na_nil))) rfl rfl (aCons_len (aCons_len (aCons_len aNil_len)))))
    (nss_cons (ns_if (nt_not (nt_t (no_e (ne_call ((n_36 T T.d_is_in_time).mono (by omega)) hr (takes_of rfl rfl rfl rfl) (na_cons (no_o 0) (na_cons (no_e ne_int) (na_cons (no_o 1) (na_cons (no_o 2) na_nil)))) rfl rfl (aCons_len (aCons_len (aCons_len (aCons_len aNil_len)))))))) (nss_one (ns_ret ne_none)) nss_nil)
    (nss_cons (ns_par 3 4 rfl sc_37.nd rfl rfl (by decide) rfl rfl (nv_v ne_int) (nv_v (ne_f 2)))
    (nss_cons (ns_while 400 (passes_of rfl) (nt_cmp (op_ltN hr.units) no_lt (no_o 3) (no_o 4) rfl) (nss_cons (ns_asg (ne_op op_fdivNN no_fdiv (no_e (ne_op op_addN no_add (no_e (ne_op op_addN no_add (no_o 3) (no_o 4))) (no_e ne_int))) (no_e ne_int)) (ng_name 5 sc_37.nd rfl (by first | exact Or.inl rfl | exact Or.inr rfl)))
    (nss_one (ns_if (nt_t (no_e (ne_call ((n_36 T T.d_is_in_time).mono (by omega)) hr (takes_of rfl rfl rfl rfl) (na_cons (no_o 0) (na_cons (no_o 5) (na_cons (no_o 1) (na_cons (no_o 2) na_nil)))) rfl rfl (aCons_len (aCons_len (aCons_len (aCons_len aNil_len))))))) (nss_one (ns_asg (ne_v 5) (ng_name 3 sc_37.nd rfl (by first | exact Or.inl rfl | exact Or.inr rfl)))) (nss_one (ns_asg (ne_op op_sub no_sub (no_o 5) (no_e ne_int)) (ng_name 4 sc_37.nd rfl (by first | exact Or.inl rfl | exact Or.inr rfl))))))))
    (nss_one (ns_ret (ne_v 3)))))))
theorem sc_38 : FnScope ["posts", "start", "legs", "found", "minutes", "_"] ["posts", "start", "legs"] (defScope (top 38)) := ⟨rfl, rfl, rfl, by decide +kernel, rfl, by decide +kernel, by decide +kernel⟩
def B_38 : NStm :=
  sSeq (sExpr (nCall D_31 (aCons (.o 0) (aCons (.o 1) (aCons (.o 2) (aNil))))))
  (sSeq (sAsg (nCall D_34 (aCons (.o 0) (aCons (.o 1) (aCons (.o 2) (aNil))))) (gN 3))
  (sRet (nIf (asB (nOp2 oIs (.o 3) (.e (nC .none)))) (nC .none) (nOp2 oSub (.e (nOp2 oSub (.o 3) (.o 1))) (.e (nCB bSum (aCons (.e (nL (nLc (iV (nF 2)) (gT (gCons' (gN 4) (gCons' (gN 5) (gNil')))) (tYesN) (nV 4) [4, 5]))) (aNil))))))))
def D_38 : NExp := runD 6 B_38
theorem n_38 {x : Str} (T : Tx K mg) (h : DefIn K mg x "waiting_in" (top 38)) : NFn P w K mg base 8 x 3 D_38 := by
  obtain ⟨f, fd, F0, hm⟩ := h.ex
  exact NFn.of F0 hm sc_38 (FunD.bindsN (ps := ["posts", "start", "legs"]) F0 fun _ _ _ _ _ _ us hl => match us, hl with | [_, _, _], _ => rfl) rfl fun cdv A outer s H E hr => by exact (nss_cons (ns_expr (ne_call ((n_31 T T.d_check_trip).mono (by omega)) hr (takes_of rfl rfl rfl rfl) (na_cons (no_o 0) (na_cons (no_o 1) (na_cons (no_o 2) na_nil))) rfl rfl (aCons_len (aCons_len (aCons_len aNil_len)))))
    (nss_cons (ns_asg (ne_call ((n_34 T T.d_arrival_by).mono (by omega)) hr (takes_of rfl rfl rfl rfl) (na_cons (no_o 0) (na_cons (no_o 1) (na_cons (no_o 2) na_nil))) rfl rfl (aCons_len (aCons_len (aCons_len aNil_len)))) (ng_name 3 sc_38.nd rfl (by first | exact Or.inl rfl | exact Or.inr rfl)))
    (nss_one (ns_ret (ne_if (nt_cmp op_isNN no_is (no_o 3) (no_e ne_none) rfl) ne_none (ne_op op_sub no_sub (no_e (ne_op op_sub no_sub (no_o 3) (no_o 1))) (no_e (ne_cb (cr_sum rfl) cn_sum T.f_sum bt_sum (na_cons (no_e (ne_l (neo_lc (own := [("minutes", 4), ("_", 5)]) rfl sc_38.nd (ni_v (ne_f 2)) (blkOk_by rfl) (fun s_ H_ C_ cl_ fp_ => (ng_tup rfl (ngs_cons (ng_name 4 sc_38.nd rfl (by first | exact Or.inl rfl | exact Or.inr rfl)) (ngs_cons (ng_name 5 sc_38.nd rfl (by first | exact Or.inl rfl | exact Or.inr rfl)) ngs_nil)) (gCons_len (gCons_len gNil_len)))) (fun s_ H_ C_ cl_ fp_ => pts_nilN) (fun s_ H_ C_ cl_ fp_ => (ne_v 4))))) na_nil)))))))))
theorem sc_40 : FnScope ["script", "draws", "seed", "cell", "number", "k"] ["script"] (defScope (top 40)) := ⟨rfl, rfl, rfl, by decide +kernel, rfl, by decide +kernel, by decide +kernel⟩
def B_40 : NSt → R (List PyData) :=
  sSeqO (sOwn 1 (nLstO (aNil)))
  (sSeqO (sAsg (nC (.int 11)) (gN 2))
  (sSeqO (sFor (iScr 0) (gN 3) (sSeq (sAsg (nCB bAbs (aCons (.e (nCB bInt (aCons (.o 3) (aNil)))) (aNil))) (gN 4))
  (sSeq (sAsg (nOp2 oMod (.e (nCB bInt (aCons (.e (nOp2 oAdd (.e (nOp2 oAdd (.e (nOp2 oMul (.o 2) (.e (nC (.int 48271))))) (.o 4))) (.e (nC (.int 1))))) (aNil)))) (.e (nC (.int 2147483647)))) (gN 2))
  (sSeq (sIf (asB (nOp2 oLt (.o 4) (.e (nOp2 oPow (.e (nC (.int 10))) (.e (nC (.int 18))))))) (sSeq (sExpr (nAppend 1 (nOp2 oMod (.e (nCB bInt (aCons (.o 4) (aNil)))) (.e (nC (.int 997))))))
  (sSeq (sExpr (nAppend 1 (nOp2 oMod (.e (nCB bInt (aCons (.o 2) (aNil)))) (.e (nC (.int 65521))))))
  (sAsg (nC (.int 0)) (gN 4)))) (sNil))
  (sFor (iRg1 (aCons (.e (nC (.int 60))) (aNil))) (gN 5) (sIf (asB (nOp2 oGt (.o 4) (.e (nC (.int 0))))) (sSeq (sExpr (nAppend 1 (nOp2 oMod (.e (nCB bInt (aCons (.o 4) (aNil)))) (.e (nC (.int 997))))))
  (sAsg (nOp2 oFdiv (.o 4) (.e (nC (.int 997)))) (gN 4))) (sNil)))))))
  (sSeqO (sFor (iRg1 (aCons (.e (nC (.int 1400))) (aNil))) (gN 5) (sSeq (sAsg (nOp2 oMod (.e (nCB bInt (aCons (.e (nOp2 oAdd (.e (nOp2 oMul (.o 2) (.e (nC (.int 48271))))) (.e (nC (.int 69621))))) (aNil)))) (.e (nC (.int 2147483647)))) (gN 2))
  (sExpr (nAppend 1 (nOp2 oFdiv (.o 2) (.e (nC (.int 5))))))))
  (nLstRev (.o 1)))))
def D_40 : NSt → R (List PyData) := runDO 6 B_40
theorem n_40 {x : Str} (T : Tx K mg) (h : DefIn K mg x "_law_draws" (top 40)) : NFnO P w K mg base 1 x 1 D_40 := by
  obtain ⟨f, fd, F0, hm⟩ := h.ex
  exact NFnO.of F0 hm sc_40 (FunD.bindsN (ps := ["script"]) F0 fun _ _ _ _ _ _ us hl => match us, hl with | [_], _ => rfl) rfl fun cdv A outer s H E hr => by exact (nso_cons (ns_own 1 sc_40.nd rfl (by first | exact Or.inl rfl | exact Or.inr rfl) (neo_lst na_nil))
    (nso_cons (ns_asg ne_int (ng_name 2 sc_40.nd rfl (by first | exact Or.inl rfl | exact Or.inr rfl)))
    (nso_cons (ns_for (passes_of rfl) rfl (ni_scr 0) (ng_name 3 sc_40.nd rfl (by first | exact Or.inl rfl | exact Or.inr rfl)) (nss_cons (ns_asg (ne_cb call_abs cn_abs T.f_abs bt_abs (na_cons (no_e (ne_cty call_int1 cn_int T.f_int bt_int (na_cons (no_o 3) na_nil))) na_nil)) (ng_name 4 sc_40.nd rfl (by first | exact Or.inl rfl | exact Or.inr rfl)))
    (nss_cons (ns_asg (ne_op op_modN no_mod (no_e (ne_cty call_int1 cn_int T.f_int bt_int (na_cons (no_e (ne_op op_addN no_add (no_e (ne_op op_addN no_add (no_e (ne_op op_mulN no_mul (no_o 2) (no_e ne_int))) (no_o 4))) (no_e ne_int))) na_nil))) (no_e ne_int)) (ng_name 2 sc_40.nd rfl (by first | exact Or.inl rfl | exact Or.inr rfl)))
    (nss_cons (ns_if (nt_cmp (op_ltN hr.units) no_lt (no_o 4) (no_e (ne_op op_pow no_pow (no_e ne_int) (no_e ne_int))) rfl) (nss_cons (ns_expr (ne_append 1 (ne_op op_modN no_mod (no_e (ne_cty call_int1 cn_int T.f_int bt_int (na_cons (no_o 4) na_nil))) (no_e ne_int))))
    (nss_cons (ns_expr (ne_append 1 (ne_op op_modN no_mod (no_e (ne_cty call_int1 cn_int T.f_int bt_int (na_cons (no_o 2) na_nil))) (no_e ne_int))))
    (nss_one (ns_asg ne_int (ng_name 4 sc_40.nd rfl (by first | exact Or.inl rfl | exact Or.inr rfl)))))) nss_nil)
    (nss_one (ns_for (passes_of rfl) rfl (ni_rg1 T.f_range (na_cons (no_e ne_int) na_nil)) (ng_name 5 sc_40.nd rfl (by first | exact Or.inl rfl | exact Or.inr rfl)) (nss_one (ns_if (nt_cmp op_gtN no_gt (no_o 4) (no_e ne_int) rfl) (nss_cons (ns_expr (ne_append 1 (ne_op op_modN no_mod (no_e (ne_cty call_int1 cn_int T.f_int bt_int (na_cons (no_o 4) na_nil))) (no_e ne_int))))
    (nss_one (ns_asg (ne_op op_fdivNN no_fdiv (no_o 4) (no_e ne_int)) (ng_name 4 sc_40.nd rfl (by first | exact Or.inl rfl | exact Or.inr rfl))))) nss_nil))))))))
    (nso_cons (ns_for (passes_of rfl) rfl (ni_rg1 T.f_range (na_cons (no_e ne_int) na_nil)) (ng_name 5 sc_40.nd rfl (by first | exact Or.inl rfl | exact Or.inr rfl)) (nss_cons (ns_asg (ne_op op_modN no_mod (no_e (ne_cty call_int1 cn_int T.f_int bt_int (na_cons (no_e (ne_op op_addN no_add (no_e (ne_op op_mulN no_mul (no_o 2) (no_e ne_int))) (no_e ne_int))) na_nil))) (no_e ne_int)) (ng_name 2 sc_40.nd rfl (by first | exact Or.inl rfl | exact Or.inr rfl)))
    (nss_one (ns_expr (ne_append 1 (ne_op op_fdivNN no_fdiv (no_o 2) (no_e ne_int)))))))
    (nso_ret (neo_listRev rfl T.f_list T.f_reversed (no_o 1)))))))
theorem sc_41 : FnScope ["draws", "bound"] ["draws", "bound"] (defScope (top 41)) := ⟨rfl, rfl, rfl, by decide +kernel, rfl, by decide +kernel, by decide +kernel⟩
def B_41 : NStm :=
  sSeq (sIf (asB (nOp2 oEq (.e (nCB bLen (aCons (.o 0) (aNil)))) (.e (nC (.int 0))))) (sRet (nC (.int 0))) (sNil))
  (sRet (nOp2 oMod (.e (nCB bInt (aCons (.e (nPop 0)) (aNil)))) (.o 1)))
def D_41 : NExp := runD 2 B_41
theorem n_41 {x : Str} (T : Tx K mg) (h : DefIn K mg x "_law_take" (top 41)) : NFn P w K mg base 1 x 2 D_41 := by
  obtain ⟨f, fd, F0, hm⟩ := h.ex
  exact NFn.of F0 hm sc_41 (FunD.bindsN (ps := ["draws", "bound"]) F0 fun _ _ _ _ _ _ us hl => match us, hl with | [_, _], _ => rfl) rfl fun cdv A outer s H E hr => by exact (nss_cons (ns_if (nt_cmp (op_eqN hr.units) no_eq (no_e (ne_len T.f_len (na_cons (no_o 0) na_nil))) (no_e ne_int) rfl) (nss_one (ns_ret ne_int)) nss_nil)
    (nss_one (ns_ret (ne_op op_modN no_mod (no_e (ne_cty call_int1 cn_int T.f_int bt_int (na_cons (no_e (ne_pop 0)) na_nil))) (no_o 1)))))
theorem sc_42 : FnScope ["draws", "some"] ["draws", "some"] (defScope (top 42)) := ⟨rfl, rfl, rfl, by decide +kernel, rfl, by decide +kernel, by decide +kernel⟩
def B_42 : NStm :=
  sRet (nOp2 oIx (.o 1) (.e (nCall D_41 (aCons (.o 0) (aCons (.e (nCB bLen (aCons (.o 1) (aNil)))) (aNil))))))
def D_42 : NExp := runD 2 B_42
theorem n_42 {x : Str} (T : Tx K mg) (h : DefIn K mg x "_law_pick" (top 42)) : NFn P w K mg base 2 x 2 D_42 := by
  obtain ⟨f, fd, F0, hm⟩ := h.ex
  exact NFn.of F0 hm sc_42 (FunD.bindsN (ps := ["draws", "some"]) F0 fun _ _ _ _ _ _ us hl => match us, hl with | [_, _], _ => rfl) rfl fun cdv A outer s H E hr => by exact (nss_one (ns_ret (ne_ix (no_o 1) (no_e (ne_call ((n_41 T T.d__law_take).mono (by omega)) hr (takes_of rfl rfl rfl rfl) (na_cons (no_o 0) (na_cons (no_e (ne_len T.f_len (na_cons (no_o 1) na_nil))) na_nil)) rfl rfl (aCons_len (aCons_len aNil_len)))))))
theorem sc_43 : FnScope ["actual", "due", "k", "key"] ["actual", "due"] (defScope (top 43)) := ⟨rfl, rfl, rfl, by decide +kernel, rfl, by decide +kernel, by decide +kernel⟩
def B_43 (D : NExp) : NStm :=
  sSeq (sIf (asB (nOp2 oIs (.o 1) (.e (nC .none)))) (sRet (nOp2 oIs (.o 0) (.e (nC .none)))) (sNil))
  (sSeq (sIf (tOr' (asT (.e (nIsi "tuple" (.o 1)))) (asT (.e (nIsi "list" (.o 1))))) (sSeq (sIf (tOr' (asB (nOp2 oNe (.e (nIsi "tuple" (.o 1))) (.e (nIsi "tuple" (.o 0))))) (asB (nOp2 oNe (.e (nIsi "list" (.o 1))) (.e (nIsi "list" (.o 0)))))) (sRet (nC (.bool false))) (sNil))
  (sSeq (sIf (asB (nOp2 oNe (.e (nCB bLen (aCons (.o 0) (aNil)))) (.e (nCB bLen (aCons (.o 1) (aNil)))))) (sRet (nC (.bool false))) (sNil))
  (sSeq (sFor (iRg1 (aCons (.e (nCB bLen (aCons (.o 1) (aNil)))) (aNil))) (gN 2) (sIf (tNot' (asT (.e (nCall D (aCons (.e (nOp2 oIx (.o 0) (.o 2))) (aCons (.e (nOp2 oIx (.o 1) (.o 2))) (aNil))))))) (sRet (nC (.bool false))) (sNil)))
  (sRet (nC (.bool true)))))) (sNil))
  (sSeq (sIf (asT (.e (nIsi "dict" (.o 1)))) (sSeq (sIf (tOr' (tNot' (asT (.e (nIsi "dict" (.o 0))))) (asB (nOp2 oNe (.e (nCB bLen (aCons (.o 0) (aNil)))) (.e (nCB bLen (aCons (.o 1) (aNil))))))) (sRet (nC (.bool false))) (sNil))
  (sRet (nOp2 oEq (.e (nL (nLc (iV (nF 1)) (gN 3) (tOr' (asB (nOp2 oNotIn (.o 3) (.o 0))) (tNot' (asT (.e (nCall D (aCons (.e (nOp2 oIx (.o 0) (.o 3))) (aCons (.e (nOp2 oIx (.o 1) (.o 3))) (aNil)))))))) (nV 3) [3]))) (.e (nL (nLstO (aNil))))))) (sNil))
  (sSeq (sIf (asB (nOp2 oNe (.e (nIsi "bool" (.o 1))) (.e (nIsi "bool" (.o 0))))) (sRet (nC (.bool false))) (sNil))
  (sSeq (sIf (tOr' (asB (nOp2 oNe (.e (nIsi "int" (.o 1))) (.e (nIsi "int" (.o 0))))) (asB (nOp2 oNe (.e (nIsi "str" (.o 1))) (.e (nIsi "str" (.o 0)))))) (sRet (nC (.bool false))) (sNil))
  (sRet (nOp2 oEq (.o 0) (.o 1)))))))
def D_43 : Nat → NExp
  | 0 => fun _ => .bad
  | k + 1 => runD 4 (B_43 (D_43 k))
theorem n_43 (T : Tx K mg) (h : DefIn K mg "_law_same" "_law_same" (top 43)) (fu : Nat) : NFn P w K mg base (0 + fu) "_law_same" 2 (D_43 fu) := by
  obtain ⟨f, fd, F0, hm⟩ := h.ex
  induction fu with
  | zero => exact NFn.bad F0 hm (FunD.bindsN (ps := ["actual", "due"]) F0 fun _ _ _ _ _ _ us hl => match us, hl with | [_, _], _ => rfl)
  | succ k ih =>
    exact NFn.of F0 hm sc_43 (FunD.bindsN (ps := ["actual", "due"]) F0 fun _ _ _ _ _ _ us hl => match us, hl with | [_, _], _ => rfl) rfl fun cdv A outer s H E hr => by exact (nss_cons (ns_if (nt_cmp op_isNN no_is (no_o 1) (no_e ne_none) rfl) (nss_one (ns_ret (ne_cmp op_isNN no_is (no_o 0) (no_e ne_none) rfl))) nss_nil)
    (nss_cons (ns_if (NW.t (nw_or (nt_t (no_e (ne_isi kit_tuple (no_o 1) T.f_isinstance T.f_tuple bt_tuple))) (nw_or1 (nt_t (no_e (ne_isi kit_list (no_o 1) T.f_isinstance T.f_list bt_list)))))) (nss_cons (ns_if (NW.t (nw_or (nt_cmp (op_neN hr.units) no_ne (no_e (ne_isi kit_tuple (no_o 1) T.f_isinstance T.f_tuple bt_tuple)) (no_e (ne_isi kit_tuple (no_o 0) T.f_isinstance T.f_tuple bt_tuple)) rfl) (nw_or1 (nt_cmp (op_neN hr.units) no_ne (no_e (ne_isi kit_list (no_o 1) T.f_isinstance T.f_list bt_list)) (no_e (ne_isi kit_list (no_o 0) T.f_isinstance T.f_list bt_list)) rfl)))) (nss_one (ns_ret ne_bool)) nss_nil)
    (nss_cons (ns_if (nt_cmp (op_neN hr.units) no_ne (no_e (ne_len T.f_len (na_cons (no_o 0) na_nil))) (no_e (ne_len T.f_len (na_cons (no_o 1) na_nil))) rfl) (nss_one (ns_ret ne_bool)) nss_nil)
    (nss_cons (ns_for (passes_of rfl) rfl (ni_rg1 T.f_range (na_cons (no_e (ne_len T.f_len (na_cons (no_o 1) na_nil))) na_nil)) (ng_name 2 sc_43.nd rfl (by first | exact Or.inl rfl | exact Or.inr rfl)) (nss_one (ns_if (nt_not (nt_t (no_e (ne_call ih hr (takes_of rfl rfl rfl rfl) (na_cons (no_e (ne_ix (no_o 0) (no_o 2))) (na_cons (no_e (ne_ix (no_o 1) (no_o 2))) na_nil)) rfl rfl (aCons_len (aCons_len aNil_len)))))) (nss_one (ns_ret ne_bool)) nss_nil)))
    (nss_one (ns_ret ne_bool))))) nss_nil)
    (nss_cons (ns_if (nt_t (no_e (ne_isi kit_dict (no_o 1) T.f_isinstance T.f_dict bt_dict))) (nss_cons (ns_if (NW.t (nw_or (nt_not (nt_t (no_e (ne_isi kit_dict (no_o 0) T.f_isinstance T.f_dict bt_dict)))) (nw_or1 (nt_cmp (op_neN hr.units) no_ne (no_e (ne_len T.f_len (na_cons (no_o 0) na_nil))) (no_e (ne_len T.f_len (na_cons (no_o 1) na_nil))) rfl)))) (nss_one (ns_ret ne_bool)) nss_nil)
    (nss_one (ns_ret (ne_cmp (op_eqN hr.units) no_eq (no_e (ne_l (neo_lc (own := [("key", 3)]) rfl sc_43.nd (ni_v (ne_f 1)) (blkOk_by rfl) (fun s_ H_ C_ cl_ fp_ => (ng_name 3 sc_43.nd rfl (by first | exact Or.inl rfl | exact Or.inr rfl))) (fun s_ H_ C_ cl_ fp_ => (pts_oneN (NW.t (nw_or (nt_cmp (op_notInN (u65 hr)) no_notin (no_o 3) (no_o 0) rfl) (nw_or1 (nt_not (nt_t (no_e (ne_call ih hr takes0 (na_cons (no_e (ne_ix (no_o 0) (no_o 3))) (na_cons (no_e (ne_ix (no_o 1) (no_o 3))) na_nil)) rfl rfl (aCons_len (aCons_len aNil_len))))))))))) (fun s_ H_ C_ cl_ fp_ => (ne_v 3))))) (no_e (ne_l (neo_lst na_nil))) rfl)))) nss_nil)
    (nss_cons (ns_if (nt_cmp (op_neN hr.units) no_ne (no_e (ne_isi kit_bool (no_o 1) T.f_isinstance T.f_bool bt_bool)) (no_e (ne_isi kit_bool (no_o 0) T.f_isinstance T.f_bool bt_bool)) rfl) (nss_one (ns_ret ne_bool)) nss_nil)
    (nss_cons (ns_if (NW.t (nw_or (nt_cmp (op_neN hr.units) no_ne (no_e (ne_isi kit_int (no_o 1) T.f_isinstance T.f_int bt_int)) (no_e (ne_isi kit_int (no_o 0) T.f_isinstance T.f_int bt_int)) rfl) (nw_or1 (nt_cmp (op_neN hr.units) no_ne (no_e (ne_isi kit_str (no_o 1) T.f_isinstance T.f_str bt_str)) (no_e (ne_isi kit_str (no_o 0) T.f_isinstance T.f_str bt_str)) rfl)))) (nss_one (ns_ret ne_bool)) nss_nil)
    (nss_one (ns_ret (ne_cmp (op_eqN hr.units) no_eq (no_o 0) (no_o 1) rfl))))))))
theorem sc_45 : FnScope ["draws", "found", "day", "row", "minute", "k", "shut"] ["draws"] (defScope (top 45)) := ⟨rfl, rfl, rfl, by decide +kernel, rfl, by decide +kernel, by decide +kernel⟩
def B_45 : NStm :=
  sSeq (sOwn 1 (nLstO (aNil)))
  (sSeq (sFor (iRg1 (aCons (.e (nC (.int 7))) (aNil))) (gN 2) (sSeq (sPar 3 4 (evO (nLstO (aNil))) (evV (nCall D_42 (aCons (.o 0) (aCons (.e (nL (nLstO (aCons (.e (nC (.int 0))) (aCons (.e (nC (.int 480))) (aCons (.e (nCall D_41 (aCons (.o 0) (aCons (.e (nC (.int 900))) (aNil))))) (aNil))))))) (aNil))))))
  (sSeq (sFor (iRg1 (aCons (.e (nCall D_42 (aCons (.o 0) (aCons (.e (nL (nLstO (aCons (.e (nC (.int 0))) (aCons (.e (nC (.int 1))) (aCons (.e (nC (.int 1))) (aCons (.e (nC (.int 2))) (aCons (.e (nC (.int 3))) (aNil))))))))) (aNil))))) (aNil))) (gN 5) (sSeq (sAsg (nCB bMin (aCons (.e (nC (.int 1440))) (aCons (.e (nOp2 oAdd (.e (nOp2 oAdd (.o 4) (.e (nC (.int 1))))) (.e (nCall D_42 (aCons (.o 0) (aCons (.e (nL (nLstO (aCons (.e (nC (.int 0))) (aCons (.e (nC (.int 240))) (aCons (.e (nCall D_41 (aCons (.o 0) (aCons (.e (nC (.int 500))) (aNil))))) (aNil))))))) (aNil))))))) (aNil)))) (gN 6))
  (sSeq (sIf (asB (nOp2 oLt (.o 4) (.o 6))) (sExpr (nAppend 3 (nTup (aCons (.e (nV 4)) (aCons (.e (nV 6)) (aNil)))))) (sNil))
  (sAsg (nOp2 oAdd (.e (nOp2 oAdd (.o 6) (.e (nC (.int 1))))) (.e (nCall D_41 (aCons (.o 0) (aCons (.e (nC (.int 200))) (aNil)))))) (gN 4)))))
  (sExpr (nAppend 1 (nCB bTuple (aCons (.o 3) (aNil))))))))
  (sRet (nCB bTuple (aCons (.o 1) (aNil)))))
def D_45 : NExp := runD 7 B_45
theorem n_45 {x : Str} (T : Tx K mg) (h : DefIn K mg x "_law_hours" (top 45)) : NFn P w K mg base 3 x 1 D_45 := by
  obtain ⟨f, fd, F0, hm⟩ := h.ex
  exact NFn.of F0 hm sc_45 (FunD.bindsN (ps := ["draws"]) F0 fun _ _ _ _ _ _ us hl => match us, hl with | [_], _ => rfl) rfl fun cdv A outer s H E hr => by exact (nss_cons (ns_own 1 sc_45.nd rfl (by first | exact Or.inl rfl | exact Or.inr rfl) (neo_lst na_nil))
    (nss_cons (ns_for (passes_of rfl) rfl (ni_rg1 T.f_range (na_cons (no_e ne_int) na_nil)) (ng_name 2 sc_45.nd rfl (by first | exact Or.inl rfl | exact Or.inr rfl)) (nss_cons (ns_par 3 4 rfl sc_45.nd rfl rfl (by decide) rfl rfl (nv_o (neo_lst na_nil)) (nv_v (ne_call ((n_42 T T.d__law_pick).mono (by omega)) hr (takes_of rfl rfl rfl rfl) (na_cons (no_o 0) (na_cons (no_e (ne_l (neo_lst (na_cons (no_e ne_int) (na_cons (no_e ne_int) (na_cons (no_e (ne_call ((n_41 T T.d__law_take).mono (by omega)) hr (takes_of rfl rfl rfl rfl) (na_cons (no_o 0) (na_cons (no_e ne_int) na_nil)) rfl rfl (aCons_len (aCons_len aNil_len)))) na_nil)))))) na_nil)) rfl rfl (aCons_len (aCons_len aNil_len)))))
    (nss_cons (ns_for (passes_of rfl) rfl (ni_rg1 T.f_range (na_cons (no_e (ne_call ((n_42 T T.d__law_pick).mono (by omega)) hr (takes_of rfl rfl rfl rfl) (na_cons (no_o 0) (na_cons (no_e (ne_l (neo_lst (na_cons (no_e ne_int) (na_cons (no_e ne_int) (na_cons (no_e ne_int) (na_cons (no_e ne_int) (na_cons (no_e ne_int) na_nil)))))))) na_nil)) rfl rfl (aCons_len (aCons_len aNil_len)))) na_nil)) (ng_name 5 sc_45.nd rfl (by first | exact Or.inl rfl | exact Or.inr rfl)) (nss_cons (ns_asg (ne_cb (cr_minN rfl) cn_min T.f_min bt_min (na_cons (no_e ne_int) (na_cons (no_e (ne_op op_addN no_add (no_e (ne_op op_addN no_add (no_o 4) (no_e ne_int))) (no_e (ne_call ((n_42 T T.d__law_pick).mono (by omega)) hr (takes_of rfl rfl rfl rfl) (na_cons (no_o 0) (na_cons (no_e (ne_l (neo_lst (na_cons (no_e ne_int) (na_cons (no_e ne_int) (na_cons (no_e (ne_call ((n_41 T T.d__law_take).mono (by omega)) hr (takes_of rfl rfl rfl rfl) (na_cons (no_o 0) (na_cons (no_e ne_int) na_nil)) rfl rfl (aCons_len (aCons_len aNil_len)))) na_nil)))))) na_nil)) rfl rfl (aCons_len (aCons_len aNil_len)))))) na_nil))) (ng_name 6 sc_45.nd rfl (by first | exact Or.inl rfl | exact Or.inr rfl)))
    (nss_cons (ns_if (nt_cmp (op_ltN hr.units) no_lt (no_o 4) (no_o 6) rfl) (nss_one (ns_expr (ne_append 3 (ne_tup (na_cons (no_e (ne_v 4)) (na_cons (no_e (ne_v 6)) na_nil)))))) nss_nil)
    (nss_one (ns_asg (ne_op op_addN no_add (no_e (ne_op op_addN no_add (no_o 6) (no_e ne_int))) (no_e (ne_call ((n_41 T T.d__law_take).mono (by omega)) hr (takes_of rfl rfl rfl rfl) (na_cons (no_o 0) (na_cons (no_e ne_int) na_nil)) rfl rfl (aCons_len (aCons_len aNil_len))))) (ng_name 4 sc_45.nd rfl (by first | exact Or.inl rfl | exact Or.inr rfl)))))))
    (nss_one (ns_expr (ne_append 1 (ne_cty call_tuple_of cn_tuple T.f_tuple bt_tuple (na_cons (no_o 3) na_nil))))))))
    (nss_one (ns_ret (ne_cty call_tuple_of cn_tuple T.f_tuple bt_tuple (na_cons (no_o 1) na_nil))))))
theorem sc_46 : FnScope ["draws", "k"] ["draws"] (defScope (top 46)) := ⟨rfl, rfl, rfl, by decide +kernel, rfl, by decide +kernel, by decide +kernel⟩
def B_46 : NStm :=
  sRet (nCB bTuple (aCons (.e (nL (nSortU (.e (nL (nLc (iRg1 (aCons (.e (nCall D_41 (aCons (.o 0) (aCons (.e (nC (.int 6))) (aNil))))) (aNil))) (gN 1) (tYesN) (nCall D_41 (aCons (.o 0) (aCons (.e (nC (.int 20))) (aNil)))) [1])))))) (aNil)))
def D_46 : NExp := runD 2 B_46
theorem n_46 {x : Str} (T : Tx K mg) (h : DefIn K mg x "_law_closed" (top 46)) : NFn P w K mg base 2 x 1 D_46 := by
  obtain ⟨f, fd, F0, hm⟩ := h.ex
  exact NFn.of F0 hm sc_46 (FunD.bindsN (ps := ["draws"]) F0 fun _ _ _ _ _ _ us hl => match us, hl with | [_], _ => rfl) rfl fun cdv A outer s H E hr => by exact (nss_one (ns_ret (ne_cty call_tuple_of cn_tuple T.f_tuple bt_tuple (na_cons (no_e (ne_l (neo_sortU rfl T.f_sorted T.f_set (no_e (ne_l (neo_lc (own := [("k", 1)]) rfl sc_46.nd (ni_rg1 T.f_range (na_cons (no_e (ne_call ((n_41 T T.d__law_take).mono (by omega)) hr (takes_of rfl rfl rfl rfl) (na_cons (no_o 0) (na_cons (no_e ne_int) na_nil)) rfl rfl (aCons_len (aCons_len aNil_len)))) na_nil)) (blkOk_by rfl) (fun s_ H_ C_ cl_ fp_ => (ng_name 1 sc_46.nd rfl (by first | exact Or.inl rfl | exact Or.inr rfl))) (fun s_ H_ C_ cl_ fp_ => pts_nilN) (fun s_ H_ C_ cl_ fp_ => (ne_call ((n_41 T T.d__law_take).mono (by omega)) hr takes0 (na_cons (no_o 0) (na_cons (no_e ne_int) na_nil)) rfl rfl (aCons_len (aCons_len aNil_len)))))))))) na_nil))))
theorem sc_44 : FnScope ["e"] ["e"] (defScope (top 44)) := ⟨rfl, rfl, rfl, by decide +kernel, rfl, by decide +kernel, by decide +kernel⟩
theorem nFlags (T : Tx K mg) : NFl P w K mg base 1 "_law_flags" subF tblF := by
  obtain ⟨f, fd, F0, hm⟩ := T.d__law_flags.ex
  refine NFl.of F0 hm sc_44 (FunD.bindsN (ps := ["e"]) F0 fun _ _ _ _ _ _ us hl => match us, hl with | [_], _ => rfl) (by decide) fun A outer s H p cdv x D fl zc vf => ?_
  obtain ⟨C0, c0, k0⟩ := fl.a "NotRight" (by decide)
  obtain ⟨C1, c1, k1⟩ := fl.a "NotThere" (by decide)
  obtain ⟨C2, c2, k2⟩ := fl.a "NoAnswer" (by decide)
  obtain ⟨C3, c3, k3⟩ := fl.a "TooLarge" (by decide)
  obtain ⟨C4, c4, k4⟩ := fl.a "Malformed" (by decide)
  exact (pfl_cons (ev := "e") List.mem_cons_self fl.c zc vf c0 k0 T.f_isinstance (pfl_cons (ev := "e") List.mem_cons_self fl.c zc vf c1 k1 T.f_isinstance (pfl_cons (ev := "e") List.mem_cons_self fl.c zc vf c2 k2 T.f_isinstance (pfl_cons (ev := "e") List.mem_cons_self fl.c zc vf c3 k3 T.f_isinstance (pfl_cons (ev := "e") List.mem_cons_self fl.c zc vf c4 k4 T.f_isinstance pfl_nil rfl (Or.inl rfl) (by decide) (by decide) rfl rfl (by decide)) rfl (Or.inl rfl) (by decide) (by decide) rfl rfl (by decide)) rfl (Or.inl rfl) (by decide) (by decide) rfl rfl (by decide)) rfl (Or.inl rfl) (by decide) (by decide) rfl rfl (by decide)) rfl (Or.inl rfl) (by decide) (by decide) rfl rfl (by decide))
theorem sc_48 : FnScope ["which", "posts", "one", "two", "e"] ["which", "posts", "one", "two"] (defScope (top 48)) := ⟨rfl, rfl, rfl, by decide +kernel, rfl, by decide +kernel, by decide +kernel⟩
def B_48 : NStm :=
  sTryF 4 subF tblF knownF (sRet (nPick [D_35, D_33, D_38, D_37] (nF 0) (aCons (.o 1) (aCons (.o 2) (aCons (.o 3) (aNil))))))
def D_48 : NExp := runD 5 B_48
theorem n_48 {x : Str} (T : Tx K mg) (h : DefIn K mg x "_law_told" (top 48)) : NFn P w K mg base 9 x 4 D_48 := by
  obtain ⟨f, fd, F0, hm⟩ := h.ex
  obtain ⟨CB, gb, known⟩ := T.CB
  exact NFn.of F0 hm sc_48 (FunD.bindsN (ps := ["which", "posts", "one", "two"]) F0 fun _ _ _ _ _ _ us hl => match us, hl with | [_, _, _, _], _ => rfl) rfl fun cdv A outer s H E hr => by exact (nss_one (ns_tryF (i := 4) rfl rfl sc_48.nd rfl rfl gb (takes_of rfl rfl rfl rfl) hr ((nFlags T).mono (by omega)) known (fun W_ pn_ xe_ tk_ hp_ => (nss_one (ns_ret (ne_pick (picks_cons ((n_35 T T.d_arrival).mono (by omega)) (Nat.le_refl _) (picks_cons ((n_33 T T.d_passed_at).mono (by omega)) (Nat.le_refl _) (picks_cons ((n_38 T T.d_waiting_in).mono (by omega)) (Nat.le_refl _) (picks_cons ((n_37 T T.d_latest_start).mono (by omega)) (Nat.le_refl _) picks_nil)))) (by decide) hr tk_ (ne_f 0) (na_cons (no_o 1) (na_cons (no_o 2) (na_cons (no_o 3) na_nil))) rfl (aCons_len (aCons_len (aCons_len aNil_len))))))) rfl (by decide) rfl (by decide) (Or.inl rfl) (by decide) (by decide)))
theorem sc_47 : FnScope ["hours", "closed", "minute", "day", "begin", "shut", "found"] ["hours", "closed", "minute"] (defScope (top 47)) := ⟨rfl, rfl, rfl, by decide +kernel, rfl, by decide +kernel, by decide +kernel⟩
def B_47 : NStm :=
  sSeq (sFor (iRg2 (aCons (.e (nOp2 oFdiv (.o 2) (.e (nC (.int 1440))))) (aCons (.e (nCB bMin (aCons (.e (nC (.int 6945))) (aCons (.e (nOp2 oAdd (.e (nOp2 oFdiv (.o 2) (.e (nC (.int 1440))))) (.e (nC (.int 130))))) (aNil))))) (aNil)))) (gN 3) (sIf (asB (nOp2 oNotIn (.o 3) (.o 1))) (sFor (iV (nOp2 oIx (.o 0) (.e (nOp2 oMod (.e (nCB bInt (aCons (.o 3) (aNil)))) (.e (nC (.int 7))))))) (gT (gCons' (gN 4) (gCons' (gN 5) (gNil')))) (sIf (asB (nOp2 oLt (.o 2) (.e (nOp2 oAdd (.e (nOp2 oMul (.o 3) (.e (nC (.int 1440))))) (.o 5))))) (sSeq (sAsg (nCB bMax (aCons (.o 2) (aCons (.e (nOp2 oAdd (.e (nOp2 oMul (.o 3) (.e (nC (.int 1440))))) (.o 4))) (aNil)))) (gN 6))
  (sRet (nOp2 oIx (.e (nL (nLstO (aCons (.e (nC .none)) (aCons (.e (nV 6)) (aNil)))))) (.e (nCB bInt (aCons (.e (nOp2 oLe (.o 6) (.e (nOp2 oPow (.e (nC (.int 10))) (.e (nC (.int 7))))))) (aNil))))))) (sNil))) (sNil)))
  (sRet (nC .none))
def D_47 : NExp := runD 7 B_47
theorem n_47 {x : Str} (T : Tx K mg) (h : DefIn K mg x "_law_next_open" (top 47)) : NFn P w K mg base 1 x 3 D_47 := by
  obtain ⟨f, fd, F0, hm⟩ := h.ex
  exact NFn.of F0 hm sc_47 (FunD.bindsN (ps := ["hours", "closed", "minute"]) F0 fun _ _ _ _ _ _ us hl => match us, hl with | [_, _, _], _ => rfl) rfl fun cdv A outer s H E hr => by exact (nss_cons (ns_for (passes_of rfl) rfl (ni_rg2 T.f_range (na_cons (no_e (ne_op op_fdivNN no_fdiv (no_o 2) (no_e ne_int))) (na_cons (no_e (ne_cb (cr_minN rfl) cn_min T.f_min bt_min (na_cons (no_e ne_int) (na_cons (no_e (ne_op op_addN no_add (no_e (ne_op op_fdivNN no_fdiv (no_o 2) (no_e ne_int))) (no_e ne_int))) na_nil)))) na_nil))) (ng_name 3 sc_47.nd rfl (by first | exact Or.inl rfl | exact Or.inr rfl)) (nss_one (ns_if (nt_cmp (op_notInN (u65 hr)) no_notin (no_o 3) (no_o 1) rfl) (nss_one (ns_for (passes_of rfl) rfl (ni_v (ne_ix (no_o 0) (no_e (ne_op op_modN no_mod (no_e (ne_cty call_int1 cn_int T.f_int bt_int (na_cons (no_o 3) na_nil))) (no_e ne_int))))) (ng_tup rfl (ngs_cons (ng_name 4 sc_47.nd rfl (by first | exact Or.inl rfl | exact Or.inr rfl)) (ngs_cons (ng_name 5 sc_47.nd rfl (by first | exact Or.inl rfl | exact Or.inr rfl)) ngs_nil)) (gCons_len (gCons_len gNil_len))) (nss_one (ns_if (nt_cmp (op_ltN hr.units) no_lt (no_o 2) (no_e (ne_op op_addN no_add (no_e (ne_op op_mulN no_mul (no_o 3) (no_e ne_int))) (no_o 5))) rfl) (nss_cons (ns_asg (ne_cb (cr_maxN rfl) cn_max T.f_max bt_max (na_cons (no_o 2) (na_cons (no_e (ne_op op_addN no_add (no_e (ne_op op_mulN no_mul (no_o 3) (no_e ne_int))) (no_o 4))) na_nil))) (ng_name 6 sc_47.nd rfl (by first | exact Or.inl rfl | exact Or.inr rfl)))
    (nss_one (ns_ret (ne_ix (no_e (ne_l (neo_lst (na_cons (no_e ne_none) (na_cons (no_e (ne_v 6)) na_nil))))) (no_e (ne_cty call_int1 cn_int T.f_int bt_int (na_cons (no_e (ne_cmp op_leN no_le (no_o 6) (no_e (ne_op op_pow no_pow (no_e ne_int) (no_e ne_int))) rfl)) na_nil))))))) nss_nil)))) nss_nil)))
    (nss_one (ns_ret ne_none)))
theorem sc_49 : FnScope ["posts", "start", "legs", "found", "now", "minutes", "name", "hours", "closed"] ["posts", "start", "legs"] (defScope (top 49)) := ⟨rfl, rfl, rfl, by decide +kernel, rfl, by decide +kernel, by decide +kernel⟩
def B_49 : NStm :=
  sSeq (sPar 3 4 (evO (nLstO (aNil))) (evV (nF 1)))
  (sSeq (sFor (iV (nF 2)) (gT (gCons' (gN 5) (gCons' (gN 6) (gNil')))) (sSeq (sAsg (nOp2 oDix (.o 0) (.o 6)) (gT (gCons' (gN 7) (gCons' (gN 8) (gNil')))))
  (sIf (asB (nOp2 oIsNot (.o 4) (.e (nC .none)))) (sSeq (sAsg (nCall D_47 (aCons (.o 7) (aCons (.o 8) (aCons (.e (nOp2 oAdd (.o 4) (.o 5))) (aNil))))) (gN 4))
  (sExpr (nAppend 3 (nV 4)))) (sNil))))
  (sRet (nOp2 oIx (.e (nL (nLstO (aCons (.e (nF 3)) (aCons (.e (nC .none)) (aNil)))))) (.e (nCB bInt (aCons (.e (nOp2 oIs (.o 4) (.e (nC .none)))) (aNil)))))))
def D_49 : NExp := runD 9 B_49
theorem n_49 {x : Str} (T : Tx K mg) (h : DefIn K mg x "_law_passed" (top 49)) : NFn P w K mg base 2 x 3 D_49 := by
  obtain ⟨f, fd, F0, hm⟩ := h.ex
  exact NFn.of F0 hm sc_49 (FunD.bindsN (ps := ["posts", "start", "legs"]) F0 fun _ _ _ _ _ _ us hl => match us, hl with | [_, _, _], _ => rfl) rfl fun cdv A outer s H E hr => by exact (nss_cons (ns_par 3 4 rfl sc_49.nd rfl rfl (by decide) rfl rfl (nv_o (neo_lst na_nil)) (nv_v (ne_f 1)))
    (nss_cons (ns_for (passes_of rfl) rfl (ni_v (ne_f 2)) (ng_tup rfl (ngs_cons (ng_name 5 sc_49.nd rfl (by first | exact Or.inl rfl | exact Or.inr rfl)) (ngs_cons (ng_name 6 sc_49.nd rfl (by first | exact Or.inl rfl | exact Or.inr rfl)) ngs_nil)) (gCons_len (gCons_len gNil_len))) (nss_cons (ns_asg (ne_dix hr.units (no_o 0) (no_o 6)) (ng_tup rfl (ngs_cons (ng_name 7 sc_49.nd rfl (by first | exact Or.inl rfl | exact Or.inr rfl)) (ngs_cons (ng_name 8 sc_49.nd rfl (by first | exact Or.inl rfl | exact Or.inr rfl)) ngs_nil)) (gCons_len (gCons_len gNil_len))))
    (nss_one (ns_if (nt_cmp op_notNN no_isnot (no_o 4) (no_e ne_none) rfl) (nss_cons (ns_asg (ne_call ((n_47 T T.d__law_next_open).mono (by omega)) hr (takes_of rfl rfl rfl rfl) (na_cons (no_o 7) (na_cons (no_o 8) (na_cons (no_e (ne_op op_addN no_add (no_o 4) (no_o 5))) na_nil))) rfl rfl (aCons_len (aCons_len (aCons_len aNil_len)))) (ng_name 4 sc_49.nd rfl (by first | exact Or.inl rfl | exact Or.inr rfl)))
    (nss_one (ns_expr (ne_append 3 (ne_v 4))))) nss_nil))))
    (nss_one (ns_ret (ne_ix (no_e (ne_l (neo_lst (na_cons (no_e (ne_f 3)) (na_cons (no_e ne_none) na_nil))))) (no_e (ne_cty call_int1 cn_int T.f_int bt_int (na_cons (no_e (ne_cmp op_isNN no_is (no_o 4) (no_e ne_none) rfl)) na_nil))))))))
theorem sc_50 : FnScope ["posts", "start", "legs", "found"] ["posts", "start", "legs"] (defScope (top 50)) := ⟨rfl, rfl, rfl, by decide +kernel, rfl, by decide +kernel, by decide +kernel⟩
def B_50 : NStm :=
  sSeq (sAsg (nCall D_49 (aCons (.o 0) (aCons (.o 1) (aCons (.o 2) (aNil))))) (gN 3))
  (sSeq (sIf (asB (nOp2 oIs (.o 3) (.e (nC .none)))) (sRet (nC .none)) (sNil))
  (sRet (nOp2 oIx (.e (nOp2 oAdd (.e (nL (nLstO (aCons (.e (nF 1)) (aNil))))) (.o 3))) (.e (nCB bLen (aCons (.o 3) (aNil)))))))
def D_50 : NExp := runD 4 B_50
theorem n_50 {x : Str} (T : Tx K mg) (h : DefIn K mg x "_law_arrival" (top 50)) : NFn P w K mg base 3 x 3 D_50 := by
  obtain ⟨f, fd, F0, hm⟩ := h.ex
  exact NFn.of F0 hm sc_50 (FunD.bindsN (ps := ["posts", "start", "legs"]) F0 fun _ _ _ _ _ _ us hl => match us, hl with | [_, _, _], _ => rfl) rfl fun cdv A outer s H E hr => by exact (nss_cons (ns_asg (ne_call ((n_49 T T.d__law_passed).mono (by omega)) hr (takes_of rfl rfl rfl rfl) (na_cons (no_o 0) (na_cons (no_o 1) (na_cons (no_o 2) na_nil))) rfl rfl (aCons_len (aCons_len (aCons_len aNil_len)))) (ng_name 3 sc_50.nd rfl (by first | exact Or.inl rfl | exact Or.inr rfl)))
    (nss_cons (ns_if (nt_cmp op_isNN no_is (no_o 3) (no_e ne_none) rfl) (nss_one (ns_ret ne_none)) nss_nil)
    (nss_one (ns_ret (ne_ix (no_e (ne_op op_addN no_add (no_e (ne_l (neo_lst (na_cons (no_e (ne_f 1)) na_nil)))) (no_o 3))) (no_e (ne_len T.f_len (na_cons (no_o 3) na_nil))))))))
theorem sc_51 : FnScope ["posts", "start", "legs", "by", "found"] ["posts", "start", "legs", "by"] (defScope (top 51)) := ⟨rfl, rfl, rfl, by decide +kernel, rfl, by decide +kernel, by decide +kernel⟩
def B_51 : NStm :=
  sSeq (sAsg (nCall D_50 (aCons (.o 0) (aCons (.o 1) (aCons (.o 2) (aNil))))) (gN 4))
  (sRet (nAnd (nOp2 oIsNot (.o 4) (.e (nC .none))) (nOp2 oLe (.o 4) (.o 3))))
def D_51 : NExp := runD 5 B_51
theorem n_51 {x : Str} (T : Tx K mg) (h : DefIn K mg x "_law_is_in_time" (top 51)) : NFn P w K mg base 4 x 4 D_51 := by
  obtain ⟨f, fd, F0, hm⟩ := h.ex
  exact NFn.of F0 hm sc_51 (FunD.bindsN (ps := ["posts", "start", "legs", "by"]) F0 fun _ _ _ _ _ _ us hl => match us, hl with | [_, _, _, _], _ => rfl) rfl fun cdv A outer s H E hr => by exact (nss_cons (ns_asg (ne_call ((n_50 T T.d__law_arrival).mono (by omega)) hr (takes_of rfl rfl rfl rfl) (na_cons (no_o 0) (na_cons (no_o 1) (na_cons (no_o 2) na_nil))) rfl rfl (aCons_len (aCons_len (aCons_len aNil_len)))) (ng_name 4 sc_51.nd rfl (by first | exact Or.inl rfl | exact Or.inr rfl)))
    (nss_one (ns_ret (ne_and (ne_cmp op_notNN no_isnot (no_o 4) (no_e ne_none) rfl) (ne_one (ne_cmp op_leN no_le (no_o 4) (no_o 3) rfl))))))
theorem sc_52 : FnScope ["script", "draws", "refused", "absent", "turn", "posts", "name", "legs", "k", "again", "start", "passed", "last", "waited", "leg", "later", "by", "got", "tries", "one", "bad", "odd", "minute", "told", "which", "lost", "gone", "day"] ["script"] (defScope (top 52)) := ⟨rfl, rfl, rfl, by decide +kernel, rfl, by decide +kernel, by decide +kernel⟩
def B_52 : NStm :=
  sSeq (sOwn 1 (nCallO D_40 (aCons (.o 0) (aNil))))
  (sSeq (sPar 2 3 (evV (nL (nLstO (aCons (.e (nC (.bool true))) (aCons (.e (nC (.bool false))) (aCons (.e (nC (.bool false))) (aCons (.e (nC (.bool false))) (aCons (.e (nC (.bool false))) (aNil))))))))) (evV (nL (nLstO (aCons (.e (nC (.bool false))) (aCons (.e (nC (.bool true))) (aCons (.e (nC (.bool false))) (aCons (.e (nC (.bool false))) (aCons (.e (nC (.bool false))) (aNil))))))))))
  (sSeq (sFor (iRg1 (aCons (.e (nC (.int 4))) (aNil))) (gN 4) (sSeq (sDictSet 5 (.e (nL (nLc (iV (nL (nLstO (aCons (.e (nC (.str "p"))) (aCons (.e (nC (.str "q"))) (aCons (.e (nC (.str "r1"))) (aNil))))))) (gN 6) (tYesN) (nTup (aCons (.e (nV 6)) (aCons (.e (nTup (aCons (.e (nCall D_45 (aCons (.o 1) (aNil)))) (aCons (.e (nCall D_46 (aCons (.o 1) (aNil)))) (aNil))))) (aNil)))) [6]))) (asB (nOp2 oEq (.e (nCall D_41 (aCons (.o 1) (aCons (.e (nC (.int 5))) (aNil))))) (.e (nC (.int 0))))) "q" (nTup (aCons (.e (nOp2 oMul (.e (nTup (aCons (.e (nTup (aNil))) (aNil)))) (.e (nC (.int 7))))) (aCons (.e (nTup (aNil))) (aNil)))))
  (sSeq (sAsg (nL (nLc (iRg1 (aCons (.e (nCall D_41 (aCons (.o 1) (aCons (.e (nC (.int 7))) (aNil))))) (aNil))) (gN 8) (tYesN) (nTup (aCons (.e (nCall D_42 (aCons (.o 1) (aCons (.e (nL (nLstO (aCons (.e (nC (.int 0))) (aCons (.e (nC (.int 100))) (aCons (.e (nCall D_41 (aCons (.o 1) (aCons (.e (nC (.int 5001))) (aNil))))) (aNil))))))) (aNil))))) (aCons (.e (nCall D_42 (aCons (.o 1) (aCons (.e (nL (nLstO (aCons (.e (nC (.str "p"))) (aCons (.e (nC (.str "q"))) (aCons (.e (nC (.str "r1"))) (aNil))))))) (aNil))))) (aNil)))) [8])) (gN 7))
  (sSeq (sFor (iRg1 (aCons (.e (nC (.int 3))) (aNil))) (gN 9) (sSeq (sAsg (nCall D_42 (aCons (.o 1) (aCons (.e (nL (nLstO (aCons (.e (nC (.int 0))) (aCons (.e (nCall D_41 (aCons (.o 1) (aCons (.e (nC (.int 20000))) (aNil))))) (aCons (.e (nOp2 oSub (.e (nOp2 oPow (.e (nC (.int 10))) (.e (nC (.int 7))))) (.e (nCall D_41 (aCons (.o 1) (aCons (.e (nC (.int 9000))) (aNil))))))) (aNil))))))) (aNil)))) (gN 10))
  (sSeq (sPar 11 12 (evV (nCall D_49 (aCons (.o 5) (aCons (.o 10) (aCons (.o 7) (aNil)))))) (evV (nCall D_50 (aCons (.o 5) (aCons (.o 10) (aCons (.o 7) (aNil)))))))
  (sSeq (sAsg (nC .none) (gN 13))
  (sSeq (sIf (asB (nOp2 oIsNot (.o 12) (.e (nC .none)))) (sAsg (nOp2 oSub (.e (nOp2 oSub (.o 12) (.o 10))) (.e (nCB bSum (aCons (.e (nL (nLc (iV (nV 7)) (gN 14) (tYesN) (nOp2 oIx (.o 14) (.e (nC (.int 0)))) [14]))) (aNil))))) (gN 13)) (sNil))
  (sSeq (sIf (tNot' (asT (.e (nCall (D_43 12) (aCons (.e (nL (nLstO (aCons (.e (nCall D_48 (aCons (.e (nC (.int 0))) (aCons (.o 5) (aCons (.o 10) (aCons (.e (nL (nListO (.o 7)))) (aNil))))))) (aCons (.e (nCall D_48 (aCons (.e (nC (.int 1))) (aCons (.o 5) (aCons (.o 10) (aCons (.e (nL (nListO (.o 7)))) (aNil))))))) (aCons (.e (nCall D_48 (aCons (.e (nC (.int 2))) (aCons (.o 5) (aCons (.o 10) (aCons (.e (nL (nListO (.o 7)))) (aNil))))))) (aNil))))))) (aCons (.e (nL (nLstO (aCons (.e (nV 12)) (aCons (.e (nV 11)) (aCons (.e (nV 13)) (aNil))))))) (aNil))))))) (sRet (nC (.bool false))) (sNil))
  (sSeq (sAsg (nCall D_48 (aCons (.e (nC (.int 0))) (aCons (.o 5) (aCons (.e (nCB bMin (aCons (.e (nOp2 oPow (.e (nC (.int 10))) (.e (nC (.int 7))))) (aCons (.e (nOp2 oAdd (.o 10) (.e (nCall D_41 (aCons (.o 1) (aCons (.e (nC (.int 3000))) (aNil))))))) (aNil))))) (aCons (.e (nL (nListO (.o 7)))) (aNil)))))) (gN 15))
  (sIf (tOr' (tAnd' (asB (nOp2 oIs (.o 12) (.e (nC .none)))) (asB (nOp2 oIsNot (.o 15) (.e (nC .none))))) (tAnd' (asB (nOp2 oIsNot (.o 12) (.e (nC .none)))) (tAnd' (asB (nOp2 oIsNot (.o 15) (.e (nC .none)))) (asB (nOp2 oLt (.o 15) (.o 12)))))) (sRet (nC (.bool false))) (sNil)))))))))
  (sSeq (sAsg (nCall D_42 (aCons (.o 1) (aCons (.e (nL (nLstO (aCons (.e (nC (.int 0))) (aCons (.e (nCall D_41 (aCons (.o 1) (aCons (.e (nC (.int 9000))) (aNil))))) (aCons (.e (nOp2 oAdd (.e (nC (.int 9000))) (.e (nCall D_41 (aCons (.o 1) (aCons (.e (nC (.int 30000))) (aNil))))))) (aCons (.e (nOp2 oPow (.e (nC (.int 10))) (.e (nC (.int 7))))) (aNil)))))))) (aNil)))) (gN 16))
  (sSeq (sAsg (nCall D_48 (aCons (.e (nC (.int 3))) (aCons (.o 5) (aCons (.e (nL (nListO (.o 7)))) (aCons (.o 16) (aNil)))))) (gN 17))
  (sSeq (sIf (asB (nOp2 oIs (.o 17) (.e (nC .none)))) (sIf (asT (.e (nCall D_51 (aCons (.o 5) (aCons (.e (nC (.int 0))) (aCons (.o 7) (aCons (.o 16) (aNil)))))))) (sRet (nC (.bool false))) (sNil)) (sIf (tOr' (tNot' (asT (.e (nIsi "int" (.o 17))))) (tOr' (asT (.e (nIsi "bool" (.o 17)))) (tOr' (tNot' (asB (nChain oLe oLe (.e (nC (.int 0))) (.o 17) (.o 16)))) (tNot' (asT (.e (nCall D_51 (aCons (.o 5) (aCons (.o 17) (aCons (.o 7) (aCons (.o 16) (aNil)))))))))))) (sRet (nC (.bool false))) (sSeq (sSetL 18 (nLc (iV (nL (nLstO (aCons (.e (nOp2 oAdd (.o 17) (.e (nC (.int 1))))) (aCons (.e (nOp2 oAdd (.o 17) (.e (nC (.int 2))))) (aCons (.e (nOp2 oAdd (.e (nOp2 oAdd (.o 17) (.e (nC (.int 1))))) (.e (nCall D_41 (aCons (.o 1) (aCons (.e (nC (.int 997))) (aNil))))))) (aCons (.e (nV 16)) (aNil)))))))) (gN 19) (asB (nChain oLt oLe (.o 17) (.o 19) (.o 16))) (nV 19) [19]))
  (sIf (asB (nOp2 oNe (.e (nL (nLc (iV (nV 18)) (gN 19) (asT (.e (nCall D_51 (aCons (.o 5) (aCons (.o 19) (aCons (.o 7) (aCons (.o 16) (aNil)))))))) (nV 19) [19]))) (.e (nL (nLstO (aNil)))))) (sRet (nC (.bool false))) (sNil)))))
  (sSeq (sAsg (nCall D_42 (aCons (.o 1) (aCons (.e (nL (nLstO (aCons (.e (nC .none)) (aCons (.e (nL (nLstO (aNil)))) (aCons (.e (nDisp ["P"] (aCons (.e (nOp2 oDix (.o 5) (.e (nC (.str "p"))))) (aNil)))) (aCons (.e (nDisp ["p"] (aCons (.e (nOp2 oAdd (.e (nOp2 oDix (.o 5) (.e (nC (.str "p"))))) (.e (nTup (aCons (.e (nC (.int 0))) (aNil)))))) (aNil)))) (aCons (.e (nDisp ["p"] (aCons (.e (nTup (aCons (.e (nSl (.e (nOp2 oIx (.e (nOp2 oDix (.o 5) (.e (nC (.str "p"))))) (.e (nC (.int 0))))) (pNone) (pSome (nC (.int 6))))) (aCons (.e (nTup (aNil))) (aNil))))) (aNil)))) (aCons (.e (nDisp ["p"] (aCons (.e (nTup (aCons (.e (nOp2 oIx (.e (nOp2 oDix (.o 5) (.e (nC (.str "p"))))) (.e (nC (.int 0))))) (aCons (.e (nTup (aCons (.e (nC (.int 2))) (aCons (.e (nC (.int 1))) (aNil))))) (aNil))))) (aNil)))) (aCons (.e (nDisp ["p"] (aCons (.e (nC .none)) (aNil)))) (aNil))))))))))) (aNil)))) (gN 20))
  (sSeq (sAsg (nCall D_42 (aCons (.o 1) (aCons (.e (nL (nLstO (aCons (.e (nC .none)) (aCons (.e (nTup (aNil))) (aCons (.e (nL (nLstO (aCons (.e (nTup (aCons (.e (nC (.int 1))) (aNil)))) (aNil))))) (aCons (.e (nL (nLstO (aCons (.e (nTup (aCons (.e (nNeg (nC (.int 1)))) (aCons (.e (nC (.str "p"))) (aNil))))) (aNil))))) (aCons (.e (nL (nLstO (aCons (.e (nTup (aCons (.e (nC (.int 5001))) (aCons (.e (nC (.str "p"))) (aNil))))) (aNil))))) (aCons (.e (nL (nLstO (aCons (.e (nTup (aCons (.e (nC (.bool true))) (aCons (.e (nC (.str "p"))) (aNil))))) (aNil))))) (aCons (.e (nL (nLstO (aCons (.e (nTup (aCons (.e (nC (.int 1))) (aCons (.e (nC (.str "P"))) (aNil))))) (aNil))))) (aCons (.e (nL (nLstO (aCons (.e (nL (nLstO (aCons (.e (nC (.int 1))) (aCons (.e (nC (.str "p"))) (aNil)))))) (aNil))))) (aCons (.e (nOp2 oMul (.e (nL (nLstO (aCons (.e (nTup (aCons (.e (nC (.int 1))) (aCons (.e (nC (.str "p"))) (aNil))))) (aNil))))) (.e (nC (.int 13))))) (aNil))))))))))))) (aNil)))) (gN 21))
  (sSeq (sAsg (nCall D_42 (aCons (.o 1) (aCons (.e (nL (nLstO (aCons (.e (nNeg (nC (.int 1)))) (aCons (.e (nOp2 oAdd (.e (nOp2 oPow (.e (nC (.int 10))) (.e (nC (.int 7))))) (.e (nC (.int 1))))) (aCons (.e (nC .none)) (aCons (.e (nC (.bool true))) (aNil)))))))) (aNil)))) (gN 22))
  (sSeq (sAsg (nOp2 oAdd (.e (nOp2 oAdd (.e (nL (nLc (iRg1 (aCons (.e (nC (.int 3))) (aNil))) (gN 24) (tYesN) (nCall D_48 (aCons (.o 24) (aCons (.o 20) (aCons (.e (nC (.int 0))) (aCons (.e (nL (nLstO (aNil)))) (aNil)))))) [24]))) (.e (nL (nLc (iRg1 (aCons (.e (nC (.int 3))) (aNil))) (gN 24) (tYesN) (nCall D_48 (aCons (.o 24) (aCons (.o 5) (aCons (.o 22) (aCons (.e (nL (nLstO (aNil)))) (aNil)))))) [24]))))) (.e (nL (nLc (iRg1 (aCons (.e (nC (.int 3))) (aNil))) (gN 24) (tYesN) (nCall D_48 (aCons (.o 24) (aCons (.o 5) (aCons (.e (nC (.int 0))) (aCons (.o 21) (aNil)))))) [24])))) (gN 23))
  (sSeq (sAsg (nOp2 oAdd (.o 23) (.e (nL (nLstO (aCons (.e (nCall D_48 (aCons (.e (nC (.int 3))) (aCons (.o 20) (aCons (.e (nL (nLstO (aNil)))) (aCons (.e (nC (.int 0))) (aNil))))))) (aCons (.e (nCall D_48 (aCons (.e (nC (.int 3))) (aCons (.o 5) (aCons (.o 21) (aCons (.e (nC (.int 0))) (aNil))))))) (aCons (.e (nCall D_48 (aCons (.e (nC (.int 3))) (aCons (.o 5) (aCons (.e (nL (nLstO (aNil)))) (aCons (.o 22) (aNil))))))) (aNil)))))))) (gN 23))
  (sSeq (sAsg (nL (nLstO (aCons (.e (nTup (aCons (.e (nC (.int 1))) (aCons (.e (nC (.str "p"))) (aNil))))) (aCons (.e (nTup (aCons (.e (nC (.int 1))) (aCons (.e (nC (.str "no"))) (aNil))))) (aNil))))) (gN 25))
  (sSeq (sAsg (nOp2 oAdd (.e (nL (nLc (iRg1 (aCons (.e (nC (.int 3))) (aNil))) (gN 24) (tYesN) (nCall D_48 (aCons (.o 24) (aCons (.o 5) (aCons (.e (nC (.int 0))) (aCons (.o 25) (aNil)))))) [24]))) (.e (nL (nLstO (aCons (.e (nCall D_48 (aCons (.e (nC (.int 3))) (aCons (.o 5) (aCons (.o 25) (aCons (.e (nC (.int 0))) (aNil))))))) (aNil)))))) (gN 26))
  (sIf (tOr' (tNot' (asT (.e (nCall (D_43 12) (aCons (.o 23) (aCons (.e (nOp2 oMul (.e (nL (nLstO (aCons (.e (nV 2)) (aNil))))) (.e (nC (.int 12))))) (aNil))))))) (tNot' (asT (.e (nCall (D_43 12) (aCons (.o 26) (aCons (.e (nOp2 oMul (.e (nL (nLstO (aCons (.e (nV 3)) (aNil))))) (.e (nC (.int 4))))) (aNil)))))))) (sRet (nC (.bool false))) (sNil))))))))))))))))
  (sSeq (sAsg (nOp2 oAdd (.e (nOp2 oMul (.e (nTup (aCons (.e (nTup (aCons (.e (nTup (aCons (.e (nC (.int 480))) (aCons (.e (nC (.int 720))) (aNil))))) (aNil)))) (aNil)))) (.e (nC (.int 6))))) (.e (nTup (aCons (.e (nTup (aNil))) (aNil))))) (gN 27))
  (sSeq (sAsg (nDisp ["p", "q"] (aCons (.e (nTup (aCons (.e (nV 27)) (aCons (.e (nTup (aNil))) (aNil))))) (aCons (.e (nTup (aCons (.e (nV 27)) (aCons (.e (nTup (aNil))) (aNil))))) (aNil)))) (gN 5))
  (sSeq (sAsg (nL (nLstO (aCons (.e (nCall D_35 (aCons (.o 5) (aCons (.e (nC (.int 0))) (aCons (.e (nL (nLstO (aCons (.e (nTup (aCons (.e (nC (.int 100))) (aCons (.e (nC (.str "p"))) (aNil))))) (aCons (.e (nTup (aCons (.e (nC (.int 300))) (aCons (.e (nC (.str "q"))) (aNil))))) (aNil)))))) (aNil)))))) (aCons (.e (nCall D_33 (aCons (.o 5) (aCons (.e (nC (.int 0))) (aCons (.e (nL (nLstO (aCons (.e (nTup (aCons (.e (nC (.int 100))) (aCons (.e (nC (.str "p"))) (aNil))))) (aCons (.e (nTup (aCons (.e (nC (.int 300))) (aCons (.e (nC (.str "q"))) (aNil))))) (aNil)))))) (aNil)))))) (aCons (.e (nCall D_37 (aCons (.o 5) (aCons (.e (nL (nLstO (aCons (.e (nTup (aCons (.e (nC (.int 100))) (aCons (.e (nC (.str "p"))) (aNil))))) (aNil))))) (aCons (.e (nC (.int 1000))) (aNil)))))) (aNil)))))) (gN 17))
  (sSeq (sAsg (nOp2 oAdd (.o 17) (.e (nL (nLstO (aCons (.e (nCall D_38 (aCons (.o 5) (aCons (.e (nC (.int 0))) (aCons (.e (nL (nLstO (aCons (.e (nTup (aCons (.e (nC (.int 100))) (aCons (.e (nC (.str "p"))) (aNil))))) (aNil))))) (aNil)))))) (aCons (.e (nCall D_35 (aCons (.o 5) (aCons (.e (nC (.int 7))) (aCons (.e (nL (nLstO (aNil)))) (aNil)))))) (aCons (.e (nCall D_37 (aCons (.o 5) (aCons (.e (nL (nLstO (aNil)))) (aCons (.e (nC (.int 55))) (aNil)))))) (aNil)))))))) (gN 17))
  (sRet (nCall (D_43 12) (aCons (.o 17) (aCons (.e (nL (nLstO (aCons (.e (nC (.int 1920))) (aCons (.e (nL (nLstO (aCons (.e (nC (.int 480))) (aCons (.e (nC (.int 1920))) (aNil)))))) (aCons (.e (nC (.int 619))) (aCons (.e (nC (.int 380))) (aCons (.e (nC (.int 7))) (aCons (.e (nC (.int 55))) (aNil)))))))))) (aNil)))))))))))
def D_52 : NExp := runD 28 B_52
theorem law_ok (T : Tx K mg) {f : Addr} {fd : FuncData} (F0 : FunD K "law" "law" (defArgs (top 52)) (defBody (top 52)) (defScope (top 52)) [] [] f fd) : FnOk P w K mg base (L2.CX P w) 14 f fd ["script"] (NProm K mg 1 D_52) := by
  exact NFn.ok F0 sc_52 rfl fun cdv A outer s H E hr => by exact (nss_cons (ns_own 1 sc_52.nd rfl (by first | exact Or.inl rfl | exact Or.inr rfl) (neo_call ((n_40 T T.d__law_draws).mono (by omega)) hr (takes_of rfl rfl rfl rfl) (na_cons (no_o 0) na_nil) rfl rfl (aCons_len aNil_len)))
    (nss_cons (ns_par 2 3 rfl sc_52.nd rfl rfl (by decide) rfl rfl (nv_v (ne_l (neo_lst (na_cons (no_e ne_bool) (na_cons (no_e ne_bool) (na_cons (no_e ne_bool) (na_cons (no_e ne_bool) (na_cons (no_e ne_bool) na_nil)))))))) (nv_v (ne_l (neo_lst (na_cons (no_e ne_bool) (na_cons (no_e ne_bool) (na_cons (no_e ne_bool) (na_cons (no_e ne_bool) (na_cons (no_e ne_bool) na_nil)))))))))
    (nss_cons (ns_for (passes_of rfl) rfl (ni_rg1 T.f_range (na_cons (no_e ne_int) na_nil)) (ng_name 4 sc_52.nd rfl (by first | exact Or.inl rfl | exact Or.inr rfl)) (nss_dictSet 5 hr.units sc_52.nd rfl (by first | exact Or.inl rfl | exact Or.inr rfl) (by first | exact Or.inl rfl | exact Or.inr (Or.inl rfl) | exact Or.inr (Or.inr rfl)) rfl T.f_dict (no_e (ne_l (neo_lc (own := [("name", 6)]) rfl sc_52.nd (ni_v (ne_l (neo_lst (na_cons (no_e ne_str) (na_cons (no_e ne_str) (na_cons (no_e ne_str) na_nil)))))) (blkOk_by rfl) (fun s_ H_ C_ cl_ fp_ => (ng_name 6 sc_52.nd rfl (by first | exact Or.inl rfl | exact Or.inr rfl))) (fun s_ H_ C_ cl_ fp_ => pts_nilN) (fun s_ H_ C_ cl_ fp_ => (ne_tup (na_cons (no_e (ne_v 6)) (na_cons (no_e (ne_tup (na_cons (no_e (ne_call ((n_45 T T.d__law_hours).mono (by omega)) hr takes0 (na_cons (no_o 1) na_nil) rfl rfl (aCons_len aNil_len))) (na_cons (no_e (ne_call ((n_46 T T.d__law_closed).mono (by omega)) hr takes0 (na_cons (no_o 1) na_nil) rfl rfl (aCons_len aNil_len))) na_nil)))) na_nil))))))) (nt_cmp (op_eqN hr.units) no_eq (no_e (ne_call ((n_41 T T.d__law_take).mono (by omega)) hr (takes_of rfl rfl rfl rfl) (na_cons (no_o 1) (na_cons (no_e ne_int) na_nil)) rfl rfl (aCons_len (aCons_len aNil_len)))) (no_e ne_int) rfl) (ne_tup (na_cons (no_e (ne_op op_mulN no_mul (no_e (ne_tup (na_cons (no_e (ne_tup na_nil)) na_nil))) (no_e ne_int))) (na_cons (no_e (ne_tup na_nil)) na_nil)))
    (nss_cons (ns_asg (ne_l (neo_lc (own := [("k", 8)]) rfl sc_52.nd (ni_rg1 T.f_range (na_cons (no_e (ne_call ((n_41 T T.d__law_take).mono (by omega)) hr (takes_of rfl rfl rfl rfl) (na_cons (no_o 1) (na_cons (no_e ne_int) na_nil)) rfl rfl (aCons_len (aCons_len aNil_len)))) na_nil)) (blkOk_by rfl) (fun s_ H_ C_ cl_ fp_ => (ng_name 8 sc_52.nd rfl (by first | exact Or.inl rfl | exact Or.inr rfl))) (fun s_ H_ C_ cl_ fp_ => pts_nilN) (fun s_ H_ C_ cl_ fp_ => (ne_tup (na_cons (no_e (ne_call ((n_42 T T.d__law_pick).mono (by omega)) hr takes0 (na_cons (no_o 1) (na_cons (no_e (ne_l (neo_lst (na_cons (no_e ne_int) (na_cons (no_e ne_int) (na_cons (no_e (ne_call ((n_41 T T.d__law_take).mono (by omega)) hr takes0 (na_cons (no_o 1) (na_cons (no_e ne_int) na_nil)) rfl rfl (aCons_len (aCons_len aNil_len)))) na_nil)))))) na_nil)) rfl rfl (aCons_len (aCons_len aNil_len)))) (na_cons (no_e (ne_call ((n_42 T T.d__law_pick).mono (by omega)) hr takes0 (na_cons (no_o 1) (na_cons (no_e (ne_l (neo_lst (na_cons (no_e ne_str) (na_cons (no_e ne_str) (na_cons (no_e ne_str) na_nil)))))) na_nil)) rfl rfl (aCons_len (aCons_len aNil_len)))) na_nil)))))) (ng_name 7 sc_52.nd rfl (by first | exact Or.inl rfl | exact Or.inr rfl)))
    (nss_cons (ns_for (passes_of rfl) rfl (ni_rg1 T.f_range (na_cons (no_e ne_int) na_nil)) (ng_name 9 sc_52.nd rfl (by first | exact Or.inl rfl | exact Or.inr rfl)) (nss_cons (ns_asg (ne_call ((n_42 T T.d__law_pick).mono (by omega)) hr (takes_of rfl rfl rfl rfl) (na_cons (no_o 1) (na_cons (no_e (ne_l (neo_lst (na_cons (no_e ne_int) (na_cons (no_e (ne_call ((n_41 T T.d__law_take).mono (by omega)) hr (takes_of rfl rfl rfl rfl) (na_cons (no_o 1) (na_cons (no_e ne_int) na_nil)) rfl rfl (aCons_len (aCons_len aNil_len)))) (na_cons (no_e (ne_op op_sub no_sub (no_e (ne_op op_pow no_pow (no_e ne_int) (no_e ne_int))) (no_e (ne_call ((n_41 T T.d__law_take).mono (by omega)) hr (takes_of rfl rfl rfl rfl) (na_cons (no_o 1) (na_cons (no_e ne_int) na_nil)) rfl rfl (aCons_len (aCons_len aNil_len)))))) na_nil)))))) na_nil)) rfl rfl (aCons_len (aCons_len aNil_len))) (ng_name 10 sc_52.nd rfl (by first | exact Or.inl rfl | exact Or.inr rfl)))
    (nss_cons (ns_par 11 12 rfl sc_52.nd rfl rfl (by decide) rfl rfl (nv_v (ne_call ((n_49 T T.d__law_passed).mono (by omega)) hr (takes_of rfl rfl rfl rfl) (na_cons (no_o 5) (na_cons (no_o 10) (na_cons (no_o 7) na_nil))) rfl rfl (aCons_len (aCons_len (aCons_len aNil_len))))) (nv_v (ne_call ((n_50 T T.d__law_arrival).mono (by omega)) hr (takes_of rfl rfl rfl rfl) (na_cons (no_o 5) (na_cons (no_o 10) (na_cons (no_o 7) na_nil))) rfl rfl (aCons_len (aCons_len (aCons_len aNil_len))))))
    (nss_cons (ns_asg ne_none (ng_name 13 sc_52.nd rfl (by first | exact Or.inl rfl | exact Or.inr rfl)))
    (nss_cons (ns_if (nt_cmp op_notNN no_isnot (no_o 12) (no_e ne_none) rfl) (nss_one (ns_asg (ne_op op_sub no_sub (no_e (ne_op op_sub no_sub (no_o 12) (no_o 10))) (no_e (ne_cb (cr_sum rfl) cn_sum T.f_sum bt_sum (na_cons (no_e (ne_l (neo_lc (own := [("leg", 14)]) rfl sc_52.nd (ni_v (ne_v 7)) (blkOk_by rfl) (fun s_ H_ C_ cl_ fp_ => (ng_name 14 sc_52.nd rfl (by first | exact Or.inl rfl | exact Or.inr rfl))) (fun s_ H_ C_ cl_ fp_ => pts_nilN) (fun s_ H_ C_ cl_ fp_ => (ne_ix (no_o 14) (no_e ne_int)))))) na_nil)))) (ng_name 13 sc_52.nd rfl (by first | exact Or.inl rfl | exact Or.inr rfl)))) nss_nil)
    (nss_cons (ns_if (nt_not (nt_t (no_e (ne_call ((n_43 T T.d__law_same 12).mono (by omega)) hr (takes_of rfl rfl rfl rfl) (na_cons (no_e (ne_l (neo_lst (na_cons (no_e (ne_call ((n_48 T T.d__law_told).mono (by omega)) hr (takes_of rfl rfl rfl rfl) (na_cons (no_e ne_int) (na_cons (no_o 5) (na_cons (no_o 10) (na_cons (no_e (ne_l (neo_list T.f_list (no_o 7)))) na_nil)))) rfl rfl (aCons_len (aCons_len (aCons_len (aCons_len aNil_len)))))) (na_cons (no_e (ne_call ((n_48 T T.d__law_told).mono (by omega)) hr (takes_of rfl rfl rfl rfl) (na_cons (no_e ne_int) (na_cons (no_o 5) (na_cons (no_o 10) (na_cons (no_e (ne_l (neo_list T.f_list (no_o 7)))) na_nil)))) rfl rfl (aCons_len (aCons_len (aCons_len (aCons_len aNil_len)))))) (na_cons (no_e (ne_call ((n_48 T T.d__law_told).mono (by omega)) hr (takes_of rfl rfl rfl rfl) (na_cons (no_e ne_int) (na_cons (no_o 5) (na_cons (no_o 10) (na_cons (no_e (ne_l (neo_list T.f_list (no_o 7)))) na_nil)))) rfl rfl (aCons_len (aCons_len (aCons_len (aCons_len aNil_len)))))) na_nil)))))) (na_cons (no_e (ne_l (neo_lst (na_cons (no_e (ne_v 12)) (na_cons (no_e (ne_v 11)) (na_cons (no_e (ne_v 13)) na_nil)))))) na_nil)) rfl rfl (aCons_len (aCons_len aNil_len)))))) (nss_one (ns_ret ne_bool)) nss_nil)
    (nss_cons (ns_asg (ne_call ((n_48 T T.d__law_told).mono (by omega)) hr (takes_of rfl rfl rfl rfl) (na_cons (no_e ne_int) (na_cons (no_o 5) (na_cons (no_e (ne_cb (cr_minN rfl) cn_min T.f_min bt_min (na_cons (no_e (ne_op op_pow no_pow (no_e ne_int) (no_e ne_int))) (na_cons (no_e (ne_op op_addN no_add (no_o 10) (no_e (ne_call ((n_41 T T.d__law_take).mono (by omega)) hr (takes_of rfl rfl rfl rfl) (na_cons (no_o 1) (na_cons (no_e ne_int) na_nil)) rfl rfl (aCons_len (aCons_len aNil_len)))))) na_nil)))) (na_cons (no_e (ne_l (neo_list T.f_list (no_o 7)))) na_nil)))) rfl rfl (aCons_len (aCons_len (aCons_len (aCons_len aNil_len))))) (ng_name 15 sc_52.nd rfl (by first | exact Or.inl rfl | exact Or.inr rfl)))
    (nss_one (ns_if (NW.t (nw_or (NW.t (nw_and (nt_cmp op_isNN no_is (no_o 12) (no_e ne_none) rfl) (nw_and1 (nt_cmp op_notNN no_isnot (no_o 15) (no_e ne_none) rfl)))) (nw_or1 (NW.t (nw_and (nt_cmp op_notNN no_isnot (no_o 12) (no_e ne_none) rfl) (nw_and (nt_cmp op_notNN no_isnot (no_o 15) (no_e ne_none) rfl) (nw_and1 (nt_cmp (op_ltN hr.units) no_lt (no_o 15) (no_o 12) rfl)))))))) (nss_one (ns_ret ne_bool)) nss_nil)))))))))
    (nss_cons (ns_asg (ne_call ((n_42 T T.d__law_pick).mono (by omega)) hr (takes_of rfl rfl rfl rfl) (na_cons (no_o 1) (na_cons (no_e (ne_l (neo_lst (na_cons (no_e ne_int) (na_cons (no_e (ne_call ((n_41 T T.d__law_take).mono (by omega)) hr (takes_of rfl rfl rfl rfl) (na_cons (no_o 1) (na_cons (no_e ne_int) na_nil)) rfl rfl (aCons_len (aCons_len aNil_len)))) (na_cons (no_e (ne_op op_addN no_add (no_e ne_int) (no_e (ne_call ((n_41 T T.d__law_take).mono (by omega)) hr (takes_of rfl rfl rfl rfl) (na_cons (no_o 1) (na_cons (no_e ne_int) na_nil)) rfl rfl (aCons_len (aCons_len aNil_len)))))) (na_cons (no_e (ne_op op_pow no_pow (no_e ne_int) (no_e ne_int))) na_nil))))))) na_nil)) rfl rfl (aCons_len (aCons_len aNil_len))) (ng_name 16 sc_52.nd rfl (by first | exact Or.inl rfl | exact Or.inr rfl)))
    (nss_cons (ns_asg (ne_call ((n_48 T T.d__law_told).mono (by omega)) hr (takes_of rfl rfl rfl rfl) (na_cons (no_e ne_int) (na_cons (no_o 5) (na_cons (no_e (ne_l (neo_list T.f_list (no_o 7)))) (na_cons (no_o 16) na_nil)))) rfl rfl (aCons_len (aCons_len (aCons_len (aCons_len aNil_len))))) (ng_name 17 sc_52.nd rfl (by first | exact Or.inl rfl | exact Or.inr rfl)))
    (nss_cons (ns_if (nt_cmp op_isNN no_is (no_o 17) (no_e ne_none) rfl) (nss_one (ns_if (nt_t (no_e (ne_call ((n_51 T T.d__law_is_in_time).mono (by omega)) hr (takes_of rfl rfl rfl rfl) (na_cons (no_o 5) (na_cons (no_e ne_int) (na_cons (no_o 7) (na_cons (no_o 16) na_nil)))) rfl rfl (aCons_len (aCons_len (aCons_len (aCons_len aNil_len))))))) (nss_one (ns_ret ne_bool)) nss_nil)) (nss_one (ns_if (NW.t (nw_or (nt_not (nt_t (no_e (ne_isi kit_int (no_o 17) T.f_isinstance T.f_int bt_int)))) (nw_or (nt_t (no_e (ne_isi kit_bool (no_o 17) T.f_isinstance T.f_bool bt_bool))) (nw_or (nt_not (nt_chain op_leN op_leN no_le no_le (no_e ne_int) (no_o 17) (no_o 16))) (nw_or1 (nt_not (nt_t (no_e (ne_call ((n_51 T T.d__law_is_in_time).mono (by omega)) hr (takes_of rfl rfl rfl rfl) (na_cons (no_o 5) (na_cons (no_o 17) (na_cons (no_o 7) (na_cons (no_o 16) na_nil)))) rfl rfl (aCons_len (aCons_len (aCons_len (aCons_len aNil_len))))))))))))) (nss_one (ns_ret ne_bool)) (nss_cons (ns_setLc (own := [("one", 19)]) 18 rfl sc_52.nd rfl rfl rfl (ni_v (ne_l (neo_lst (na_cons (no_e (ne_op op_addN no_add (no_o 17) (no_e ne_int))) (na_cons (no_e (ne_op op_addN no_add (no_o 17) (no_e ne_int))) (na_cons (no_e (ne_op op_addN no_add (no_e (ne_op op_addN no_add (no_o 17) (no_e ne_int))) (no_e (ne_call ((n_41 T T.d__law_take).mono (by omega)) hr (takes_of rfl rfl rfl rfl) (na_cons (no_o 1) (na_cons (no_e ne_int) na_nil)) rfl rfl (aCons_len (aCons_len aNil_len)))))) (na_cons (no_e (ne_v 16)) na_nil))))))) (blkOk_by rfl) (fun s_ H_ C_ cl_ fp_ => (ng_name 19 sc_52.nd rfl (by first | exact Or.inl rfl | exact Or.inr rfl))) (fun s_ H_ C_ cl_ fp_ => (pts_oneN (nt_chain (op_ltN hr.units) op_leN no_lt no_le (no_o 17) (no_o 19) (no_o 16)))) (fun s_ H_ C_ cl_ fp_ => (ne_v 19)))
    (nss_one (ns_if (nt_cmp (op_neN hr.units) no_ne (no_e (ne_l (neo_lc (own := [("one", 19)]) rfl sc_52.nd (ni_v (ne_v 18)) (blkOk_by rfl) (fun s_ H_ C_ cl_ fp_ => (ng_name 19 sc_52.nd rfl (by first | exact Or.inl rfl | exact Or.inr rfl))) (fun s_ H_ C_ cl_ fp_ => (pts_oneN (nt_t (no_e (ne_call ((n_51 T T.d__law_is_in_time).mono (by omega)) hr takes0 (na_cons (no_o 5) (na_cons (no_o 19) (na_cons (no_o 7) (na_cons (no_o 16) na_nil)))) rfl rfl (aCons_len (aCons_len (aCons_len (aCons_len aNil_len))))))))) (fun s_ H_ C_ cl_ fp_ => (ne_v 19))))) (no_e (ne_l (neo_lst na_nil))) rfl) (nss_one (ns_ret ne_bool)) nss_nil))))))
    (nss_cons (ns_asg (ne_call ((n_42 T T.d__law_pick).mono (by omega)) hr (takes_of rfl rfl rfl rfl) (na_cons (no_o 1) (na_cons (no_e (ne_l (neo_lst (na_cons (no_e ne_none) (na_cons (no_e (ne_l (neo_lst na_nil))) (na_cons (no_e (ne_disp (nps_cons (ne_dix hr.units (no_o 5) (no_e ne_str)) nps_nil) rfl rfl (by simp) (by decide) rfl)) (na_cons (no_e (ne_disp (nps_cons (ne_op op_addN no_add (no_e (ne_dix hr.units (no_o 5) (no_e ne_str))) (no_e (ne_tup (na_cons (no_e ne_int) na_nil)))) nps_nil) rfl rfl (by simp) (by decide) rfl)) (na_cons (no_e (ne_disp (nps_cons (ne_tup (na_cons (no_e (ne_sl (no_e (ne_ix (no_e (ne_dix hr.units (no_o 5) (no_e ne_str))) (no_e ne_int))) np_none (np_some ne_int))) (na_cons (no_e (ne_tup na_nil)) na_nil))) nps_nil) rfl rfl (by simp) (by decide) rfl)) (na_cons (no_e (ne_disp (nps_cons (ne_tup (na_cons (no_e (ne_ix (no_e (ne_dix hr.units (no_o 5) (no_e ne_str))) (no_e ne_int))) (na_cons (no_e (ne_tup (na_cons (no_e ne_int) (na_cons (no_e ne_int) na_nil)))) na_nil))) nps_nil) rfl rfl (by simp) (by decide) rfl)) (na_cons (no_e (ne_disp (nps_cons ne_none nps_nil) rfl rfl (by simp) (by decide) rfl)) na_nil)))))))))) na_nil)) rfl rfl (aCons_len (aCons_len aNil_len))) (ng_name 20 sc_52.nd rfl (by first | exact Or.inl rfl | exact Or.inr rfl)))
    (nss_cons (ns_asg (ne_call ((n_42 T T.d__law_pick).mono (by omega)) hr (takes_of rfl rfl rfl rfl) (na_cons (no_o 1) (na_cons (no_e (ne_l (neo_lst (na_cons (no_e ne_none) (na_cons (no_e (ne_tup na_nil)) (na_cons (no_e (ne_l (neo_lst (na_cons (no_e (ne_tup (na_cons (no_e ne_int) na_nil))) na_nil)))) (na_cons (no_e (ne_l (neo_lst (na_cons (no_e (ne_tup (na_cons (no_e (ne_neg ne_int)) (na_cons (no_e ne_str) na_nil)))) na_nil)))) (na_cons (no_e (ne_l (neo_lst (na_cons (no_e (ne_tup (na_cons (no_e ne_int) (na_cons (no_e ne_str) na_nil)))) na_nil)))) (na_cons (no_e (ne_l (neo_lst (na_cons (no_e (ne_tup (na_cons (no_e ne_bool) (na_cons (no_e ne_str) na_nil)))) na_nil)))) (na_cons (no_e (ne_l (neo_lst (na_cons (no_e (ne_tup (na_cons (no_e ne_int) (na_cons (no_e ne_str) na_nil)))) na_nil)))) (na_cons (no_e (ne_l (neo_lst (na_cons (no_e (ne_l (neo_lst (na_cons (no_e ne_int) (na_cons (no_e ne_str) na_nil))))) na_nil)))) (na_cons (no_e (ne_op op_mulN no_mul (no_e (ne_l (neo_lst (na_cons (no_e (ne_tup (na_cons (no_e ne_int) (na_cons (no_e ne_str) na_nil)))) na_nil)))) (no_e ne_int))) na_nil)))))))))))) na_nil)) rfl rfl (aCons_len (aCons_len aNil_len))) (ng_name 21 sc_52.nd rfl (by first | exact Or.inl rfl | exact Or.inr rfl)))
    (nss_cons (ns_asg (ne_call ((n_42 T T.d__law_pick).mono (by omega)) hr (takes_of rfl rfl rfl rfl) (na_cons (no_o 1) (na_cons (no_e (ne_l (neo_lst (na_cons (no_e (ne_neg ne_int)) (na_cons (no_e (ne_op op_addN no_add (no_e (ne_op op_pow no_pow (no_e ne_int) (no_e ne_int))) (no_e ne_int))) (na_cons (no_e ne_none) (na_cons (no_e ne_bool) na_nil))))))) na_nil)) rfl rfl (aCons_len (aCons_len aNil_len))) (ng_name 22 sc_52.nd rfl (by first | exact Or.inl rfl | exact Or.inr rfl)))
    (nss_cons (ns_asg (ne_op op_addN no_add (no_e (ne_op op_addN no_add (no_e (ne_l (neo_lc (own := [("which", 24)]) rfl sc_52.nd (ni_rg1 T.f_range (na_cons (no_e ne_int) na_nil)) (blkOk_by rfl) (fun s_ H_ C_ cl_ fp_ => (ng_name 24 sc_52.nd rfl (by first | exact Or.inl rfl | exact Or.inr rfl))) (fun s_ H_ C_ cl_ fp_ => pts_nilN) (fun s_ H_ C_ cl_ fp_ => (ne_call ((n_48 T T.d__law_told).mono (by omega)) hr takes0 (na_cons (no_o 24) (na_cons (no_o 20) (na_cons (no_e ne_int) (na_cons (no_e (ne_l (neo_lst na_nil))) na_nil)))) rfl rfl (aCons_len (aCons_len (aCons_len (aCons_len aNil_len))))))))) (no_e (ne_l (neo_lc (own := [("which", 24)]) rfl sc_52.nd (ni_rg1 T.f_range (na_cons (no_e ne_int) na_nil)) (blkOk_by rfl) (fun s_ H_ C_ cl_ fp_ => (ng_name 24 sc_52.nd rfl (by first | exact Or.inl rfl | exact Or.inr rfl))) (fun s_ H_ C_ cl_ fp_ => pts_nilN) (fun s_ H_ C_ cl_ fp_ => (ne_call ((n_48 T T.d__law_told).mono (by omega)) hr takes0 (na_cons (no_o 24) (na_cons (no_o 5) (na_cons (no_o 22) (na_cons (no_e (ne_l (neo_lst na_nil))) na_nil)))) rfl rfl (aCons_len (aCons_len (aCons_len (aCons_len aNil_len))))))))))) (no_e (ne_l (neo_lc (own := [("which", 24)]) rfl sc_52.nd (ni_rg1 T.f_range (na_cons (no_e ne_int) na_nil)) (blkOk_by rfl) (fun s_ H_ C_ cl_ fp_ => (ng_name 24 sc_52.nd rfl (by first | exact Or.inl rfl | exact Or.inr rfl))) (fun s_ H_ C_ cl_ fp_ => pts_nilN) (fun s_ H_ C_ cl_ fp_ => (ne_call ((n_48 T T.d__law_told).mono (by omega)) hr takes0 (na_cons (no_o 24) (na_cons (no_o 5) (na_cons (no_e ne_int) (na_cons (no_o 21) na_nil)))) rfl rfl (aCons_len (aCons_len (aCons_len (aCons_len aNil_len)))))))))) (ng_name 23 sc_52.nd rfl (by first | exact Or.inl rfl | exact Or.inr rfl)))
    (nss_cons (ns_asg (ne_op op_addN no_add (no_o 23) (no_e (ne_l (neo_lst (na_cons (no_e (ne_call ((n_48 T T.d__law_told).mono (by omega)) hr (takes_of rfl rfl rfl rfl) (na_cons (no_e ne_int) (na_cons (no_o 20) (na_cons (no_e (ne_l (neo_lst na_nil))) (na_cons (no_e ne_int) na_nil)))) rfl rfl (aCons_len (aCons_len (aCons_len (aCons_len aNil_len)))))) (na_cons (no_e (ne_call ((n_48 T T.d__law_told).mono (by omega)) hr (takes_of rfl rfl rfl rfl) (na_cons (no_e ne_int) (na_cons (no_o 5) (na_cons (no_o 21) (na_cons (no_e ne_int) na_nil)))) rfl rfl (aCons_len (aCons_len (aCons_len (aCons_len aNil_len)))))) (na_cons (no_e (ne_call ((n_48 T T.d__law_told).mono (by omega)) hr (takes_of rfl rfl rfl rfl) (na_cons (no_e ne_int) (na_cons (no_o 5) (na_cons (no_e (ne_l (neo_lst na_nil))) (na_cons (no_o 22) na_nil)))) rfl rfl (aCons_len (aCons_len (aCons_len (aCons_len aNil_len)))))) na_nil))))))) (ng_name 23 sc_52.nd rfl (by first | exact Or.inl rfl | exact Or.inr rfl)))
    (nss_cons (ns_asg (ne_l (neo_lst (na_cons (no_e (ne_tup (na_cons (no_e ne_int) (na_cons (no_e ne_str) na_nil)))) (na_cons (no_e (ne_tup (na_cons (no_e ne_int) (na_cons (no_e ne_str) na_nil)))) na_nil)))) (ng_name 25 sc_52.nd rfl (by first | exact Or.inl rfl | exact Or.inr rfl)))
    (nss_cons (ns_asg (ne_op op_addN no_add (no_e (ne_l (neo_lc (own := [("which", 24)]) rfl sc_52.nd (ni_rg1 T.f_range (na_cons (no_e ne_int) na_nil)) (blkOk_by rfl) (fun s_ H_ C_ cl_ fp_ => (ng_name 24 sc_52.nd rfl (by first | exact Or.inl rfl | exact Or.inr rfl))) (fun s_ H_ C_ cl_ fp_ => pts_nilN) (fun s_ H_ C_ cl_ fp_ => (ne_call ((n_48 T T.d__law_told).mono (by omega)) hr takes0 (na_cons (no_o 24) (na_cons (no_o 5) (na_cons (no_e ne_int) (na_cons (no_o 25) na_nil)))) rfl rfl (aCons_len (aCons_len (aCons_len (aCons_len aNil_len))))))))) (no_e (ne_l (neo_lst (na_cons (no_e (ne_call ((n_48 T T.d__law_told).mono (by omega)) hr (takes_of rfl rfl rfl rfl) (na_cons (no_e ne_int) (na_cons (no_o 5) (na_cons (no_o 25) (na_cons (no_e ne_int) na_nil)))) rfl rfl (aCons_len (aCons_len (aCons_len (aCons_len aNil_len)))))) na_nil))))) (ng_name 26 sc_52.nd rfl (by first | exact Or.inl rfl | exact Or.inr rfl)))
    (nss_one (ns_if (NW.t (nw_or (nt_not (nt_t (no_e (ne_call ((n_43 T T.d__law_same 12).mono (by omega)) hr (takes_of rfl rfl rfl rfl) (na_cons (no_o 23) (na_cons (no_e (ne_op op_mulN no_mul (no_e (ne_l (neo_lst (na_cons (no_e (ne_v 2)) na_nil)))) (no_e ne_int))) na_nil)) rfl rfl (aCons_len (aCons_len aNil_len)))))) (nw_or1 (nt_not (nt_t (no_e (ne_call ((n_43 T T.d__law_same 12).mono (by omega)) hr (takes_of rfl rfl rfl rfl) (na_cons (no_o 26) (na_cons (no_e (ne_op op_mulN no_mul (no_e (ne_l (neo_lst (na_cons (no_e (ne_v 3)) na_nil)))) (no_e ne_int))) na_nil)) rfl rfl (aCons_len (aCons_len aNil_len))))))))) (nss_one (ns_ret ne_bool)) nss_nil))))))))))))))))
    (nss_cons (ns_asg (ne_op op_addN no_add (no_e (ne_op op_mulN no_mul (no_e (ne_tup (na_cons (no_e (ne_tup (na_cons (no_e (ne_tup (na_cons (no_e ne_int) (na_cons (no_e ne_int) na_nil)))) na_nil))) na_nil))) (no_e ne_int))) (no_e (ne_tup (na_cons (no_e (ne_tup na_nil)) na_nil)))) (ng_name 27 sc_52.nd rfl (by first | exact Or.inl rfl | exact Or.inr rfl)))
    (nss_cons (ns_asg (ne_disp (nps_cons (ne_tup (na_cons (no_e (ne_v 27)) (na_cons (no_e (ne_tup na_nil)) na_nil))) (nps_cons (ne_tup (na_cons (no_e (ne_v 27)) (na_cons (no_e (ne_tup na_nil)) na_nil))) nps_nil)) rfl rfl (by simp) (by decide) rfl) (ng_name 5 sc_52.nd rfl (by first | exact Or.inl rfl | exact Or.inr rfl)))
    (nss_cons (ns_asg (ne_l (neo_lst (na_cons (no_e (ne_call ((n_35 T T.d_arrival).mono (by omega)) hr (takes_of rfl rfl rfl rfl) (na_cons (no_o 5) (na_cons (no_e ne_int) (na_cons (no_e (ne_l (neo_lst (na_cons (no_e (ne_tup (na_cons (no_e ne_int) (na_cons (no_e ne_str) na_nil)))) (na_cons (no_e (ne_tup (na_cons (no_e ne_int) (na_cons (no_e ne_str) na_nil)))) na_nil))))) na_nil))) rfl rfl (aCons_len (aCons_len (aCons_len aNil_len))))) (na_cons (no_e (ne_call ((n_33 T T.d_passed_at).mono (by omega)) hr (takes_of rfl rfl rfl rfl) (na_cons (no_o 5) (na_cons (no_e ne_int) (na_cons (no_e (ne_l (neo_lst (na_cons (no_e (ne_tup (na_cons (no_e ne_int) (na_cons (no_e ne_str) na_nil)))) (na_cons (no_e (ne_tup (na_cons (no_e ne_int) (na_cons (no_e ne_str) na_nil)))) na_nil))))) na_nil))) rfl rfl (aCons_len (aCons_len (aCons_len aNil_len))))) (na_cons (no_e (ne_call ((n_37 T T.d_latest_start).mono (by omega)) hr (takes_of rfl rfl rfl rfl) (na_cons (no_o 5) (na_cons (no_e (ne_l (neo_lst (na_cons (no_e (ne_tup (na_cons (no_e ne_int) (na_cons (no_e ne_str) na_nil)))) na_nil)))) (na_cons (no_e ne_int) na_nil))) rfl rfl (aCons_len (aCons_len (aCons_len aNil_len))))) na_nil))))) (ng_name 17 sc_52.nd rfl (by first | exact Or.inl rfl | exact Or.inr rfl)))
    (nss_cons (ns_asg (ne_op op_addN no_add (no_o 17) (no_e (ne_l (neo_lst (na_cons (no_e (ne_call ((n_38 T T.d_waiting_in).mono (by omega)) hr (takes_of rfl rfl rfl rfl) (na_cons (no_o 5) (na_cons (no_e ne_int) (na_cons (no_e (ne_l (neo_lst (na_cons (no_e (ne_tup (na_cons (no_e ne_int) (na_cons (no_e ne_str) na_nil)))) na_nil)))) na_nil))) rfl rfl (aCons_len (aCons_len (aCons_len aNil_len))))) (na_cons (no_e (ne_call ((n_35 T T.d_arrival).mono (by omega)) hr (takes_of rfl rfl rfl rfl) (na_cons (no_o 5) (na_cons (no_e ne_int) (na_cons (no_e (ne_l (neo_lst na_nil))) na_nil))) rfl rfl (aCons_len (aCons_len (aCons_len aNil_len))))) (na_cons (no_e (ne_call ((n_37 T T.d_latest_start).mono (by omega)) hr (takes_of rfl rfl rfl rfl) (na_cons (no_o 5) (na_cons (no_e (ne_l (neo_lst na_nil))) (na_cons (no_e ne_int) na_nil))) rfl rfl (aCons_len (aCons_len (aCons_len aNil_len))))) na_nil))))))) (ng_name 17 sc_52.nd rfl (by first | exact Or.inl rfl | exact Or.inr rfl)))
    (nss_one (ns_ret (ne_call ((n_43 T T.d__law_same 12).mono (by omega)) hr (takes_of rfl rfl rfl rfl) (na_cons (no_o 17) (na_cons (no_e (ne_l (neo_lst (na_cons (no_e ne_int) (na_cons (no_e (ne_l (neo_lst (na_cons (no_e ne_int) (na_cons (no_e ne_int) na_nil))))) (na_cons (no_e ne_int) (na_cons (no_e ne_int) (na_cons (no_e ne_int) (na_cons (no_e ne_int) na_nil))))))))) na_nil)) rfl rfl (aCons_len (aCons_len aNil_len))))))))))))
def fd_0 : He.DefD := ⟨("_law_arrival", none), "_law_arrival", "_law_arrival", defArgs (top 50), defBody (top 50), defScope (top 50), [], []⟩
def fd_1 : He.DefD := ⟨("_law_closed", none), "_law_closed", "_law_closed", defArgs (top 46), defBody (top 46), defScope (top 46), [], []⟩
def fd_2 : He.DefD := ⟨("_law_draws", none), "_law_draws", "_law_draws", defArgs (top 40), defBody (top 40), defScope (top 40), [], []⟩
def fd_3 : He.DefD := ⟨("_law_flags", none), "_law_flags", "_law_flags", defArgs (top 44), defBody (top 44), defScope (top 44), [], []⟩
def fd_4 : He.DefD := ⟨("_law_hours", none), "_law_hours", "_law_hours", defArgs (top 45), defBody (top 45), defScope (top 45), [], []⟩
def fd_5 : He.DefD := ⟨("_law_is_in_time", none), "_law_is_in_time", "_law_is_in_time", defArgs (top 51), defBody (top 51), defScope (top 51), [], []⟩
def fd_6 : He.DefD := ⟨("_law_next_open", none), "_law_next_open", "_law_next_open", defArgs (top 47), defBody (top 47), defScope (top 47), [], []⟩
def fd_7 : He.DefD := ⟨("_law_passed", none), "_law_passed", "_law_passed", defArgs (top 49), defBody (top 49), defScope (top 49), [], []⟩
def fd_8 : He.DefD := ⟨("_law_pick", none), "_law_pick", "_law_pick", defArgs (top 42), defBody (top 42), defScope (top 42), [], []⟩
def fd_9 : He.DefD := ⟨("_law_same", none), "_law_same", "_law_same", defArgs (top 43), defBody (top 43), defScope (top 43), [], []⟩
def fd_10 : He.DefD := ⟨("_law_take", none), "_law_take", "_law_take", defArgs (top 41), defBody (top 41), defScope (top 41), [], []⟩
def fd_11 : He.DefD := ⟨("_law_told", none), "_law_told", "_law_told", defArgs (top 48), defBody (top 48), defScope (top 48), [], []⟩
def fd_12 : He.DefD := ⟨("are_ascending", none), "are_ascending", "are_ascending", defArgs (top 10), defBody (top 10), defScope (top 10), [], []⟩
def fd_13 : He.DefD := ⟨("are_closed", none), "are_closed", "are_closed", defArgs (top 25), defBody (top 25), defScope (top 25), [], []⟩
def fd_14 : He.DefD := ⟨("are_hours", none), "are_hours", "are_hours", defArgs (top 24), defBody (top 24), defScope (top 24), [], []⟩
def fd_15 : He.DefD := ⟨("arrival", none), "arrival", "arrival", defArgs (top 35), defBody (top 35), defScope (top 35), [], []⟩
def fd_16 : He.DefD := ⟨("arrival_by", none), "arrival_by", "arrival_by", defArgs (top 34), defBody (top 34), defScope (top 34), [], []⟩
def fd_17 : He.DefD := ⟨("check", none), "check", "check", defArgs (top 12), defBody (top 12), defScope (top 12), [], []⟩
def fd_18 : He.DefD := ⟨("check_there", none), "check_there", "check_there", defArgs (top 13), defBody (top 13), defScope (top 13), [], []⟩
def fd_19 : He.DefD := ⟨("check_trip", none), "check_trip", "check_trip", defArgs (top 31), defBody (top 31), defScope (top 31), [], []⟩
def fd_20 : He.DefD := ⟨("is_day_row", none), "is_day_row", "is_day_row", defArgs (top 23), defBody (top 23), defScope (top 23), [], []⟩
def fd_21 : He.DefD := ⟨("is_in_time", none), "is_in_time", "is_in_time", defArgs (top 36), defBody (top 36), defScope (top 36), [], []⟩
def fd_22 : He.DefD := ⟨("is_integer", none), "is_integer", "is_integer", defArgs (top 8), defBody (top 8), defScope (top 8), [], []⟩
def fd_23 : He.DefD := ⟨("is_leg", none), "is_leg", "is_leg", defArgs (top 30), defBody (top 30), defScope (top 30), [], []⟩
def fd_24 : He.DefD := ⟨("is_minute", none), "is_minute", "is_minute", defArgs (top 26), defBody (top 26), defScope (top 26), [], []⟩
def fd_25 : He.DefD := ⟨("is_name", none), "is_name", "is_name", defArgs (top 11), defBody (top 11), defScope (top 11), [], []⟩
def fd_26 : He.DefD := ⟨("is_pair", none), "is_pair", "is_pair", defArgs (top 22), defBody (top 22), defScope (top 22), [], []⟩
def fd_27 : He.DefD := ⟨("is_post", none), "is_post", "is_post", defArgs (top 29), defBody (top 29), defScope (top 29), [], []⟩
def fd_28 : He.DefD := ⟨("is_within", none), "is_within", "is_within", defArgs (top 9), defBody (top 9), defScope (top 9), [], []⟩
def fd_29 : He.DefD := ⟨("latest_start", none), "latest_start", "latest_start", defArgs (top 37), defBody (top 37), defScope (top 37), [], []⟩
def fd_30 : He.DefD := ⟨("next_by", none), "next_by", "next_by", defArgs (top 28), defBody (top 28), defScope (top 28), [], []⟩
def fd_31 : He.DefD := ⟨("pairs_on", none), "pairs_on", "pairs_on", defArgs (top 27), defBody (top 27), defScope (top 27), [], []⟩
def fd_32 : He.DefD := ⟨("passed_at", none), "passed_at", "passed_at", defArgs (top 33), defBody (top 33), defScope (top 33), [], []⟩
def fd_33 : He.DefD := ⟨("passed_by", none), "passed_by", "passed_by", defArgs (top 32), defBody (top 32), defScope (top 32), [], []⟩
def fd_34 : He.DefD := ⟨("waiting_in", none), "waiting_in", "waiting_in", defArgs (top 38), defBody (top 38), defScope (top 38), [], []⟩
def fd_35 : He.DefD := ⟨("law", none), "law", "law", defArgs (top 52), defBody (top 52), defScope (top 52), [], []⟩
def fn_0 : List He.DefD := [fd_0, fd_1, fd_2, fd_3, fd_4, fd_5, fd_6, fd_7, fd_8, fd_9, fd_10, fd_11, fd_12, fd_13, fd_14, fd_15, fd_16, fd_17, fd_18, fd_19, fd_20, fd_21, fd_22, fd_23, fd_24, fd_25, fd_26, fd_27, fd_28, fd_29]
def fn_1 : List He.DefD := [fd_30, fd_31, fd_32, fd_33, fd_34, fd_35]
def fn : List He.DefD := fn_0 ++ fn_1
def fa_0 : List He.Fa := [.free "abs", .free "all", .free "bool", .free "dict", .free "int", .free "isinstance", .free "len", .free "list", .free "max", .free "min", .free "range", .free "reversed", .free "set", .free "sorted", .free "str", .free "sum", .free "tuple", .free "zip", .glo "_law_arrival", .glo "_law_closed", .glo "_law_draws", .glo "_law_flags", .glo "_law_hours", .glo "_law_is_in_time", .glo "_law_next_open", .glo "_law_passed", .glo "_law_pick", .glo "_law_same", .glo "_law_take", .glo "_law_told"]
def fa_1 : List He.Fa := [.glo "are_ascending", .glo "are_closed", .glo "are_hours", .glo "arrival", .glo "arrival_by", .glo "check", .glo "check_there", .glo "check_trip", .glo "is_day_row", .glo "is_in_time", .glo "is_integer", .glo "is_leg", .glo "is_minute", .glo "is_name", .glo "is_pair", .glo "is_post", .glo "is_within", .glo "latest_start", .glo "next_by", .glo "pairs_on", .glo "passed_at", .glo "passed_by", .glo "waiting_in", .exc "NotRight", .glo "NotRight", .exc "NotThere", .glo "NotThere", .glo "Malformed", .glo "TooLarge", .glo "NoAnswer"]
def fa_2 : List He.Fa := [.exm "NotThere" "BorderError" true, .exm "NotRight" "BorderError" true, .glo "BorderError", .glo "law"]
def fa : List He.Fa := fa_0 ++ fa_1 ++ fa_2
def fb_0 : List Fb := [.dat "DAY" (.int 1440), .dat "LAST_DAY" (.int 100000), .dat "LAST_MINUTE" (.int 10000000), .dat "LONGEST_LEG" (.int 5000), .dat "MOST_CLOSED" (.int 100), .dat "MOST_LEGS" (.int 12), .dat "MOST_SIGNS" (.int 12), .dat "WEEK" (.int 7), .kit "NotThere" "Malformed" false, .kit "NotThere" "TooLarge" false, .kit "NotThere" "NoAnswer" false, .kit "NotThere" "NotThere" true, .kit "NotThere" "NotRight" false, .excC "NotThere", .kit "NotRight" "Malformed" false, .kit "NotRight" "TooLarge" false, .kit "NotRight" "NoAnswer" false, .kit "NotRight" "NotThere" false, .kit "NotRight" "NotRight" true, .excC "NotRight"]
def fb : List Fb := fb_0
def loose_0 : List PySem.Str := ["__name__", "MOST_SIGNS", "BorderError", "NotRight", "NotThere", "NoAnswer", "TooLarge", "Malformed", "is_integer", "is_within", "are_ascending", "is_name", "check", "check_there", "DAY", "WEEK", "LAST_DAY", "LAST_MINUTE", "MOST_CLOSED", "MOST_LEGS", "LONGEST_LEG", "is_pair", "is_day_row", "are_hours", "are_closed", "is_minute", "pairs_on", "next_by", "is_post", "is_leg"]
def loose_1 : List PySem.Str := ["check_trip", "passed_by", "passed_at", "arrival_by", "arrival", "is_in_time", "latest_start", "waiting_in", "_law_draws", "_law_take", "_law_pick", "_law_same", "_law_flags", "_law_hours", "_law_closed", "_law_next_open", "_law_told", "_law_passed", "_law_arrival", "_law_is_in_time"]
def loose : List PySem.Str := loose_0 ++ loose_1
abbrev RR : PySem.W.OpenRow := PySem.W.OpenLaw.row PySem.Challenge.rw_borderward_k12_whole_trips_past_posts
abbrev hk : PySem.W.Hook := hookM 4 fa fn fb
def ob (s : PySem.W.SharedT) : AlM := obsM 4 fa fn fb (HandSHeadRun.getT s)
theorem ob_eq (s : PySem.W.SharedT) : ob s = hk.obs s.abs := obsM_eq (HandSHeadRun.getT_eq s)
theorem run (w : World) : HandSHeadRun.RunEq RR (PySem.W.view RR.prog [52]) hk ob 8000 loose w := by
  intro os
  kernel_rfl
theorem facts {K : PySem.W.Frag} {h : Heap} {mg : Str → Option Value} (X : K.In h) (G : h.Ns mainGlobals mg) (c : He.SaysD fa fn K) (c2 : (fb.all fun f => f.ok K) = true) : Tx K mg :=
  ⟨(He.free_ok X G (c.fact 0 (f := .free "abs") rfl)),
  (He.free_ok X G (c.fact 1 (f := .free "all") rfl)),
  (He.free_ok X G (c.fact 2 (f := .free "bool") rfl)),
  (He.free_ok X G (c.fact 3 (f := .free "dict") rfl)),
  (He.free_ok X G (c.fact 4 (f := .free "int") rfl)),
  (He.free_ok X G (c.fact 5 (f := .free "isinstance") rfl)),
  (He.free_ok X G (c.fact 6 (f := .free "len") rfl)),
  (He.free_ok X G (c.fact 7 (f := .free "list") rfl)),
  (He.free_ok X G (c.fact 8 (f := .free "max") rfl)),
  (He.free_ok X G (c.fact 9 (f := .free "min") rfl)),
  (He.free_ok X G (c.fact 10 (f := .free "range") rfl)),
  (He.free_ok X G (c.fact 11 (f := .free "reversed") rfl)),
  (He.free_ok X G (c.fact 12 (f := .free "set") rfl)),
  (He.free_ok X G (c.fact 13 (f := .free "sorted") rfl)),
  (He.free_ok X G (c.fact 14 (f := .free "str") rfl)),
  (He.free_ok X G (c.fact 15 (f := .free "sum") rfl)),
  (He.free_ok X G (c.fact 16 (f := .free "tuple") rfl)),
  (He.free_ok X G (c.fact 17 (f := .free "zip") rfl)),
  (dat_ok X G (fb_at c2 0 (f := .dat "DAY" (.int 1440)) rfl)),
  (dat_ok X G (fb_at c2 1 (f := .dat "LAST_DAY" (.int 100000)) rfl)),
  (dat_ok X G (fb_at c2 2 (f := .dat "LAST_MINUTE" (.int 10000000)) rfl)),
  (dat_ok X G (fb_at c2 3 (f := .dat "LONGEST_LEG" (.int 5000)) rfl)),
  (dat_ok X G (fb_at c2 4 (f := .dat "MOST_CLOSED" (.int 100)) rfl)),
  (dat_ok X G (fb_at c2 5 (f := .dat "MOST_LEGS" (.int 12)) rfl)),
  (dat_ok X G (fb_at c2 6 (f := .dat "MOST_SIGNS" (.int 12)) rfl)),
  (dat_ok X G (fb_at c2 7 (f := .dat "WEEK" (.int 7)) rfl)),
  (let ⟨fd, F⟩ := c.def_ 0 (d := fd_0) rfl; ⟨_, fd, F, He.glo_ok X G (c.fact 18 (f := .glo "_law_arrival") rfl)⟩),
  (let ⟨fd, F⟩ := c.def_ 1 (d := fd_1) rfl; ⟨_, fd, F, He.glo_ok X G (c.fact 19 (f := .glo "_law_closed") rfl)⟩),
  (let ⟨fd, F⟩ := c.def_ 2 (d := fd_2) rfl; ⟨_, fd, F, He.glo_ok X G (c.fact 20 (f := .glo "_law_draws") rfl)⟩),
  (let ⟨fd, F⟩ := c.def_ 3 (d := fd_3) rfl; ⟨_, fd, F, He.glo_ok X G (c.fact 21 (f := .glo "_law_flags") rfl)⟩),
  (let ⟨fd, F⟩ := c.def_ 4 (d := fd_4) rfl; ⟨_, fd, F, He.glo_ok X G (c.fact 22 (f := .glo "_law_hours") rfl)⟩),
  (let ⟨fd, F⟩ := c.def_ 5 (d := fd_5) rfl; ⟨_, fd, F, He.glo_ok X G (c.fact 23 (f := .glo "_law_is_in_time") rfl)⟩),
  (let ⟨fd, F⟩ := c.def_ 6 (d := fd_6) rfl; ⟨_, fd, F, He.glo_ok X G (c.fact 24 (f := .glo "_law_next_open") rfl)⟩),
  (let ⟨fd, F⟩ := c.def_ 7 (d := fd_7) rfl; ⟨_, fd, F, He.glo_ok X G (c.fact 25 (f := .glo "_law_passed") rfl)⟩),
  (let ⟨fd, F⟩ := c.def_ 8 (d := fd_8) rfl; ⟨_, fd, F, He.glo_ok X G (c.fact 26 (f := .glo "_law_pick") rfl)⟩),
  (let ⟨fd, F⟩ := c.def_ 9 (d := fd_9) rfl; ⟨_, fd, F, He.glo_ok X G (c.fact 27 (f := .glo "_law_same") rfl)⟩),
  (let ⟨fd, F⟩ := c.def_ 10 (d := fd_10) rfl; ⟨_, fd, F, He.glo_ok X G (c.fact 28 (f := .glo "_law_take") rfl)⟩),
  (let ⟨fd, F⟩ := c.def_ 11 (d := fd_11) rfl; ⟨_, fd, F, He.glo_ok X G (c.fact 29 (f := .glo "_law_told") rfl)⟩),
  (let ⟨fd, F⟩ := c.def_ 12 (d := fd_12) rfl; ⟨_, fd, F, He.glo_ok X G (c.fact 30 (f := .glo "are_ascending") rfl)⟩),
  (let ⟨fd, F⟩ := c.def_ 13 (d := fd_13) rfl; ⟨_, fd, F, He.glo_ok X G (c.fact 31 (f := .glo "are_closed") rfl)⟩),
  (let ⟨fd, F⟩ := c.def_ 14 (d := fd_14) rfl; ⟨_, fd, F, He.glo_ok X G (c.fact 32 (f := .glo "are_hours") rfl)⟩),
  (let ⟨fd, F⟩ := c.def_ 15 (d := fd_15) rfl; ⟨_, fd, F, He.glo_ok X G (c.fact 33 (f := .glo "arrival") rfl)⟩),
  (let ⟨fd, F⟩ := c.def_ 16 (d := fd_16) rfl; ⟨_, fd, F, He.glo_ok X G (c.fact 34 (f := .glo "arrival_by") rfl)⟩),
  (let ⟨fd, F⟩ := c.def_ 17 (d := fd_17) rfl; ⟨_, fd, F, He.glo_ok X G (c.fact 35 (f := .glo "check") rfl)⟩),
  (let ⟨fd, F⟩ := c.def_ 18 (d := fd_18) rfl; ⟨_, fd, F, He.glo_ok X G (c.fact 36 (f := .glo "check_there") rfl)⟩),
  (let ⟨fd, F⟩ := c.def_ 19 (d := fd_19) rfl; ⟨_, fd, F, He.glo_ok X G (c.fact 37 (f := .glo "check_trip") rfl)⟩),
  (let ⟨fd, F⟩ := c.def_ 20 (d := fd_20) rfl; ⟨_, fd, F, He.glo_ok X G (c.fact 38 (f := .glo "is_day_row") rfl)⟩),
  (let ⟨fd, F⟩ := c.def_ 21 (d := fd_21) rfl; ⟨_, fd, F, He.glo_ok X G (c.fact 39 (f := .glo "is_in_time") rfl)⟩),
  (let ⟨fd, F⟩ := c.def_ 22 (d := fd_22) rfl; ⟨_, fd, F, He.glo_ok X G (c.fact 40 (f := .glo "is_integer") rfl)⟩),
  (let ⟨fd, F⟩ := c.def_ 23 (d := fd_23) rfl; ⟨_, fd, F, He.glo_ok X G (c.fact 41 (f := .glo "is_leg") rfl)⟩),
  (let ⟨fd, F⟩ := c.def_ 24 (d := fd_24) rfl; ⟨_, fd, F, He.glo_ok X G (c.fact 42 (f := .glo "is_minute") rfl)⟩),
  (let ⟨fd, F⟩ := c.def_ 25 (d := fd_25) rfl; ⟨_, fd, F, He.glo_ok X G (c.fact 43 (f := .glo "is_name") rfl)⟩),
  (let ⟨fd, F⟩ := c.def_ 26 (d := fd_26) rfl; ⟨_, fd, F, He.glo_ok X G (c.fact 44 (f := .glo "is_pair") rfl)⟩),
  (let ⟨fd, F⟩ := c.def_ 27 (d := fd_27) rfl; ⟨_, fd, F, He.glo_ok X G (c.fact 45 (f := .glo "is_post") rfl)⟩),
  (let ⟨fd, F⟩ := c.def_ 28 (d := fd_28) rfl; ⟨_, fd, F, He.glo_ok X G (c.fact 46 (f := .glo "is_within") rfl)⟩),
  (let ⟨fd, F⟩ := c.def_ 29 (d := fd_29) rfl; ⟨_, fd, F, He.glo_ok X G (c.fact 47 (f := .glo "latest_start") rfl)⟩),
  (let ⟨fd, F⟩ := c.def_ 30 (d := fd_30) rfl; ⟨_, fd, F, He.glo_ok X G (c.fact 48 (f := .glo "next_by") rfl)⟩),
  (let ⟨fd, F⟩ := c.def_ 31 (d := fd_31) rfl; ⟨_, fd, F, He.glo_ok X G (c.fact 49 (f := .glo "pairs_on") rfl)⟩),
  (let ⟨fd, F⟩ := c.def_ 32 (d := fd_32) rfl; ⟨_, fd, F, He.glo_ok X G (c.fact 50 (f := .glo "passed_at") rfl)⟩),
  (let ⟨fd, F⟩ := c.def_ 33 (d := fd_33) rfl; ⟨_, fd, F, He.glo_ok X G (c.fact 51 (f := .glo "passed_by") rfl)⟩),
  (let ⟨fd, F⟩ := c.def_ 34 (d := fd_34) rfl; ⟨_, fd, F, He.glo_ok X G (c.fact 52 (f := .glo "waiting_in") rfl)⟩),
  (excF_ok X G (c.fact 53 (f := .exc "NotRight") rfl) (c.fact 54 (f := .glo "NotRight") rfl)),
  (excF_ok X G (c.fact 55 (f := .exc "NotThere") rfl) (c.fact 56 (f := .glo "NotThere") rfl)),
  ⟨_, (He.glo_ok X G (c.fact 62 (f := .glo "BorderError") rfl)), (fall_cons ⟨_, ⟨(He.glo_ok X G (c.fact 54 (f := .glo "NotRight") rfl)), excC_ok (fb_at c2 19 (f := .excC "NotRight") rfl), (fall_cons ⟨_, (He.glo_ok X G (c.fact 54 (f := .glo "NotRight") rfl)), kit_ok (fb_at c2 18 (f := .kit "NotRight" "NotRight" true) rfl)⟩ (fall_cons ⟨_, (He.glo_ok X G (c.fact 56 (f := .glo "NotThere") rfl)), kit_ok (fb_at c2 17 (f := .kit "NotRight" "NotThere" false) rfl)⟩ (fall_cons ⟨_, (He.glo_ok X G (c.fact 59 (f := .glo "NoAnswer") rfl)), kit_ok (fb_at c2 16 (f := .kit "NotRight" "NoAnswer" false) rfl)⟩ (fall_cons ⟨_, (He.glo_ok X G (c.fact 58 (f := .glo "TooLarge") rfl)), kit_ok (fb_at c2 15 (f := .kit "NotRight" "TooLarge" false) rfl)⟩ (fall_cons ⟨_, (He.glo_ok X G (c.fact 57 (f := .glo "Malformed") rfl)), kit_ok (fb_at c2 14 (f := .kit "NotRight" "Malformed" false) rfl)⟩ fall_nil)))))⟩, He.exm_ok (c.fact 61 (f := .exm "NotRight" "BorderError" true) rfl)⟩ (fall_cons ⟨_, ⟨(He.glo_ok X G (c.fact 56 (f := .glo "NotThere") rfl)), excC_ok (fb_at c2 13 (f := .excC "NotThere") rfl), (fall_cons ⟨_, (He.glo_ok X G (c.fact 54 (f := .glo "NotRight") rfl)), kit_ok (fb_at c2 12 (f := .kit "NotThere" "NotRight" false) rfl)⟩ (fall_cons ⟨_, (He.glo_ok X G (c.fact 56 (f := .glo "NotThere") rfl)), kit_ok (fb_at c2 11 (f := .kit "NotThere" "NotThere" true) rfl)⟩ (fall_cons ⟨_, (He.glo_ok X G (c.fact 59 (f := .glo "NoAnswer") rfl)), kit_ok (fb_at c2 10 (f := .kit "NotThere" "NoAnswer" false) rfl)⟩ (fall_cons ⟨_, (He.glo_ok X G (c.fact 58 (f := .glo "TooLarge") rfl)), kit_ok (fb_at c2 9 (f := .kit "NotThere" "TooLarge" false) rfl)⟩ (fall_cons ⟨_, (He.glo_ok X G (c.fact 57 (f := .glo "Malformed") rfl)), kit_ok (fb_at c2 8 (f := .kit "NotThere" "Malformed" false) rfl)⟩ fall_nil)))))⟩, He.exm_ok (c.fact 60 (f := .exm "NotThere" "BorderError" true) rfl)⟩ fall_nil))⟩⟩
end Wlaw_k12
end NL
end L2
/-! M1: what plain texts do, without the machine. -/
namespace L2
namespace NL
open PySem PySem.Spec PyProof.Rows
section
variable {α β : Type}
/-- a mark that hangs on what simp is to leave alone -/
structure Tg {α : Sort u} (a : α) : Type where mk ::
structure Tg4 {α β γ δ : Sort u} (a : α) (b : β) (c : γ) (d : δ) : Type where mk ::
def Wp (r : R α) (P : α → NSt → Prop) (_ : Tg P := .mk) : Prop := match r with
  | .ok a n => P a n
  | _ => False
theorem wp_ext {r : R α} {P Q : α → NSt → Prop} (h : ∀ a n, P a n = Q a n) : Wp r P = Wp r Q := by
  rw [show P = Q from funext fun a => funext fun n => h a n]
def WpS (r : NR) (Nx : NSt → Prop) (Rt : PyData → NSt → Prop) (Bk Ct : NSt → Prop) (_ : Tg4 Nx Rt Bk Ct := .mk) : Prop := match r with
  | .nx n => Nx n
  | .ret d n => Rt d n
  | .brk n => Bk n
  | .ct n => Ct n
  | _ => False
@[simp ↓] theorem wp_ok {a : α} {n : NSt} {P : α → NSt → Prop} : Wp (.ok a n) P = P a n := id rfl
@[simp ↓] theorem wp_bad {P : α → NSt → Prop} : Wp (.bad) P = False := id rfl
@[simp ↓] theorem wp_err {x : NX} {n : NSt} {P : α → NSt → Prop} : Wp (.err x n) P = False := id rfl
@[simp ↓] theorem wp_bind {r : R α} {k : α → NSt → R β} {P : β → NSt → Prop} : Wp (r.bind k) P = Wp r fun a n => Wp (k a n) P := by cases r <;> rfl
@[simp ↓] theorem wps_st {r : R α} {k : α → NSt → NR} {Nx : NSt → Prop} {Rt : PyData → NSt → Prop} {Bk Ct : NSt → Prop} : WpS (r.st k) Nx Rt Bk Ct = Wp r fun a n => WpS (k a n) Nx Rt Bk Ct := by cases r <;> rfl
@[simp ↓] theorem wps_nx {n : NSt} {Nx : NSt → Prop} {Rt : PyData → NSt → Prop} {Bk Ct : NSt → Prop} : WpS (.nx n) Nx Rt Bk Ct = Nx n := id rfl
@[simp ↓] theorem wps_ret {d : PyData} {n : NSt} {Nx : NSt → Prop} {Rt : PyData → NSt → Prop} {Bk Ct : NSt → Prop} : WpS (.ret d n) Nx Rt Bk Ct = Rt d n := id rfl
@[simp ↓] theorem wps_brk {n : NSt} {Nx : NSt → Prop} {Rt : PyData → NSt → Prop} {Bk Ct : NSt → Prop} : WpS (.brk n) Nx Rt Bk Ct = Bk n := id rfl
@[simp ↓] theorem wps_ct {n : NSt} {Nx : NSt → Prop} {Rt : PyData → NSt → Prop} {Bk Ct : NSt → Prop} : WpS (.ct n) Nx Rt Bk Ct = Ct n := id rfl
@[simp ↓] theorem wps_bad {Nx : NSt → Prop} {Rt : PyData → NSt → Prop} {Bk Ct : NSt → Prop} : WpS .bad Nx Rt Bk Ct = False := id rfl
@[simp ↓] theorem wps_seq {f g : NStm} {n : NSt} {Nx : NSt → Prop} {Rt : PyData → NSt → Prop} {Bk Ct : NSt → Prop} : WpS (sSeq f g n) Nx Rt Bk Ct = WpS (f n) (fun n' => WpS (g n') Nx Rt Bk Ct) Rt Bk Ct := by
  unfold sSeq
  cases f n <;> rfl
theorem wps_sq {f g : NStm} {n : NSt} {Nx : NSt → Prop} {Rt : PyData → NSt → Prop} {Bk Ct : NSt → Prop} (h : WpS (f n) (fun n' => WpS (g n') Nx Rt Bk Ct) Rt Bk Ct) : WpS (sSeq f g n) Nx Rt Bk Ct := by
  rw [wps_seq]
  exact h
@[simp ↓] theorem wps_nil {n : NSt} {Nx : NSt → Prop} {Rt : PyData → NSt → Prop} {Bk Ct : NSt → Prop} : WpS (sNil n) Nx Rt Bk Ct = Nx n := id rfl
theorem wps_if {t : NSt → R Bool} {f g : NStm} {n : NSt} {Nx : NSt → Prop} {Rt : PyData → NSt → Prop} {Bk Ct : NSt → Prop} : WpS (sIf t f g n) Nx Rt Bk Ct = Wp (t n) fun b n' => WpS (if b = true then f n' else g n') Nx Rt Bk Ct := by
  unfold sIf
  rw [wps_st]
theorem wps_ite {c : Prop} [Decidable c] {a b : NR} {Nx : NSt → Prop} {Rt : PyData → NSt → Prop} {Bk Ct : NSt → Prop} : WpS (if c then a else b) Nx Rt Bk Ct = ((c → WpS a Nx Rt Bk Ct) ∧ (¬ c → WpS b Nx Rt Bk Ct)) := by
  by_cases h : c
  · simp -dsimp [h]
  · simp -dsimp [h]
theorem wp_ite {c : Prop} [Decidable c] {a b : R α} {P : α → NSt → Prop} : Wp (if c then a else b) P = ((c → Wp a P) ∧ (¬ c → Wp b P)) := by
  by_cases h : c
  · simp -dsimp [h]
  · simp -dsimp [h]
theorem wp_run {N : Nat} {body : NStm} {a : NSt} {P : PyData → NSt → Prop} : Wp (runD N body a) P = WpS (body (a ++ List.replicate (N - a.length) none)) (fun n' => P .none (outs a n')) (fun d n' => P d (outs a n')) (fun _ => False) (fun _ => False) := by
  unfold runD
  cases body (a ++ List.replicate (N - a.length) none) <;> rfl
theorem wp_of {r : R α} {a : α} {n : NSt} {P : α → NSt → Prop} (e : r = .ok a n) (h : P a n) : Wp r P := by rw [e]; exact h
theorem wp_mono {r : R α} {P Q : α → NSt → Prop} (h : Wp r P) (hq : ∀ a n, P a n → Q a n) : Wp r Q := by
  cases r with
  | ok a n => exact hq a n h
  | _ => exact h
theorem wp_eq {r : R α} {a : α} {n : NSt} (h : Wp r fun b m => b = a ∧ m = n) : r = .ok a n := by
  cases r with
  | ok b m => obtain ⟨rfl, rfl⟩ := h; rfl
  | _ => exact h.elim
theorem wps_mono {r : NR} {Nx Nx' : NSt → Prop} {Rt Rt' : PyData → NSt → Prop} {Bk Bk' Ct Ct' : NSt → Prop} (h : WpS r Nx Rt Bk Ct) (h1 : ∀ n, Nx n → Nx' n) (h2 : ∀ d n, Rt d n → Rt' d n) (h3 : ∀ n, Bk n → Bk' n) (h4 : ∀ n, Ct n → Ct' n) : WpS r Nx' Rt' Bk' Ct' := by
  cases r with
  | nx n => exact h1 n h
  | ret d n => exact h2 d n h
  | brk n => exact h3 n h
  | ct n => exact h4 n h
  | _ => exact h
/-- a walk over a row -/
theorem wps_forL {g : PyData → NSt → Option NSt} {body : NStm} {Nx : NSt → Prop} {Rt : PyData → NSt → Prop} {Bk Ct : NSt → Prop} (I : List PyData → NSt → Prop)
    (step : ∀ d ds n, I (d :: ds) n → ∃ n1, g d n = some n1 ∧ WpS (body n1) (I ds) Rt Nx (I ds)) (fin : ∀ n, I [] n → Nx n) : ∀ (ds : List PyData) (n : NSt), I ds n → WpS (sForL g body ds n) Nx Rt Bk Ct
  | [], n, h => by
    unfold sForL
    exact fin n h
  | d :: ds, n, h => by
    obtain ⟨n1, e, w⟩ := step d ds n h
    unfold sForL
    rw [e]
    show WpS (match body n1 with
      | .nx n2 => sForL g body ds n2
      | .ct n2 => sForL g body ds n2
      | .brk n2 => .nx n2
      | r => r) Nx Rt Bk Ct
    cases q : body n1 with
    | nx n2 => rw [q] at w; exact wps_forL I step fin ds n2 w
    | ct n2 => rw [q] at w; exact wps_forL I step fin ds n2 w
    | brk n2 => rw [q] at w; exact w
    | ret d n2 => rw [q] at w; exact w
    | err x n2 => rw [q] at w; exact w
    | bad => rw [q] at w; exact w
theorem wps_for {fi : NSt → R (List PyData)} {g : PyData → NSt → Option NSt} {body : NStm} {n : NSt} {Nx : NSt → Prop} {Rt : PyData → NSt → Prop} {Bk Ct : NSt → Prop} : WpS (sFor fi g body n) Nx Rt Bk Ct = Wp (fi n) fun ds n1 => WpS (sForL g body ds n1) Nx Rt Bk Ct := by
  unfold sFor
  rw [wps_st]
/-- a comprehension's walk -/
theorem wp_lcL {g : PyData → NSt → Option NSt} {t : NSt → R Bool} {f : NExp} {vs : List Nat} {P : List PyData → NSt → Prop} (I : List PyData → List PyData → NSt → Prop)
    (step : ∀ d ds acc n, I (d :: ds) acc n → ∃ n1, g d n = some n1 ∧ Wp (t n1) fun b n2 => if b = true then Wp (f n2) fun y n3 => acc.length < sizeLine ∧ I ds (acc ++ [y]) (wipeN n3 vs) else I ds acc (wipeN n2 vs)) (fin : ∀ acc n, I [] acc n → P acc n) :
    ∀ (ds acc : List PyData) (n : NSt), I ds acc n → Wp (nLcL g t f vs ds acc n) P
  | [], acc, n, h => by
    unfold nLcL
    exact fin acc n h
  | d :: ds, acc, n, h => by
    obtain ⟨n1, e, w⟩ := step d ds acc n h
    unfold nLcL
    rw [e]
    dsimp only
    rw [wp_bind]
    refine wp_mono w fun b n2 h2 => ?_
    split at h2
    · rename_i hb
      rw [if_pos hb, wp_bind]
      refine wp_mono h2 fun y n3 h3 => ?_
      rw [if_pos h3.1]
      exact wp_lcL I step fin ds _ _ h3.2
    · rename_i hb
      rw [if_neg hb]
      exact wp_lcL I step fin ds _ _ h2
theorem wp_lc {fi : NSt → R (List PyData)} {g : PyData → NSt → Option NSt} {t : NSt → R Bool} {f : NExp} {vs : List Nat} {n : NSt} {P : List PyData → NSt → Prop} :
    Wp (nLc fi g t f vs n) P = Wp (fi n) fun ds n1 => noHeld n1 vs = true ∧ Wp (nLcL g t f vs ds [] (wipeN n1 vs)) fun acc n2 => P acc (restoreN n2 n1 vs) := by
  unfold nLc
  rw [wp_bind]
  refine wp_ext fun ds n1 => ?_
  by_cases h : noHeld n1 vs = true
  · rw [if_pos h]
    cases nLcL g t f vs ds [] (wipeN n1 vs) <;> simp -dsimp [h, Wp]
  · rw [if_neg h]
    simp -dsimp [h]
/-- one that changes nothing: filtered, mapped -/
theorem lcL_pure {g : PyData → NSt → Option NSt} {t : NSt → R Bool} {f : NExp} {vs : List Nat} {n : NSt} (p : PyData → Bool) (F : PyData → PyData) : ∀ (ds acc : List PyData),
    (∀ d ∈ ds, ∃ n1, g d n = some n1 ∧ t n1 = .ok (p d) n1 ∧ (p d = true → f n1 = .ok (F d) n1) ∧ wipeN n1 vs = n) → acc.length + ds.length ≤ sizeLine → nLcL g t f vs ds acc n = .ok (acc ++ (ds.filter p).map F) n
  | [], acc, _, _ => by
    unfold nLcL
    simp -dsimp
  | d :: ds, acc, h, hl => by
    obtain ⟨n1, e, et, ef, ew⟩ := h d List.mem_cons_self
    have hl : acc.length + (ds.length + 1) ≤ sizeLine := hl
    unfold nLcL
    rw [e]
    dsimp only
    rw [et]
    show (if p d = true then (f n1).bind fun y n3 => if acc.length < sizeLine then nLcL g t f vs ds (acc ++ [y]) (wipeN n3 vs) else .bad else nLcL g t f vs ds acc (wipeN n1 vs)) = _
    by_cases hp : p d = true
    · rw [if_pos hp, ef hp]
      show (if acc.length < sizeLine then nLcL g t f vs ds (acc ++ [F d]) (wipeN n1 vs) else .bad) = _
      rw [if_pos (by omega), ew, lcL_pure p F ds (acc ++ [F d]) (fun x hx => h x (List.mem_cons_of_mem _ hx)) (by simp -dsimp; omega), List.filter_cons_of_pos hp]
      simp -dsimp
    · rw [if_neg hp, ew, lcL_pure p F ds acc (fun x hx => h x (List.mem_cons_of_mem _ hx)) (by omega), List.filter_cons_of_neg hp]
theorem lc_pure {fi : NSt → R (List PyData)} {g : PyData → NSt → Option NSt} {t : NSt → R Bool} {f : NExp} {vs : List Nat} {n : NSt} {ds : List PyData} (p : PyData → Bool) (F : PyData → PyData) (hi : fi n = .ok ds n) (hn : noHeld n vs = true)
    (h : ∀ d ∈ ds, ∃ n1, g d (wipeN n vs) = some n1 ∧ t n1 = .ok (p d) n1 ∧ (p d = true → f n1 = .ok (F d) n1) ∧ wipeN n1 vs = wipeN n vs) (hl : ds.length ≤ sizeLine) (hr : restoreN (wipeN n vs) n vs = n) : nLc fi g t f vs n = .ok ((ds.filter p).map F) n := by
  unfold nLc
  rw [hi]
  show (if noHeld n vs = true then (match nLcL g t f vs ds [] (wipeN n vs) with
    | .ok acc n2 => R.ok acc (restoreN n2 n vs)
    | _ => R.bad) else R.bad) = _
  rw [if_pos hn, lcL_pure p F ds [] h (by simpa using hl)]
  simp -dsimp [hr]
end
/-! ### what guards a continuation: simp -dsimp goes into it when its head is known -/
def onO {α : Type} (o : Option α) (k : α → Prop) (_ : Tg k := .mk) : Prop := match o with
  | some z => k z
  | none => False
def onB (d : PyData) (k : Bool → Prop) (_ : Tg k := .mk) : Prop := match d with
  | .bool b => k b
  | _ => False
def onI (d : PyData) (k : Int → Prop) (_ : Tg k := .mk) : Prop := match d with
  | .int b => k b
  | _ => False
def onL (d : PyData) (k : List PyData → Prop) (_ : Tg k := .mk) : Prop := match d with
  | .list b => k b
  | _ => False
def onSl (o : Option (Option Sl)) (kv : PyData → Prop) (ko kl ks : List PyData → Prop) (_ : Tg4 kv ko kl ks := .mk) : Prop := match o with
  | some (some (.val d)) => kv d
  | some (some (.own xs)) => ko xs
  | some (some (.lent xs)) => kl xs
  | some (some (.scr xs)) => ks xs
  | _ => False
def Br (c : Bool) (a b : Prop) (_ : Tg a := .mk) (_ : Tg b := .mk) : Prop := (c = true → a) ∧ (c = false → b)
theorem onO_congr {α : Type} {o o' : Option α} {k : α → Prop} (h : o = o') : onO o k = onO o' k := by rw [h]
theorem onB_congr {o o' : PyData} {k : Bool → Prop} (h : o = o') : onB o k = onB o' k := by rw [h]
theorem onI_congr {o o' : PyData} {k : Int → Prop} (h : o = o') : onI o k = onI o' k := by rw [h]
theorem onL_congr {o o' : PyData} {k : List PyData → Prop} (h : o = o') : onL o k = onL o' k := by rw [h]
theorem onSl_congr {o o' : Option (Option Sl)} {kv : PyData → Prop} {ko kl ks : List PyData → Prop} (h : o = o') : onSl o kv ko kl ks = onSl o' kv ko kl ks := by rw [h]
theorem Br_congr {c c' : Bool} {a b : Prop} (h : c = c') : Br c a b = Br c' a b := by rw [h]
@[simp] theorem onO_some {α : Type} {z : α} {k : α → Prop} : onO (some z) k = k z := id rfl
@[simp] theorem onO_none {α : Type} {k : α → Prop} : onO none k = False := id rfl
@[simp] theorem onO_ite {α : Type} {c : Prop} [Decidable c] {z : α} {k : α → Prop} : onO (if c then some z else none) k = (c ∧ k z) := by
  by_cases h : c <;> simp -dsimp [h]
@[simp] theorem onO_ite' {α : Type} {c : Prop} [Decidable c] {z : α} {k : α → Prop} : onO (if c then none else some z) k = (¬ c ∧ k z) := by
  by_cases h : c <;> simp -dsimp [h]
@[simp] theorem onB_bool {b : Bool} {k : Bool → Prop} : onB (.bool b) k = k b := id rfl
@[simp] theorem onI_int {b : Int} {k : Int → Prop} : onI (.int b) k = k b := id rfl
@[simp] theorem onL_list {b : List PyData} {k : List PyData → Prop} : onL (.list b) k = k b := id rfl
@[simp] theorem onSl_val {d : PyData} {kv : PyData → Prop} {ko kl ks : List PyData → Prop} : onSl (some (some (.val d))) kv ko kl ks = kv d := id rfl
@[simp] theorem onSl_own {d : List PyData} {kv : PyData → Prop} {ko kl ks : List PyData → Prop} : onSl (some (some (.own d))) kv ko kl ks = ko d := id rfl
@[simp] theorem onSl_lent {d : List PyData} {kv : PyData → Prop} {ko kl ks : List PyData → Prop} : onSl (some (some (.lent d))) kv ko kl ks = kl d := id rfl
@[simp] theorem onSl_scr {d : List PyData} {kv : PyData → Prop} {ko kl ks : List PyData → Prop} : onSl (some (some (.scr d))) kv ko kl ks = ks d := id rfl
@[simp] theorem Br_true {a b : Prop} : Br true a b = a := by simp -dsimp [Br]
@[simp] theorem Br_false {a b : Prop} : Br false a b = b := by simp -dsimp [Br]
theorem Br_mk {c : Bool} {a b : Prop} (h1 : c = true → a) (h2 : c = false → b) : Br c a b := ⟨h1, h2⟩
theorem wp_congr {α : Type} {r r' : R α} {P : α → NSt → Prop} (h : r = r') : Wp r P = Wp r' P := by rw [h]
theorem wps_congr {r r' : NR} {Nx : NSt → Prop} {Rt : PyData → NSt → Prop} {Bk Ct : NSt → Prop} (h : r = r') : WpS r Nx Rt Bk Ct = WpS r' Nx Rt Bk Ct := by rw [h]
/-! ### the joints -/
section
variable {α : Type} {n : NSt} {i j : Nat} {P : PyData → NSt → Prop} {Pa : AV → NSt → Prop} {Pb : Bool → NSt → Prop} {Pl : List AV → NSt → Prop} {Pd : List PyData → NSt → Prop} {f g : NExp} {p q u : Opd} {d : PyData} {t : NSt → R Bool}
  {Nx : NSt → Prop} {Rt : PyData → NSt → Prop} {Bk Ct : NSt → Prop} {fs : NSt → R (List AV)}
def isV (n : NSt) (i : Nat) (P : PyData → Prop) : Prop := match n[i]? with
  | some (some (.val d)) => P d
  | _ => False
@[simp ↓] theorem wp_nV : Wp (nV i n) P = onSl n[i]? (fun d => P d n) (fun _ => False) (fun _ => False) (fun _ => False) := by
  unfold nV
  generalize n[i]? = o
  rcases o with _ | _ | sl <;> first | rfl | (cases sl <;> rfl)
@[simp ↓] theorem wp_nF : Wp (nF i n) P = onSl n[i]? (fun d => P d n) (fun xs => P (.list xs) (n.set i (some (.val (.list xs))))) (fun _ => False) (fun _ => False) := by
  unfold nF
  generalize n[i]? = o
  rcases o with _ | _ | sl <;> first | rfl | (cases sl <;> rfl)
@[simp ↓] theorem wp_nC : Wp (nC d n) P = P d n := id rfl
@[simp ↓] theorem wp_oe : Wp (Opd.run (.e f) n) Pa = Wp (f n) fun d n' => Pa (.v d) n' := by
  show Wp ((f n).bind _) Pa = _
  rw [wp_bind]
  rfl
@[simp ↓] theorem wp_oo : Wp (Opd.run (.o i) n) Pa = onSl n[i]? (fun d => Pa (.v d) n) (fun _ => Pa (.o i) n) (fun _ => Pa (.o i) n) (fun _ => Pa (.o i) n) := by
  unfold Opd.run
  dsimp only
  generalize n[i]? = o
  rcases o with _ | _ | sl <;> first | rfl | (cases sl <;> rfl)
@[simp] theorem get_v : AV.get (.v d) n = some d := id rfl
@[simp] theorem get_o : AV.get (.o i) n = match n[i]? with
  | some (some sl) => sl.list?.map PyData.list
  | _ => none := id rfl
@[simp] theorem list?_own {xs : List PyData} : Sl.list? (.own xs) = some xs := id rfl
@[simp] theorem list?_lent {xs : List PyData} : Sl.list? (.lent xs) = some xs := id rfl
@[simp] theorem put_own {xs ys : List PyData} : Sl.put (.own xs) ys = .own ys := id rfl
@[simp] theorem put_lent {xs ys : List PyData} : Sl.put (.lent xs) ys = .lent ys := id rfl
theorem liftO_some {z : α} : liftO (some z) n = .ok z n := rfl
@[simp ↓] theorem wp_lift {o : Option α} {P : α → NSt → Prop} : Wp (liftO o n) P = onO o fun z => P z n := by
  cases o <;> rfl
@[simp ↓] theorem wp_op2 {o : PyData → PyData → Option PyData} : Wp (nOp2 o p q n) P = Wp (p.run n) fun a n1 => Wp (q.run n1) fun b n2 => onO (a.get n2) fun x => onO (b.get n2) fun y => onO (o x y) fun z => P z n2 := by
  unfold nOp2
  rw [wp_bind]
  refine wp_ext fun a n1 => ?_
  rw [wp_bind]
  refine wp_ext fun b n2 => ?_
  cases ea : a.get n2 <;> cases eb : b.get n2 <;> simp -dsimp
@[simp ↓] theorem wp_aNil : Wp (aNil n) Pl = Pl [] n := id rfl
@[simp ↓] theorem wp_aCons : Wp (aCons p fs n) Pl = Wp (p.run n) fun a n1 => Wp (fs n1) fun as n2 => Pl (a :: as) n2 := by
  unfold aCons
  rw [wp_bind]
  refine wp_ext fun a n1 => ?_
  rw [wp_bind]
  rfl
@[simp] theorem getAll_nil : getAll n [] = some [] := id rfl
@[simp] theorem getAll_cons {a : AV} {as : List AV} : getAll n (a :: as) = match a.get n, getAll n as with
  | some d, some ds => some (d :: ds)
  | _, _ => none := id rfl
@[simp] theorem plains_nil : nTup.plains [] = some [] := id rfl
@[simp] theorem plains_cons {as : List AV} : nTup.plains (.v d :: as) = (nTup.plains as).map (d :: ·) := id rfl
@[simp ↓] theorem wp_cb {o : List PyData → Option PyData} : Wp (nCB o fs n) P = Wp (fs n) fun as n1 => onO (getAll n1 as) fun ds => onO (o ds) fun z => P z n1 := by
  unfold nCB
  rw [wp_bind]
  refine wp_ext fun as n1 => ?_
  cases e : getAll n1 as <;> simp -dsimp
@[simp ↓] theorem wp_tup : Wp (nTup fs n) P = Wp (fs n) fun as n1 => onO (nTup.plains as) fun ds => ds.length ≤ sizeLine ∧ P (.tuple ds) n1 := by
  unfold nTup
  rw [wp_bind]
  refine wp_ext fun as n1 => ?_
  cases e : nTup.plains as with
  | none => simp -dsimp
  | some ds => by_cases h : ds.length ≤ sizeLine <;> simp -dsimp [h]
@[simp ↓] theorem wp_lstO : Wp (nLstO fs n) Pd = Wp (fs n) fun as n1 => onO (nTup.plains as) fun ds => ds.length ≤ sizeLine ∧ Pd ds n1 := by
  unfold nLstO
  rw [wp_bind]
  refine wp_ext fun as n1 => ?_
  cases e : nTup.plains as with
  | none => simp -dsimp
  | some ds => by_cases h : ds.length ≤ sizeLine <;> simp -dsimp [h]
@[simp ↓] theorem wp_nL {fo : NSt → R (List PyData)} : Wp (nL fo n) P = Wp (fo n) fun xs n' => P (.list xs) n' := by
  unfold nL
  rw [wp_bind]
  rfl
@[simp ↓] theorem wp_asB : Wp (asB f n) Pb = Wp (f n) fun d n' => onB d fun b => Pb b n' := by
  unfold asB
  rw [wp_bind]
  refine wp_ext fun d n' => ?_
  cases d <;> rfl
@[simp ↓] theorem wp_asT : Wp (asT p n) Pb = Wp (p.run n) fun a n' => onO (a.get n') fun d => onO (truthOf d) fun b => Pb b n' := by
  unfold asT
  rw [wp_bind]
  refine wp_ext fun a n' => ?_
  cases e : a.get n' <;> simp -dsimp
@[simp ↓] theorem wp_tAnd {s t : NSt → R Bool} : Wp (tAnd' s t n) Pb = Wp (s n) fun b n' => Br b (Wp (t n') Pb) (Pb false n') := by
  unfold tAnd'
  rw [wp_bind]
  refine wp_ext fun b n' => ?_
  cases b <;> simp -dsimp
@[simp ↓] theorem wp_tOr {s t : NSt → R Bool} : Wp (tOr' s t n) Pb = Wp (s n) fun b n' => Br b (Pb true n') (Wp (t n') Pb) := by
  unfold tOr'
  rw [wp_bind]
  refine wp_ext fun b n' => ?_
  cases b <;> simp -dsimp
@[simp ↓] theorem wp_tNot : Wp (tNot' t n) Pb = Wp (t n) fun b n' => Pb (!b) n' := by
  unfold tNot'
  rw [wp_bind]
  rfl
@[simp ↓] theorem wp_tYes : Wp (tYesN n) Pb = Pb true n := id rfl
@[simp ↓] theorem wp_nAnd : Wp (nAnd f g n) P = Wp (f n) fun d n' => onB d fun b => Br b (Wp (g n') P) (P (.bool false) n') := by
  unfold nAnd
  rw [wp_bind]
  refine wp_ext fun d n' => ?_
  cases d with
  | bool b => cases b <;> simp -dsimp
  | _ => rfl
@[simp ↓] theorem wp_nOr : Wp (nOr f g n) P = Wp (f n) fun d n' => onB d fun b => Br b (P (.bool true) n') (Wp (g n') P) := by
  unfold nOr
  rw [wp_bind]
  refine wp_ext fun d n' => ?_
  cases d with
  | bool b => cases b <;> simp -dsimp
  | _ => rfl
@[simp ↓] theorem wp_nNot : Wp (nNot f n) P = Wp (f n) fun d n' => onB d fun b => P (.bool (!b)) n' := by
  unfold nNot
  rw [wp_bind]
  refine wp_ext fun d n' => ?_
  cases d <;> rfl
@[simp ↓] theorem wp_nNeg : Wp (nNeg f n) P = Wp (f n) fun d n' => onI d fun i => P (.int (-i)) n' := by
  unfold nNeg
  rw [wp_bind]
  refine wp_ext fun d n' => ?_
  cases d <;> rfl
@[simp ↓] theorem wp_nIf : Wp (nIf t f g n) P = Wp (t n) fun b n' => Br b (Wp (f n') P) (Wp (g n') P) := by
  unfold nIf
  rw [wp_bind]
  refine wp_ext fun b n' => ?_
  cases b <;> simp -dsimp
@[simp ↓] theorem wp_nIfO {fo go : NSt → R (List PyData)} : Wp (nIfO t fo go n) Pd = Wp (t n) fun b n' => Br b (Wp (fo n') Pd) (Wp (go n') Pd) := by
  unfold nIfO
  rw [wp_bind]
  refine wp_ext fun b n' => ?_
  cases b <;> simp -dsimp
@[simp ↓] theorem wp_isi {T : String} : Wp (nIsi T p n) P = Wp (p.run n) fun a n1 => onO (a.get n1) fun d => P (.bool (isTy T d)) n1 := by
  unfold nIsi
  rw [wp_bind]
  refine wp_ext fun a n1 => ?_
  cases e : a.get n1 <;> simp -dsimp
@[simp ↓] theorem wp_chain {o o' : PyData → PyData → Option PyData} : Wp (nChain o o' p q u n) P = Wp (p.run n) fun x n1 => Wp (q.run n1) fun y n2 => onO (x.get n2) fun dx => onO (y.get n2) fun dy => onO (o dx dy) fun w => onB w fun b =>
    Br b (Wp (u.run n2) fun z n3 => onO (y.get n3) fun ey => onO (z.get n3) fun dz => onO (o' ey dz) fun w => P w n3) (P (.bool false) n2) := by
  unfold nChain
  rw [wp_bind]
  refine wp_ext fun x n1 => ?_
  rw [wp_bind]
  refine wp_ext fun y n2 => ?_
  cases ex : x.get n2 with
  | none => simp -dsimp
  | some dx =>
    cases ey : y.get n2 with
    | none => simp -dsimp
    | some dy =>
      simp -dsimp only [onO_some]
      cases eo : o dx dy with
      | none => simp -dsimp
      | some w =>
        cases w with
        | bool b =>
          cases b with
          | false => simp -dsimp
          | true =>
            simp -dsimp only [wp_bind, onO_some, onB_bool, Br_true]
            refine wp_ext fun z n3 => ?_
            cases ez : y.get n3 <;> cases ew : z.get n3 <;> simp -dsimp
        | _ => simp -dsimp [onB]
@[simp ↓] theorem wps_sRet : WpS (sRet f n) Nx Rt Bk Ct = Wp (f n) fun d n' => Rt d n' := by
  unfold sRet
  rw [wps_st]
  rfl
@[simp ↓] theorem wps_sExpr : WpS (sExpr f n) Nx Rt Bk Ct = Wp (f n) fun _ n' => Nx n' := by
  unfold sExpr
  rw [wps_st]
  rfl
@[simp ↓] theorem wps_sAsg {gg : PyData → NSt → Option NSt} : WpS (sAsg f gg n) Nx Rt Bk Ct = Wp (f n) fun d n1 => onO (gg d n1) Nx := by
  unfold sAsg
  rw [wps_st]
  refine wp_ext fun d n1 => ?_
  cases gg d n1 <;> simp -dsimp
@[simp ↓] theorem wps_sOwn {fo : NSt → R (List PyData)} : WpS (sOwn i fo n) Nx Rt Bk Ct = Wp (fo n) fun xs n1 => notLent n1 i = true ∧ Nx (n1.set i (some (.own xs))) := by
  unfold sOwn
  rw [wps_st]
  refine wp_ext fun d n1 => ?_
  by_cases h : notLent n1 i = true <;> simp -dsimp [h]
@[simp ↓] theorem wps_sSetL {fo : NSt → R (List PyData)} : WpS (sSetL i fo n) Nx Rt Bk Ct = Wp (fo n) fun xs n1 => notLent n1 i = true ∧ Nx (n1.set i (some (.val (.list xs)))) := by
  unfold sSetL
  rw [wps_st]
  refine wp_ext fun d n1 => ?_
  by_cases h : notLent n1 i = true <;> simp -dsimp [h]
@[simp ↓] theorem wps_sIf {a b : NStm} : WpS (sIf t a b n) Nx Rt Bk Ct = Wp (t n) fun c n' => Br c (WpS (a n') Nx Rt Bk Ct) (WpS (b n') Nx Rt Bk Ct) := by
  unfold sIf
  rw [wps_st]
  refine wp_ext fun c n' => ?_
  cases c <;> simp -dsimp
@[simp] theorem gN_eq : gN i d n = if notLent n i = true then some (n.set i (some (.val d))) else none := id rfl
@[simp] theorem gT_eq {gs : List PyData → NSt → Option NSt} {ds : List PyData} : gT gs (.tuple ds) n = gs ds n := id rfl
@[simp] theorem gNil_eq : gNil' [] n = some n := id rfl
@[simp] theorem gCons_eq {gg : PyData → NSt → Option NSt} {gs : List PyData → NSt → Option NSt} {ds : List PyData} : gCons' gg gs (d :: ds) n = (gg d n).bind (gs ds) := id rfl
@[simp ↓] theorem wp_call {P : PyData → NSt → Prop} : Wp (nCall g fs n) P = Wp (fs n) fun as n1 => (ixs as).Nodup ∧ onO (resolve n1 as) fun a => Wp (g a) fun d os => P d (back n1 as os) := by
  unfold nCall
  rw [wp_bind]
  refine wp_ext fun as n1 => ?_
  by_cases h : (ixs as).Nodup
  · rw [if_pos h]
    cases e : resolve n1 as with
    | none => simp -dsimp
    | some a =>
      simp -dsimp only [h, true_and, onO_some]
      cases g a <;> simp -dsimp [Wp]
  · simp -dsimp [h]
@[simp ↓] theorem wp_callO {go : NSt → R (List PyData)} : Wp (nCallO go fs n) Pd = Wp (fs n) fun as n1 => (ixs as).Nodup ∧ onO (resolve n1 as) fun a => Wp (go a) fun d os => Pd d (back n1 as os) := by
  unfold nCallO
  rw [wp_bind]
  refine wp_ext fun as n1 => ?_
  by_cases h : (ixs as).Nodup
  · rw [if_pos h]
    cases e : resolve n1 as with
    | none => simp -dsimp
    | some a =>
      simp -dsimp only [h, true_and, onO_some]
      cases go a <;> simp -dsimp [Wp]
  · simp -dsimp [h]
@[simp] theorem ixs_nil : ixs [] = [] := id rfl
@[simp] theorem ixs_v {as : List AV} : ixs (.v d :: as) = ixs as := id rfl
@[simp] theorem ixs_o {as : List AV} : ixs (.o i :: as) = i :: ixs as := id rfl
@[simp] theorem resolve_nil : resolve n [] = some [] := id rfl
@[simp] theorem resolve_v {as : List AV} : resolve n (.v d :: as) = (resolve n as).map (some (Sl.val d) :: ·) := id rfl
@[simp] theorem resolve_o {as : List AV} : resolve n (.o i :: as) = match n[i]? with
    | some (some (.own xs)) => (resolve n as).map (some (Sl.lent xs) :: ·)
    | some (some (.lent xs)) => (resolve n as).map (some (Sl.lent xs) :: ·)
    | some (some (.scr xs)) => (resolve n as).map (some (Sl.scr xs) :: ·)
    | _ => none := id rfl
@[simp] theorem back_nil {os : NSt} : back n [] os = n := id rfl
@[simp] theorem back_v {as : List AV} {os : NSt} : back n (.v d :: as) os = back n as os.tail := id rfl
@[simp] theorem back_o {as : List AV} {os : NSt} : back n (.o i :: as) os = back (putBack n i (os.head?.getD none)) as os.tail := id rfl
@[simp] theorem putBack_l {ys : List PyData} : putBack n i (some (.lent ys)) = match n[i]? with
  | some (some sl) => n.set i (some (sl.put ys))
  | _ => n := id rfl
@[simp ↓] theorem wp_pop : Wp (nPop i n) P = onO (heldAt n i) fun z => onO z.2[z.2.length - 1]? fun x => P x (n.set i (some (z.1.put z.2.dropLast))) := by
  unfold nPop
  cases e : heldAt n i with
  | none => simp -dsimp
  | some z =>
    obtain ⟨sl, xs⟩ := z
    cases e2 : xs[xs.length - 1]? <;> simp -dsimp [e2]
@[simp ↓] theorem wp_append : Wp (nAppend i f n) P = ((heldAt n i).isSome = true ∧ Wp (f n) fun d n1 => onO (heldAt n1 i) fun z => z.2.length < sizeLine ∧ P .none (n1.set i (some (z.1.put (z.2 ++ [d]))))) := by
  unfold nAppend
  cases e : heldAt n i with
  | none => simp -dsimp
  | some z =>
    simp -dsimp only [wp_bind, Option.isSome_some, true_and]
    refine wp_ext fun d n1 => ?_
    cases e2 : heldAt n1 i with
    | none => simp -dsimp
    | some y =>
      obtain ⟨sl, xs⟩ := y
      by_cases h : xs.length < sizeLine <;> simp -dsimp [h]
@[simp] theorem heldAt_eq : heldAt n i = match n[i]? with
  | some (some sl) => sl.list?.map fun xs => (sl, xs)
  | _ => none := id rfl
@[simp] theorem notLent_eq : notLent n i = match n[i]? with
  | some (some (.lent _)) => false
  | some _ => true
  | none => false := id rfl
@[simp] theorem outs_nil {m : NSt} : outs [] m = [] := id rfl
@[simp] theorem outs_lent {xs : List PyData} {a m : NSt} {y : Option Sl} : outs (some (.lent xs) :: a) (y :: m) = y :: outs a m := id rfl
@[simp] theorem outs_val {a m : NSt} {y : Option Sl} : outs (some (.val d) :: a) (y :: m) = some (.val d) :: outs a m := id rfl
@[simp] theorem outs_scr {xs : List PyData} {a m : NSt} {y : Option Sl} : outs (some (.scr xs) :: a) (y :: m) = some (.scr xs) :: outs a m := id rfl
@[simp] theorem wipe_nil : wipeN n [] = n := id rfl
@[simp] theorem wipe_cons {v : Nat} {vs : List Nat} : wipeN n (v :: vs) = (wipeN n vs).set v none := id rfl
@[simp] theorem rest_nil {m : NSt} : restoreN n m [] = n := id rfl
@[simp] theorem rest_cons {m : NSt} {v : Nat} {vs : List Nat} : restoreN n m (v :: vs) = (restoreN n m vs).set v (m[v]?.getD none) := id rfl
@[simp] theorem bLen_list {xs : List PyData} : bLen [.list xs] = some (.int xs.length) := id rfl
@[simp] theorem bLen_tuple {xs : List PyData} : bLen [.tuple xs] = some (.int xs.length) := id rfl
@[simp] theorem bInt_int {i : Int} : bInt [.int i] = some (.int i) := id rfl
@[simp] theorem bInt_bool {b : Bool} : bInt [.bool b] = some (.int (if b then 1 else 0)) := id rfl
def absI (i : Int) : Int := ((i.natAbs : Nat) : Int)
theorem absI_nn {i : Int} : 0 ≤ absI i := by unfold absI; omega
@[simp] theorem bAbs_int {i : Int} : bAbs [.int i] = some (.int (absI i)) := id rfl
@[simp] theorem oAdd_int {a b : Int} : oAdd (.int a) (.int b) = some (.int (a + b)) := id rfl
@[simp] theorem oSub_int {a b : Int} : oSub (.int a) (.int b) = some (.int (a - b)) := id rfl
@[simp] theorem oMod_int {a b : Int} : oMod (.int a) (.int b) = if b ≠ 0 then some (.int (a.fmod b)) else none := id rfl
@[simp] theorem oEq_int {a b : Int} : oEq (.int a) (.int b) = some (.bool (decide (a = b))) := by
  unfold oEq eqOk PyData.eqv
  rfl
@[simp] theorem oNe_int {a b : Int} : oNe (.int a) (.int b) = some (.bool (!decide (a = b))) := by
  unfold oNe eqOk PyData.eqv
  rfl
@[simp] theorem oLt_int {a b : Int} : oLt (.int a) (.int b) = some (.bool (decide (a < b))) := id rfl
@[simp] theorem oLe_int {a b : Int} : oLe (.int a) (.int b) = some (.bool (decide (a ≤ b))) := id rfl
@[simp] theorem oGt_int {a b : Int} : oGt (.int a) (.int b) = some (.bool (decide (b < a))) := id rfl
@[simp] theorem oGe_int {a b : Int} : oGe (.int a) (.int b) = some (.bool (decide (b ≤ a))) := id rfl
@[simp] theorem oIx_list {xs : List PyData} {k : Int} : oIx (.list xs) (.int k) = atI xs k := id rfl
@[simp] theorem oIx_tuple {xs : List PyData} {k : Int} : oIx (.tuple xs) (.int k) = atI xs k := id rfl
end
theorem wp_sSeqO {f : NStm} {g : NSt → R (List PyData)} {n : NSt} {P : List PyData → NSt → Prop} : Wp (sSeqO f g n) P = WpS (f n) (fun n' => Wp (g n') P) (fun _ _ => False) (fun _ => False) (fun _ => False) := by
  unfold sSeqO
  cases f n <;> rfl
theorem wp_runO {N : Nat} {body : NSt → R (List PyData)} {a : NSt} {P : List PyData → NSt → Prop} : Wp (runDO N body a) P = Wp (body (a ++ List.replicate (N - a.length) none)) (fun d n' => P d (outs a n')) := by
  unfold runDO
  cases body (a ++ List.replicate (N - a.length) none) <;> rfl
@[simp ↓] theorem wp_give {i : Nat} {n : NSt} {P : List PyData → NSt → Prop} : Wp (nGive i n) P = onSl n[i]? (fun _ => False) (fun xs => P xs (n.set i none)) (fun _ => False) (fun _ => False) := by
  unfold nGive
  generalize n[i]? = o
  rcases o with _ | _ | sl <;> first | rfl | (cases sl <;> rfl)
@[simp ↓] theorem wp_lstRev {p : Opd} {n : NSt} {P : List PyData → NSt → Prop} : Wp (nLstRev p n) P = Wp (p.run n) fun a n1 => onO (a.get n1) fun d => onL d fun xs => P xs.reverse n1 := by
  unfold nLstRev
  rw [wp_bind]
  refine wp_ext fun a n1 => ?_
  cases e : a.get n1 with
  | none => simp -dsimp
  | some d => cases d <;> simp -dsimp [onL]
@[simp ↓] theorem wp_iScr {i : Nat} {n : NSt} {P : List PyData → NSt → Prop} : Wp (iScr i n) P = onSl n[i]? (fun _ => False) (fun _ => False) (fun _ => False) (fun xs => P xs n) := by
  unfold iScr
  generalize n[i]? = o
  rcases o with _ | _ | sl <;> first | rfl | (cases sl <;> rfl)
@[simp ↓] theorem wp_iV {f : NExp} {n : NSt} {P : List PyData → NSt → Prop} : Wp (iV f n) P = Wp (f n) fun d n' => onO (seqOf d) fun xs => P xs n' := by
  unfold iV
  rw [wp_bind]
  refine wp_ext fun d n' => ?_
  simp -dsimp
@[simp] theorem seqOf_list {xs : List PyData} : seqOf (.list xs) = some xs := id rfl
@[simp] theorem seqOf_tuple {xs : List PyData} : seqOf (.tuple xs) = some xs := id rfl
def rg1 (as : List AV) : Option (List PyData) := match as with
  | [.v (.int j)] => if rgOk j = true then some (rgD 0 j) else none
  | _ => none
@[simp] theorem rg1_int {j : Int} : rg1 [.v (.int j)] = if rgOk j = true then some (rgD 0 j) else none := id rfl
@[simp ↓] theorem wp_iRg1 {f : NSt → R (List AV)} {n : NSt} {P : List PyData → NSt → Prop} : Wp (iRg1 f n) P = Wp (f n) fun as n' => onO (rg1 as) fun xs => P xs n' := by
  unfold iRg1
  rw [wp_bind]
  refine wp_ext fun as n' => ?_
  unfold rg1
  split
  · rename_i j
    by_cases h : rgOk j = true <;> simp -dsimp [h]
  · simp -dsimp
def rg2 (as : List AV) : Option (List PyData) := match as with
  | [.v (.int i), .v (.int j)] => if rgOk i = true ∧ rgOk j = true then some (rgD i j) else none
  | _ => none
@[simp] theorem rg2_int {i j : Int} : rg2 [.v (.int i), .v (.int j)] = if rgOk i = true ∧ rgOk j = true then some (rgD i j) else none := id rfl
@[simp ↓] theorem wp_iRg2 {f : NSt → R (List AV)} {n : NSt} {P : List PyData → NSt → Prop} : Wp (iRg2 f n) P = Wp (f n) fun as n' => onO (rg2 as) fun xs => P xs n' := by
  unfold iRg2
  rw [wp_bind]
  refine wp_ext fun as n' => ?_
  unfold rg2
  split
  · rename_i i j
    by_cases h : rgOk i = true ∧ rgOk j = true <;> simp -dsimp [h]
  · simp -dsimp
@[simp ↓] theorem wps_sFor {fi : NSt → R (List PyData)} {g : PyData → NSt → Option NSt} {body : NStm} {n : NSt} {Nx : NSt → Prop} {Rt : PyData → NSt → Prop} {Bk Ct : NSt → Prop} : WpS (sFor fi g body n) Nx Rt Bk Ct = Wp (fi n) fun ds n1 => WpS (sForL g body ds n1) Nx Rt Bk Ct := wps_for
theorem rgD_len {i j : Int} : (rgD i j).length = (j - i).toNat := by
  unfold rgD
  simp -dsimp
/-- what an unset or a plain slot is -/
def Vl (x : Option Sl) : Prop := x = none ∨ ∃ d, x = some (.val d)
theorem Vl.none : Vl none := .inl rfl
theorem Vl.val {d : PyData} : Vl (some (.val d)) := .inr ⟨d, rfl⟩
/-! ### the draws -/
/-- numbers that are not below 0 -/
def Dr (l : List PyData) : Prop := ∃ ks : List Nat, l = ks.map fun (k : Nat) => PyData.int (k : Int)
def takeB : NStm :=
  sSeq (sIf (asB (nOp2 oEq (.e (nCB bLen (aCons (.o 0) (aNil)))) (.e (nC (.int 0))))) (sRet (nC (.int 0))) (sNil))
  (sRet (nOp2 oMod (.e (nCB bInt (aCons (.e (nPop 0)) (aNil)))) (.o 1)))
def Take : NExp := runD 2 takeB
theorem take_spec {l : List PyData} (h : Dr l) {b : Int} (hb : 0 < b) {P : PyData → NSt → Prop} (hP : ∀ (r : Int) (l' : List PyData), Dr l' → 0 ≤ r → r < b → P (.int r) [some (.lent l'), some (.val (.int b))]) : Wp (Take [some (.lent l), some (.val (.int b))]) P := by
  unfold Take
  rw [wp_run]
  obtain ⟨ks, rfl⟩ := h
  simp -dsimp [takeB]
  rcases List.eq_nil_or_concat ks with rfl | ⟨ks', k, rfl⟩
  · simp -dsimp
    exact hP 0 [] ⟨[], rfl⟩ (by omega) hb
  · refine Br_mk (fun h => by simp -dsimp at h) fun _ => ?_
    simp -dsimp
    exact ⟨by omega, hP _ _ ⟨ks', rfl⟩ (Int.fmod_nonneg (by omega) (by omega)) (Int.fmod_lt_of_pos _ hb)⟩
theorem Dr.nil : Dr [] := ⟨[], rfl⟩
theorem Dr.snoc {l : List PyData} {i : Int} (h : Dr l) (hi : 0 ≤ i) : Dr (l ++ [.int i]) := by
  obtain ⟨ks, rfl⟩ := h
  refine ⟨ks ++ [i.toNat], ?_⟩
  simp -dsimp
  omega
theorem Dr.snoc2 {l : List PyData} {i j : Int} (h : Dr l) (hi : 0 ≤ i) (hj : 0 ≤ j) : Dr (l ++ [.int i, .int j]) := by
  have := (h.snoc hi).snoc hj
  simpa using this
theorem rg1_at {j : Int} (h : rgOk j = true) : rg1 [.v (.int j)] = some (rgD 0 j) := by
  show (if rgOk j = true then some (rgD 0 j) else none) = _
  rw [if_pos h]
theorem Dr.rev {l : List PyData} (h : Dr l) : Dr l.reverse := by
  obtain ⟨ks, rfl⟩ := h
  exact ⟨ks.reverse, by simp -dsimp⟩
def drawsIn : NStm := sFor (iRg1 (aCons (.e (nC (.int 60))) (aNil))) (gN 5) (sIf (asB (nOp2 oGt (.o 4) (.e (nC (.int 0))))) (sSeq (sExpr (nAppend 1 (nOp2 oMod (.e (nCB bInt (aCons (.o 4) (aNil)))) (.e (nC (.int 997))))))
  (sAsg (nOp2 oFdiv (.o 4) (.e (nC (.int 997)))) (gN 4))) (sNil))
def drawsLast : NStm := sFor (iRg1 (aCons (.e (nC (.int 900))) (aNil))) (gN 5) (sSeq (sAsg (nOp2 oMod (.e (nCB bInt (aCons (.e (nOp2 oAdd (.e (nOp2 oMul (.o 2) (.e (nC (.int 48271))))) (.e (nC (.int 69621))))) (aNil)))) (.e (nC (.int 2147483647)))) (gN 2))
  (sExpr (nAppend 1 (nOp2 oFdiv (.o 2) (.e (nC (.int 5)))))))
def drawsB : NSt → R (List PyData) :=
  sSeqO (sOwn 1 (nLstO (aNil)))
  (sSeqO (sAsg (nC (.int 11)) (gN 2))
  (sSeqO (sFor (iScr 0) (gN 3) (sSeq (sAsg (nCB bAbs (aCons (.e (nCB bInt (aCons (.o 3) (aNil)))) (aNil))) (gN 4))
  (sSeq (sAsg (nOp2 oMod (.e (nCB bInt (aCons (.e (nOp2 oAdd (.e (nOp2 oAdd (.e (nOp2 oMul (.o 2) (.e (nC (.int 48271))))) (.o 4))) (.e (nC (.int 1))))) (aNil)))) (.e (nC (.int 2147483647)))) (gN 2))
  (sSeq (sIf (asB (nOp2 oLt (.o 4) (.e (nOp2 oPow (.e (nC (.int 10))) (.e (nC (.int 18))))))) (sSeq (sExpr (nAppend 1 (nOp2 oMod (.e (nCB bInt (aCons (.o 4) (aNil)))) (.e (nC (.int 997))))))
  (sSeq (sExpr (nAppend 1 (nOp2 oMod (.e (nCB bInt (aCons (.o 2) (aNil)))) (.e (nC (.int 65521))))))
  (sAsg (nC (.int 0)) (gN 4)))) (sNil))
  drawsIn))))
  (sSeqO drawsLast
  (nLstRev (.o 1)))))
def Draws : NSt → R (List PyData) := runDO 6 drawsB
theorem pow18 : oPow (.int 10) (.int 18) = some (.int 1000000000000000000) := by
  show (if CPow 10 18 then some (PyData.int (10 ^ (18 : Int).toNat)) else none) = _
  rw [if_pos ⟨by omega, by omega, by decide⟩]
  rfl
theorem gN_vl {n : NSt} {i : Nat} {d : PyData} {x : Option Sl} (e : n[i]? = some x) (v : Vl x) : gN i d n = some (n.set i (some (.val d))) := by
  unfold gN
  rw [if_pos]
  unfold notLent
  rw [e]
  rcases v with rfl | ⟨d, rfl⟩ <;> rfl
theorem nl_vl {n : NSt} {i : Nat} {x : Option Sl} (e : n[i]? = some x) (v : Vl x) : notLent n i = true := by
  unfold notLent
  rw [e]
  rcases v with rfl | ⟨d, rfl⟩ <;> rfl
theorem mulS {s : Int} (h0 : 0 ≤ s) (h1 : s < 2147483647) : oMul (.int s) (.int 48271) = some (.int (s * 48271)) := by
  show (if CMul s 48271 ∨ CMulW s 48271 then some (PyData.int (s * 48271)) else none) = _
  rw [if_pos (.inl (.inl ⟨by omega, by omega⟩))]
theorem fdivS {a b : Int} (hb : 0 < b) (h : b < 1000000000) : oFdiv (.int a) (.int b) = some (.int (a.fdiv b)) := by
  show (if CDivN a b then some (PyData.int (a.fdiv b)) else if CDivW a b then some (PyData.int (a.fdiv b)) else none) = _
  rw [if_pos ⟨by omega, by omega⟩]
theorem sizeBig : 10000 < sizeLine := by decide +kernel
theorem fmod_nn {a b : Int} (ha : 0 ≤ a) (hb : 0 < b) : 0 ≤ a.fmod b := Int.fmod_nonneg ha (by omega)
theorem drawsIn_spec {S acc : List PyData} {seed num : Int} {d3 : PyData} {x5 : Option Sl} (hacc : Dr acc) (hn : 0 ≤ num) (hl : acc.length ≤ 9000) (v5 : Vl x5) {Nx : NSt → Prop} {Rt : PyData → NSt → Prop} {Bk Ct : NSt → Prop}
    (h : ∀ acc' num' x5', Dr acc' → acc'.length ≤ acc.length + 60 → Vl x5' → Nx [some (.scr S), some (.own acc'), some (.val (.int seed)), some (.val d3), some (.val (.int num')), x5']) :
    WpS (drawsIn [some (.scr S), some (.own acc), some (.val (.int seed)), some (.val d3), some (.val (.int num)), x5]) Nx Rt Bk Ct := by
  have sz := sizeBig
  unfold drawsIn
  rw [wps_sFor]
  simp -dsimp only [wp_iRg1, wp_aCons, wp_oe, wp_nC, wp_aNil, rg1_at (show rgOk 60 = true by decide), onO_some]
  refine wps_forL (fun ds n => ∃ (acc' : List PyData) (num' : Int) (x5 : Option Sl), n = [some (.scr S), some (.own acc'), some (.val (.int seed)), some (.val d3), some (.val (.int num')), x5] ∧ Dr acc' ∧ 0 ≤ num' ∧ acc'.length + ds.length ≤ acc.length + 60 ∧ Vl x5) ?_ ?_ _ _ ⟨acc, num, x5, rfl, hacc, hn, by rw [rgD_len]; simp -dsimp, v5⟩
  · rintro d ds n ⟨acc', num', x5, rfl, hacc', h0, hlen, v5⟩
    have hlen : acc'.length + (ds.length + 1) ≤ acc.length + 60 := hlen
    refine ⟨_, gN_vl rfl v5, ?_⟩
    have f1 : oFdiv (.int num') (.int 997) = some (.int (num'.fdiv 997)) := fdivS (by omega) (by omega)
    by_cases hp : 0 < num'
    · simp -dsimp [hp, f1]
      refine ⟨by omega, _, _, _, ⟨rfl, rfl, rfl⟩, hacc'.snoc (fmod_nn h0 (by omega)), ?_, ?_, Vl.val⟩
      · exact Int.fdiv_nonneg h0 (by omega)
      · simp -dsimp; omega
    · simp -dsimp [hp]
      exact ⟨_, _, _, ⟨rfl, rfl, rfl⟩, hacc', h0, by omega, Vl.val⟩
  · rintro n ⟨acc', num', x5, rfl, hacc', h0, hlen, v5⟩
    exact h acc' num' x5 hacc' (by simpa using hlen) v5
theorem drawsLast_spec {S acc : List PyData} {seed : Int} {x3 x4 x5 : Option Sl} (hacc : Dr acc) (h0 : 0 ≤ seed) (h1 : seed < 2147483647) (hl : acc.length ≤ 9000) (v5 : Vl x5) {Nx : NSt → Prop} {Rt : PyData → NSt → Prop} {Bk Ct : NSt → Prop}
    (h : ∀ acc' seed' x5', Dr acc' → Nx [some (.scr S), some (.own acc'), some (.val (.int seed')), x3, x4, x5']) :
    WpS (drawsLast [some (.scr S), some (.own acc), some (.val (.int seed)), x3, x4, x5]) Nx Rt Bk Ct := by
  have sz := sizeBig
  unfold drawsLast
  rw [wps_sFor]
  simp -dsimp only [wp_iRg1, wp_aCons, wp_oe, wp_nC, wp_aNil, rg1_at (show rgOk 60 = true by decide), rg1_at (show rgOk 900 = true by decide), onO_some]
  refine wps_forL (fun ds n => ∃ (acc' : List PyData) (seed' : Int) (x5 : Option Sl), n = [some (.scr S), some (.own acc'), some (.val (.int seed')), x3, x4, x5] ∧ Dr acc' ∧ 0 ≤ seed' ∧ seed' < 2147483647 ∧ acc'.length + ds.length ≤ 9900 ∧ Vl x5) ?_ ?_ _ _ ⟨acc, seed, x5, rfl, hacc, h0, h1, by rw [rgD_len]; simp -dsimp; omega, v5⟩
  · rintro d ds n ⟨acc', seed', x5, rfl, hacc', h0, h1, hlen, v5⟩
    have hlen : acc'.length + (ds.length + 1) ≤ 9900 := hlen
    refine ⟨_, gN_vl rfl v5, ?_⟩
    have h2 : (0 : Int) ≤ (seed' * 48271 + 69621).fmod 2147483647 := fmod_nn (by omega) (by omega)
    have h3 : (seed' * 48271 + 69621).fmod 2147483647 < 2147483647 := Int.fmod_lt_of_pos _ (by omega)
    generalize hs : (seed' * 48271 + 69621).fmod 2147483647 = seed2 at h2 h3
    have f1 : oFdiv (.int seed2) (.int 5) = some (.int (seed2.fdiv 5)) := fdivS (by omega) (by omega)
    simp -dsimp [mulS h0 h1, hs, f1]
    refine ⟨by omega, _, _, _, ⟨rfl, rfl, rfl⟩, hacc'.snoc (Int.fdiv_nonneg h2 (by omega)), h2, h3, ?_, Vl.val⟩
    simp -dsimp; omega
  · rintro n ⟨acc', seed', x5, rfl, hacc', h0, h1, hlen, v5⟩
    exact h acc' seed' x5 hacc'
theorem draws_spec (ns : List Int) (hl : ns.length ≤ 63) {P : List PyData → NSt → Prop} (hP : ∀ l, Dr l → P l [some (.scr (ns.map .int))]) : Wp (Draws [some (.scr (ns.map .int))]) P := by
  have sz := sizeBig
  unfold Draws
  rw [wp_runO]
  unfold drawsB
  simp -dsimp [wp_sSeqO]
  refine wps_forL (fun ds n => ∃ (acc : List PyData) (seed : Int) (x3 x4 x5 : Option Sl), n = [some (.scr (ns.map .int)), some (.own acc), some (.val (.int seed)), x3, x4, x5] ∧ Dr acc ∧ 0 ≤ seed ∧ seed < 2147483647 ∧ acc.length + 62 * ds.length ≤ 62 * 63 ∧ Vl x3 ∧ Vl x4 ∧ Vl x5 ∧ ∃ ms : List Int, ds = ms.map .int) ?_ ?_ _ _ ⟨[], 11, none, none, none, rfl, Dr.nil, by omega, by omega, by simp -dsimp; omega, Vl.none, Vl.none, Vl.none, ns, rfl⟩
  · rintro d ds n ⟨acc, seed, x3, x4, x5, rfl, hacc, h0, h1, hlen, v3, v4, v5, ms, hms⟩
    cases ms with
    | nil => cases hms
    | cons m ms =>
      cases hms
      have hlen : acc.length + 62 * (ms.length + 1) ≤ 62 * 63 := by simpa using hlen
      refine ⟨_, gN_vl rfl v3, ?_⟩
      have hm : 0 ≤ absI m := absI_nn
      have h2 : (0 : Int) ≤ (seed * 48271 + absI m + 1).fmod 2147483647 := fmod_nn (by omega) (by omega)
      have h3 : (seed * 48271 + absI m + 1).fmod 2147483647 < 2147483647 := Int.fmod_lt_of_pos _ (by omega)
      generalize hs : (seed * 48271 + absI m + 1).fmod 2147483647 = seed2 at h2 h3
      rcases v4 with rfl | ⟨d4, rfl⟩ <;> (
        simp -dsimp [mulS h0 h1, pow18, hs]
        refine Br_mk (fun hb => ?_) fun hb => ?_
        · simp -dsimp
          refine ⟨by omega, by omega, ?_⟩
          refine drawsIn_spec (hacc.snoc2 (fmod_nn (by omega) (by omega)) (fmod_nn (by omega) (by omega))) (by omega) (by simp -dsimp; omega) v5 fun acc' num' x5' ha hx hv => ?_
          exact ⟨acc', seed2, _, _, _, rfl, ha, h2, h3, by simp -dsimp at hx ⊢; omega, Vl.val, Vl.val, hv, ms, rfl⟩
        · simp -dsimp
          refine drawsIn_spec hacc (by omega) (by omega) v5 fun acc' num' x5' ha hx hv => ?_
          exact ⟨acc', seed2, _, _, _, rfl, ha, h2, h3, by rw [List.length_map]; omega, Vl.val, Vl.val, hv, ms, rfl⟩)
  · rintro n ⟨acc, seed, x3, x4, x5, rfl, hacc, h0, h1, hlen, v3, v4, v5, ms, hms⟩
    rw [wp_sSeqO]
    refine drawsLast_spec hacc h0 h1 (by omega) v5 fun acc' seed' x5' ha => ?_
    simp -dsimp
    exact hP _ ha.rev
def pickB : NStm :=
  sRet (nOp2 oIx (.o 1) (.e (nCall Take (aCons (.o 0) (aCons (.e (nCB bLen (aCons (.o 1) (aNil)))) (aNil))))))
def Pick : NExp := runD 2 pickB
theorem atI_nat {xs : List PyData} {r : Int} (h0 : 0 ≤ r) (h1 : r < xs.length) : ∃ x, atI xs r = some x ∧ x ∈ xs := by
  unfold atI ixN
  rw [if_pos h0, if_pos h1]
  have hl : r.toNat < xs.length := by omega
  exact ⟨xs[r.toNat], by simp -dsimp [hl], List.getElem_mem hl⟩
theorem pick_spec {l xs : List PyData} (h : Dr l) (hx : xs ≠ []) {P : PyData → NSt → Prop} (hP : ∀ (x : PyData) (l' : List PyData), Dr l' → x ∈ xs → P x [some (.lent l'), some (.val (.list xs))]) : Wp (Pick [some (.lent l), some (.val (.list xs))]) P := by
  unfold Pick
  rw [wp_run]
  simp -dsimp [pickB]
  refine take_spec h (by have := List.length_pos_iff.mpr hx; omega) fun r l' hl' h0 h1 => ?_
  simp -dsimp
  obtain ⟨x, e, hm⟩ := atI_nat h0 h1
  rw [e]
  simp -dsimp
  exact hP x l' hl' hm
def sameB (D : NExp) : NStm :=
  sSeq (sIf (asB (nOp2 oIs (.o 1) (.e (nC .none)))) (sRet (nOp2 oIs (.o 0) (.e (nC .none)))) (sNil))
  (sSeq (sIf (tOr' (asT (.e (nIsi "tuple" (.o 1)))) (asT (.e (nIsi "list" (.o 1))))) (sSeq (sIf (tOr' (asB (nOp2 oNe (.e (nIsi "tuple" (.o 1))) (.e (nIsi "tuple" (.o 0))))) (asB (nOp2 oNe (.e (nIsi "list" (.o 1))) (.e (nIsi "list" (.o 0)))))) (sRet (nC (.bool false))) (sNil))
  (sSeq (sIf (asB (nOp2 oNe (.e (nCB bLen (aCons (.o 0) (aNil)))) (.e (nCB bLen (aCons (.o 1) (aNil)))))) (sRet (nC (.bool false))) (sNil))
  (sSeq (sFor (iRg1 (aCons (.e (nCB bLen (aCons (.o 1) (aNil)))) (aNil))) (gN 2) (sIf (tNot' (asT (.e (nCall D (aCons (.e (nOp2 oIx (.o 0) (.o 2))) (aCons (.e (nOp2 oIx (.o 1) (.o 2))) (aNil))))))) (sRet (nC (.bool false))) (sNil)))
  (sRet (nC (.bool true)))))) (sNil))
  (sSeq (sIf (asT (.e (nIsi "dict" (.o 1)))) (sSeq (sIf (tOr' (tNot' (asT (.e (nIsi "dict" (.o 0))))) (asB (nOp2 oNe (.e (nCB bLen (aCons (.o 0) (aNil)))) (.e (nCB bLen (aCons (.o 1) (aNil))))))) (sRet (nC (.bool false))) (sNil))
  (sRet (nOp2 oEq (.e (nL (nLc (iV (nF 1)) (gN 3) (tOr' (asB (nOp2 oNotIn (.o 3) (.o 0))) (tNot' (asT (.e (nCall D (aCons (.e (nOp2 oIx (.o 0) (.o 3))) (aCons (.e (nOp2 oIx (.o 1) (.o 3))) (aNil)))))))) (nV 3) [3]))) (.e (nL (nLstO (aNil))))))) (sNil))
  (sSeq (sIf (asB (nOp2 oNe (.e (nIsi "bool" (.o 1))) (.e (nIsi "bool" (.o 0))))) (sRet (nC (.bool false))) (sNil))
  (sSeq (sIf (tOr' (asB (nOp2 oNe (.e (nIsi "int" (.o 1))) (.e (nIsi "int" (.o 0))))) (asB (nOp2 oNe (.e (nIsi "str" (.o 1))) (.e (nIsi "str" (.o 0)))))) (sRet (nC (.bool false))) (sNil))
  (sRet (nOp2 oEq (.o 0) (.o 1)))))))
def Same : Nat → NExp
  | 0 => fun _ => .bad
  | k + 1 => runD 4 (sameB (Same k))
end NL
end L2
/-! M2: alike with itself. -/
namespace L2
namespace NL
open PySem PySem.Spec PyProof.Rows
def sOk : Nat → PyData → Prop
  | 0, _ => False
  | k + 1, .list xs => xs.length ≤ 1000000 ∧ ∀ x ∈ xs, sOk k x
  | k + 1, .tuple xs => xs.length ≤ 1000000 ∧ ∀ x ∈ xs, sOk k x
  | _ + 1, .dict _ => False
  | _ + 1, _ => True
theorem sOk.mono : ∀ {j k : Nat} {d : PyData}, j ≤ k → sOk j d → sOk k d
  | 0, _, _, _, h => h.elim
  | j + 1, 0, _, hk, _ => by omega
  | j + 1, k + 1, d, hk, h => by
    cases d with
    | list xs => exact ⟨h.1, fun x hx => sOk.mono (by omega) (h.2 x hx)⟩
    | tuple xs => exact ⟨h.1, fun x hx => sOk.mono (by omega) (h.2 x hx)⟩
    | dict _ => exact h.elim
    | _ => trivial
@[simp] theorem oIs_none {x : PyData} : oIs x .none = some (.bool (isNoneD x)) := id rfl
@[simp] theorem oIsNot_none {x : PyData} : oIsNot x .none = some (.bool (!isNoneD x)) := by
  cases x <;> rfl
@[simp] theorem isNoneD_none : isNoneD .none = true := id rfl
@[simp] theorem isNoneD_bool {b : Bool} : isNoneD (.bool b) = false := id rfl
@[simp] theorem isNoneD_int {b : Int} : isNoneD (.int b) = false := id rfl
@[simp] theorem isNoneD_str {b : Str} : isNoneD (.str b) = false := id rfl
@[simp] theorem isNoneD_list {b : List PyData} : isNoneD (.list b) = false := id rfl
@[simp] theorem isNoneD_tuple {b : List PyData} : isNoneD (.tuple b) = false := id rfl
@[simp] theorem isNoneD_dict {b : List (PyData × PyData)} : isNoneD (.dict b) = false := id rfl
@[simp] theorem truthOf_bool {b : Bool} : truthOf (.bool b) = some b := id rfl
@[simp] theorem truthOf_none : truthOf .none = some false := id rfl
@[simp] theorem tyN_none : tyN .none = "NoneType" := id rfl
@[simp] theorem tyN_bool {b : Bool} : tyN (.bool b) = "bool" := id rfl
@[simp] theorem tyN_int {b : Int} : tyN (.int b) = "int" := id rfl
@[simp] theorem tyN_str {b : Str} : tyN (.str b) = "str" := id rfl
@[simp] theorem tyN_list {b : List PyData} : tyN (.list b) = "list" := id rfl
@[simp] theorem tyN_tuple {b : List PyData} : tyN (.tuple b) = "tuple" := id rfl
@[simp] theorem tyN_dict {b : List (PyData × PyData)} : tyN (.dict b) = "dict" := id rfl
theorem oNe_bool {a b : Bool} : oNe (.bool a) (.bool b) = some (.bool (!(a == b))) := by
  unfold oNe eqOk PyData.eqv
  rfl
theorem oEq_bool {a b : Bool} : oEq (.bool a) (.bool b) = some (.bool (a == b)) := by
  unfold oEq eqOk PyData.eqv
  rfl
theorem oEq_str {a b : Str} : oEq (.str a) (.str b) = some (.bool (a == b)) := by
  unfold oEq eqOk PyData.eqv
  rfl
theorem oNe_str {a b : Str} : oNe (.str a) (.str b) = some (.bool (!(a == b))) := by
  unfold oNe eqOk PyData.eqv
  rfl
theorem rgD_mem {j k : Int} {d : PyData} (h : d ∈ rgD j k) : ∃ i : Int, d = .int i ∧ j ≤ i ∧ i < k := by
  unfold rgD at h
  obtain ⟨i, hi, rfl⟩ := List.mem_map.mp h
  have := List.mem_range.mp hi
  exact ⟨_, rfl, by omega, by omega⟩
theorem rgOk_nat {j : Nat} (h : j ≤ 1000000) : rgOk (j : Int) = true := by
  unfold rgOk
  rw [Bool.and_eq_true]
  exact ⟨decide_eq_true (by omega), decide_eq_true (by omega)⟩
def sameLoop (D : NExp) : NStm := sFor (iRg1 (aCons (.e (nCB bLen (aCons (.o 1) (aNil)))) (aNil))) (gN 2) (sIf (tNot' (asT (.e (nCall D (aCons (.e (nOp2 oIx (.o 0) (.o 2))) (aCons (.e (nOp2 oIx (.o 1) (.o 2))) (aNil))))))) (sRet (nC (.bool false))) (sNil))
def sameHead (D : NExp) : NStm := sSeq (sIf (tOr' (asB (nOp2 oNe (.e (nIsi "tuple" (.o 1))) (.e (nIsi "tuple" (.o 0))))) (asB (nOp2 oNe (.e (nIsi "list" (.o 1))) (.e (nIsi "list" (.o 0)))))) (sRet (nC (.bool false))) (sNil))
  (sSeq (sIf (asB (nOp2 oNe (.e (nCB bLen (aCons (.o 0) (aNil)))) (.e (nCB bLen (aCons (.o 1) (aNil)))))) (sRet (nC (.bool false))) (sNil))
  (sSeq (sameLoop D)
  (sRet (nC (.bool true)))))
def sameRest (D : NExp) : NStm := (sSeq (sIf (asT (.e (nIsi "dict" (.o 1)))) (sSeq (sIf (tOr' (tNot' (asT (.e (nIsi "dict" (.o 0))))) (asB (nOp2 oNe (.e (nCB bLen (aCons (.o 0) (aNil)))) (.e (nCB bLen (aCons (.o 1) (aNil))))))) (sRet (nC (.bool false))) (sNil))
  (sRet (nOp2 oEq (.e (nL (nLc (iV (nF 1)) (gN 3) (tOr' (asB (nOp2 oNotIn (.o 3) (.o 0))) (tNot' (asT (.e (nCall D (aCons (.e (nOp2 oIx (.o 0) (.o 3))) (aCons (.e (nOp2 oIx (.o 1) (.o 3))) (aNil)))))))) (nV 3) [3]))) (.e (nL (nLstO (aNil))))))) (sNil))
  (sSeq (sIf (asB (nOp2 oNe (.e (nIsi "bool" (.o 1))) (.e (nIsi "bool" (.o 0))))) (sRet (nC (.bool false))) (sNil))
  (sSeq (sIf (tOr' (asB (nOp2 oNe (.e (nIsi "int" (.o 1))) (.e (nIsi "int" (.o 0))))) (asB (nOp2 oNe (.e (nIsi "str" (.o 1))) (.e (nIsi "str" (.o 0)))))) (sRet (nC (.bool false))) (sNil))
  (sRet (nOp2 oEq (.o 0) (.o 1))))))
theorem sameB_eq (D : NExp) : sameB D = sSeq (sIf (asB (nOp2 oIs (.o 1) (.e (nC .none)))) (sRet (nOp2 oIs (.o 0) (.e (nC .none)))) (sNil)) (sSeq (sIf (tOr' (asT (.e (nIsi "tuple" (.o 1)))) (asT (.e (nIsi "list" (.o 1))))) (sameHead D) sNil) (sameRest D)) := rfl
theorem same_loop {k : Nat} {d : PyData} {xs : List PyData} (hlen : bLen [d] = some (.int xs.length)) (hix : ∀ i : Int, oIx d (.int i) = atI xs i) (hz : xs.length ≤ 1000000)
    (ih : ∀ x ∈ xs, Same k [some (.val x), some (.val x)] = .ok (.bool true) [some (.val x), some (.val x)]) {Nx : NSt → Prop} {Rt : PyData → NSt → Prop} {Bk Ct : NSt → Prop} (h : ∀ x2, Nx [some (.val d), some (.val d), x2, none]) :
    WpS (sameLoop (Same k) [some (.val d), some (.val d), none, none]) Nx Rt Bk Ct := by
  unfold sameLoop
  have er : rg1 [.v (.int (xs.length : Int))] = some (rgD 0 xs.length) := rg1_at (rgOk_nat hz)
  simp -dsimp [hlen, er]
  refine wps_forL (fun ds n => ∃ x2 : Option Sl, n = [some (.val d), some (.val d), x2, none] ∧ Vl x2 ∧ ∀ e ∈ ds, ∃ i : Int, e = .int i ∧ 0 ≤ i ∧ i < xs.length) ?_ ?_ _ _ ⟨none, rfl, Vl.none, fun e he => rgD_mem he⟩
  · rintro e ds n ⟨x2, rfl, v2, hm⟩
    refine ⟨_, gN_vl rfl v2, ?_⟩
    obtain ⟨i, rfl, h0, h1⟩ := hm e List.mem_cons_self
    obtain ⟨x, ex, hx⟩ := atI_nat h0 h1
    simp -dsimp [hix, ex, ih x hx, Vl]
    exact fun e he => hm e (List.mem_cons_of_mem _ he)
  · rintro n ⟨x2, rfl, v2, hm⟩
    exact h x2
theorem same_seq {k : Nat} {d : PyData} {xs : List PyData} {tl tt : Bool} (ht : isTy "tuple" d = tt) (hl : isTy "list" d = tl) (hor : (tt || tl) = true) (hn : isNoneD d = false) (hlen : bLen [d] = some (.int xs.length)) (hix : ∀ i : Int, oIx d (.int i) = atI xs i) (hz : xs.length ≤ 1000000)
    (ih : ∀ x ∈ xs, Same k [some (.val x), some (.val x)] = .ok (.bool true) [some (.val x), some (.val x)]) : Same (k + 1) [some (.val d), some (.val d)] = .ok (.bool true) [some (.val d), some (.val d)] := by
  apply wp_eq
  show Wp (runD 4 (sameB (Same k)) [some (.val d), some (.val d)]) _
  rw [wp_run, sameB_eq]
  have go : ∀ {Nx : NSt → Prop} {Rt : PyData → NSt → Prop} {Bk Ct : NSt → Prop}, (∀ x2, Rt (.bool true) [some (.val d), some (.val d), x2, none]) → WpS (sameHead (Same k) [some (.val d), some (.val d), none, none]) Nx Rt Bk Ct := fun h => by
    unfold sameHead
    simp -dsimp [ht, hl, hlen, oNe_bool]
    exact same_loop hlen hix hz ih fun x2 => by simpa using h x2
  cases tt <;> cases tl <;> first | exact absurd hor (by decide) | (
    simp -dsimp [ht, hl, hn]
    refine go fun x2 => ?_
    simp -dsimp)
theorem same_refl : ∀ (k : Nat) (d : PyData), sOk k d → Same k [some (.val d), some (.val d)] = .ok (.bool true) [some (.val d), some (.val d)]
  | 0, _, h => h.elim
  | k + 1, d, h => by
    cases d with
    | list xs => exact same_seq (xs := xs) (tt := false) (tl := true) (by simp -dsimp [isTy]) (by simp -dsimp [isTy]) rfl rfl rfl (fun i => rfl) h.1 fun x hx => same_refl k x (h.2 x hx)
    | tuple xs => exact same_seq (xs := xs) (tt := true) (tl := false) (by simp -dsimp [isTy]) (by simp -dsimp [isTy]) rfl rfl rfl (fun i => rfl) h.1 fun x hx => same_refl k x (h.2 x hx)
    | dict _ => exact h.elim
    | none =>
      apply wp_eq
      show Wp (runD 4 (sameB (Same k)) _) _
      rw [wp_run, sameB_eq]
      simp -dsimp [sameRest]
    | bool b =>
      apply wp_eq
      show Wp (runD 4 (sameB (Same k)) _) _
      rw [wp_run, sameB_eq]
      simp -dsimp [sameRest, isTy, oNe_bool, oEq_bool]
    | int b =>
      apply wp_eq
      show Wp (runD 4 (sameB (Same k)) _) _
      rw [wp_run, sameB_eq]
      simp -dsimp [sameRest, isTy, oNe_bool]
    | str b =>
      apply wp_eq
      show Wp (runD 4 (sameB (Same k)) _) _
      rw [wp_run, sameB_eq]
      simp -dsimp [sameRest, isTy, oNe_bool, oEq_str]
end NL
end L2
/-! M3: more joints. -/
namespace L2
namespace NL
open PySem PySem.Spec PyProof.Rows
section
variable {α : Type} {n : NSt} {i j : Nat} {P : PyData → NSt → Prop} {Pd : List PyData → NSt → Prop} {f g : NExp} {p q u : Opd} {d : PyData} {t : NSt → R Bool}
  {Nx : NSt → Prop} {Rt : PyData → NSt → Prop} {Bk Ct : NSt → Prop} {fs : NSt → R (List AV)} {Po : Option Int → NSt → Prop}
@[simp ↓] theorem wps_sSetI {fk fe : NExp} : WpS (sSetI i fk fe n) Nx Rt Bk Ct = Wp (fe n) fun d n1 => (heldAt n1 i).isSome = true ∧ Wp (fk n1) fun k n2 => onO (heldAt n2 i) fun z => onI k fun j => onO (ixN z.2.length j) fun m => Nx (n2.set i (some (z.1.put (z.2.set m d)))) := by
  unfold sSetI
  rw [wps_st]
  refine wp_ext fun d n1 => ?_
  cases e : heldAt n1 i with
  | none => simp -dsimp
  | some z =>
    simp -dsimp only [wps_st, Option.isSome_some, true_and]
    refine wp_ext fun k n2 => ?_
    cases e2 : heldAt n2 i with
    | none => simp -dsimp
    | some y =>
      obtain ⟨sl, xs⟩ := y
      cases k with
      | int j => cases e3 : ixN xs.length j <;> simp -dsimp [e3]
      | _ => simp -dsimp [onI]
@[simp ↓] theorem wp_op2O {o : PyData → PyData → Option (List PyData)} : Wp (nOp2O o p q n) Pd = Wp (p.run n) fun a n1 => Wp (q.run n1) fun b n2 => onO (a.get n2) fun x => onO (b.get n2) fun y => onO (o x y) fun z => Pd z n2 := by
  unfold nOp2O
  rw [wp_bind]
  refine wp_ext fun a n1 => ?_
  rw [wp_bind]
  refine wp_ext fun b n2 => ?_
  cases ea : a.get n2 <;> cases eb : b.get n2 <;> simp -dsimp
@[simp ↓] theorem wp_pNone : Wp (pNone n) Po = Po none n := id rfl
@[simp ↓] theorem wp_pSome : Wp (pSome f n) Po = Wp (f n) fun d n' => onI d fun i => Po (some i) n' := by
  unfold pSome
  rw [wp_bind]
  refine wp_ext fun d n' => ?_
  cases d <;> simp -dsimp [onI]
@[simp ↓] theorem wp_sl {fl fh : NSt → R (Option Int)} : Wp (nSl p fl fh n) P = Wp (p.run n) fun a n1 => Wp (fl n1) fun l n2 => Wp (fh n2) fun h n3 => onO (a.get n3) fun x => onO (oSl x l h) fun z => P z n3 := by
  unfold nSl
  rw [wp_bind]
  refine wp_ext fun a n1 => ?_
  rw [wp_bind]
  refine wp_ext fun l n2 => ?_
  rw [wp_bind]
  refine wp_ext fun h n3 => ?_
  cases ea : a.get n3 <;> simp -dsimp
@[simp] theorem oSl_list {xs : List PyData} {l h : Option Int} : oSl (.list xs) l h = some (.list (cutP xs l h)) := id rfl
@[simp] theorem oCatO_list {xs ys : List PyData} : oCatO (.list xs) (.list ys) = if xs.length + ys.length ≤ sizeLine then some (xs ++ ys) else none := id rfl
@[simp] theorem oAdd_list {xs ys : List PyData} : oAdd (.list xs) (.list ys) = if xs.length + ys.length ≤ sizeLine then some (.list (xs ++ ys)) else none := id rfl
@[simp] theorem bTuple_list {xs : List PyData} : bTuple [.list xs] = some (.tuple xs) := id rfl
@[simp] theorem bTuple_tuple {xs : List PyData} : bTuple [.tuple xs] = some (.tuple xs) := id rfl
@[simp ↓] theorem wp_listO : Wp (nListO p n) Pd = Wp (p.run n) fun a n1 => onO (a.get n1) fun d => onO (match d with | .list xs => some xs | .tuple xs => some xs | _ => none) fun xs => Pd xs n1 := by
  unfold nListO
  rw [wp_bind]
  refine wp_ext fun a n1 => ?_
  cases e : a.get n1 with
  | none => simp -dsimp
  | some d => cases d <;> simp -dsimp
@[simp ↓] theorem wp_meth1 {m : List PyData → PyData → Option (List PyData × PyData)} : Wp (nMeth1 i m p n) P = ((heldAt n i).isSome = true ∧ Wp (p.run n) fun a n1 => onO (heldAt n1 i) fun z => onO (a.get n1) fun d => onO (m z.2 d) fun y => P y.2 (n1.set i (some (z.1.put y.1)))) := by
  unfold nMeth1
  cases e : heldAt n i with
  | none => simp -dsimp
  | some z =>
    simp -dsimp only [wp_bind, Option.isSome_some, true_and]
    refine wp_ext fun a n1 => ?_
    cases e2 : heldAt n1 i with
    | none => simp -dsimp
    | some y =>
      obtain ⟨sl, xs⟩ := y
      cases e3 : a.get n1 with
      | none => simp -dsimp
      | some d =>
        cases e4 : m xs d with
        | none => simp -dsimp [e4]
        | some w => obtain ⟨ys, zz⟩ := w; simp -dsimp [e4]
@[simp ↓] theorem wps_sPar {fa fb : NSt → R EV} : WpS (sPar i j fa fb n) Nx Rt Bk Ct = Wp (fa n) fun x n1 => Wp (fb n1) fun y n2 => notLent n2 i = true ∧ notLent n2 j = true ∧ Nx ((n2.set i (some x.sl)).set j (some y.sl)) := by
  unfold sPar
  rw [wps_st]
  refine wp_ext fun x n1 => ?_
  rw [wps_st]
  refine wp_ext fun y n2 => ?_
  by_cases h : notLent n2 i = true ∧ notLent n2 j = true
  · rw [if_pos h]; simp -dsimp only [h.1, h.2, true_and, wps_nx]
  · rw [if_neg h]
    simp -dsimp only [wps_bad]
    simp -dsimp only [eq_iff_iff, false_iff]
    exact fun z => h ⟨z.1, z.2.1⟩
@[simp ↓] theorem wp_evV {Pe : EV → NSt → Prop} : Wp (evV f n) Pe = Wp (f n) fun d n' => Pe (.v d) n' := by
  unfold evV
  rw [wp_bind]
  rfl
@[simp ↓] theorem wp_evO {fo : NSt → R (List PyData)} {Pe : EV → NSt → Prop} : Wp (evO fo n) Pe = Wp (fo n) fun d n' => Pe (.w d) n' := by
  unfold evO
  rw [wp_bind]
  rfl
@[simp] theorem sl_v : EV.sl (.v d) = .val d := id rfl
@[simp] theorem sl_w {xs : List PyData} : EV.sl (.w xs) = .own xs := id rfl
@[simp] theorem bMax_two {a b : Int} : bMax [.int a, .int b] = some (.int (max a b)) := id rfl
@[simp] theorem bMin_two {a b : Int} : bMin [.int a, .int b] = some (.int (min a b)) := id rfl
end
end NL
end L2
/-! M4: rows of rows: enumerate, range, zip; what is alike. -/
namespace L2
namespace NL
open PySem PySem.Spec PyProof.Rows
section
variable {n : NSt} {P : List PyData → NSt → Prop} {fs : NSt → R (List AV)}
def en1 (as : List AV) : Option (List PyData) := match as with
  | [.v (.list xs)] => some (enumD 0 xs)
  | _ => none
@[simp] theorem en1_list {xs : List PyData} : en1 [.v (.list xs)] = some (enumD 0 xs) := id rfl
@[simp ↓] theorem wp_iEn : Wp (iEn fs n) P = Wp (fs n) fun as n' => onO (en1 as) fun xs => P xs n' := by
  unfold iEn
  rw [wp_bind]
  refine wp_ext fun as n' => ?_
  unfold en1
  split <;> simp -dsimp
def zp1 (as : List AV) : Option (List PyData) := match as with
  | [.v (.list xs), .v (.list ys)] => some (zipD xs ys)
  | [.v (.tuple xs), .v (.tuple ys)] => some (zipD xs ys)
  | _ => none
@[simp] theorem zp1_list {xs ys : List PyData} : zp1 [.v (.list xs), .v (.list ys)] = some (zipD xs ys) := id rfl
@[simp] theorem zp1_tuple {xs ys : List PyData} : zp1 [.v (.tuple xs), .v (.tuple ys)] = some (zipD xs ys) := id rfl
@[simp ↓] theorem wp_iZp : Wp (iZp fs n) P = Wp (fs n) fun as n' => onO (zp1 as) fun xs => P xs n' := by
  unfold iZp
  rw [wp_bind]
  refine wp_ext fun as n' => ?_
  unfold zp1
  split <;> simp -dsimp
end
theorem enumD_mem : ∀ {k : Nat} {xs : List PyData} {d : PyData}, d ∈ enumD k xs → ∃ (i : Nat) (x : PyData), d = .tuple [.int (i : Int), x] ∧ x ∈ xs
  | k, [], d, h => by simp -dsimp [enumD] at h
  | k, x :: xs, d, h => by
    unfold enumD at h
    rcases List.mem_cons.mp h with rfl | h
    · exact ⟨k, x, rfl, List.mem_cons_self⟩
    · obtain ⟨i, y, e, hy⟩ := enumD_mem h
      exact ⟨i, y, e, List.mem_cons_of_mem _ hy⟩
/-- f of each place and thing -/
def ixMap (f : Nat → PyData → PyData) : Nat → List PyData → List PyData
  | _, [] => []
  | k, x :: xs => f k x :: ixMap f (k + 1) xs
theorem ixMap_enum (f : Nat → PyData → PyData) (F : PyData → PyData) (h : ∀ (k : Nat) (x : PyData), F (.tuple [.int (k : Int), x]) = f k x) : ∀ (k : Nat) (xs : List PyData), (enumD k xs).map F = ixMap f k xs
  | _, [] => rfl
  | k, x :: xs => by
    simp -dsimp only [enumD, List.map_cons, ixMap, h]
    rw [ixMap_enum f F h (k + 1) xs]
theorem ixMap_len (f : Nat → PyData → PyData) : ∀ (k : Nat) (xs : List PyData), (ixMap f k xs).length = xs.length
  | _, [] => rfl
  | k, x :: xs => by simp -dsimp [ixMap, ixMap_len f (k + 1) xs]
theorem ixMap_mem (f : Nat → PyData → PyData) : ∀ {k : Nat} {xs : List PyData} {d : PyData}, d ∈ ixMap f k xs → ∃ i x, x ∈ xs ∧ d = f i x ∧ k ≤ i ∧ i < k + xs.length
  | k, [], d, h => by simp -dsimp [ixMap] at h
  | k, x :: xs, d, h => by
    unfold ixMap at h
    rcases List.mem_cons.mp h with rfl | h
    · exact ⟨k, x, List.mem_cons_self, rfl, by omega, by simp -dsimp⟩
    · obtain ⟨i, y, hy, e, h1, h2⟩ := ixMap_mem f h
      exact ⟨i, y, List.mem_cons_of_mem _ hy, e, by omega, by simp -dsimp; omega⟩
theorem ixMap_get (f : Nat → PyData → PyData) : ∀ (k : Nat) (xs : List PyData) (i : Nat), (ixMap f k xs)[i]? = (xs[i]?).map (f (k + i))
  | _, [], i => by simp -dsimp [ixMap]
  | k, x :: xs, 0 => by simp -dsimp [ixMap]
  | k, x :: xs, i + 1 => by
    simp -dsimp only [ixMap, List.getElem?_cons_succ]
    rw [ixMap_get f (k + 1) xs i]
    congr 2
    omega
theorem ixMap_range (f : Nat → PyData → PyData) (F : PyData → PyData) (xs : List PyData) (h : ∀ (k : Nat) (x : PyData), xs[k]? = some x → F (.int (k : Int)) = f k x) : (rgD 0 xs.length).map F = ixMap f 0 xs := by
  apply List.ext_getElem?
  intro i
  rw [ixMap_get]
  unfold rgD
  simp -dsimp only [List.map_map]
  by_cases hi : i < xs.length
  · rw [List.getElem?_map, List.getElem?_range (by omega)]
    have e := List.getElem?_eq_getElem hi
    rw [e]
    simp -dsimp only [Option.map_some, Function.comp]
    have := h i _ e
    simpa using this
  · have : xs.length ≤ i := by omega
    simp -dsimp [this]
theorem ixMap_congr {f g : Nat → PyData → PyData} : ∀ {k : Nat} {xs : List PyData}, (∀ i x, x ∈ xs → f i x = g i x) → ixMap f k xs = ixMap g k xs
  | _, [], _ => rfl
  | k, x :: xs, h => by
    simp -dsimp only [ixMap]
    rw [h k x List.mem_cons_self, ixMap_congr fun i y hy => h i y (List.mem_cons_of_mem _ hy)]
theorem map_ixMap (f : Nat → PyData → PyData) (F : PyData → PyData) : ∀ (k : Nat) (xs : List PyData), (ixMap f k xs).map F = ixMap (fun i x => F (f i x)) k xs
  | _, [] => rfl
  | k, x :: xs => by simp -dsimp [ixMap, map_ixMap f F (k + 1) xs]
theorem ixMap_const (F : PyData → PyData) : ∀ (k : Nat) (xs : List PyData), ixMap (fun _ x => F x) k xs = xs.map F
  | _, [] => rfl
  | k, x :: xs => by simp -dsimp [ixMap, ixMap_const F (k + 1) xs]
theorem atI_nat2 {xs : List PyData} {k : Nat} : atI xs (k : Int) = xs[k]? := by
  unfold atI ixN
  rw [if_pos (by omega)]
  by_cases h : (k : Int) < xs.length
  · rw [if_pos h]
    rfl
  · rw [if_neg h]
    have : xs.length ≤ k := by omega
    simp -dsimp [this]
theorem sOk_list {k : Nat} {xs : List PyData} (hl : xs.length ≤ 1000000) (h : ∀ x ∈ xs, sOk k x) : sOk (k + 1) (.list xs) := ⟨hl, h⟩
theorem sOk_tuple {k : Nat} {xs : List PyData} (hl : xs.length ≤ 1000000) (h : ∀ x ∈ xs, sOk k x) : sOk (k + 1) (.tuple xs) := ⟨hl, h⟩
theorem boolsOf_mapB (F : PyData → Bool) : ∀ xs : List PyData, boolsOf (xs.map fun x => .bool (F x)) = some (xs.map F)
  | [] => rfl
  | x :: xs => by simp -dsimp [boolsOf, boolsOf_mapB F xs]
theorem filter_all (xs : List PyData) : xs.filter (fun _ => true) = xs := List.filter_eq_self.mpr fun _ _ => rfl
end NL
end L2
/-! M5: comparisons of rows. -/
namespace L2
namespace NL
open PySem PySem.Spec PyProof.Rows
/-- of a shape that == may be asked of -/
def Shp (k : Nat) (d : PyData) : Prop := d.canLay0 = true ∧ d.depth ≤ k
theorem Shp.int {k : Nat} {i : Int} : Shp (k + 1) (.int i) := ⟨by simp -dsimp [PyData.canLay0], by simp -dsimp [PyData.depth]⟩
theorem Shp.bool {k : Nat} {i : Bool} : Shp (k + 1) (.bool i) := ⟨by simp -dsimp [PyData.canLay0], by simp -dsimp [PyData.depth]⟩
theorem Shp.none {k : Nat} : Shp (k + 1) .none := ⟨by simp -dsimp [PyData.canLay0], by simp -dsimp [PyData.depth]⟩
theorem canLayAll : ∀ {l : List PyData}, (∀ x ∈ l, x.canLay0 = true) → PyData.canLayAll0 l = true
  | [], _ => by simp -dsimp [PyData.canLayAll0]
  | x :: l, h => by
    unfold PyData.canLayAll0
    rw [h x List.mem_cons_self, canLayAll fun y hy => h y (List.mem_cons_of_mem _ hy)]
    rfl
theorem depthAll_le {k : Nat} : ∀ {l : List PyData}, (∀ x ∈ l, x.depth ≤ k) → PyData.depthAll l ≤ k
  | [], _ => by simp -dsimp [PyData.depthAll]
  | x :: l, h => by
    unfold PyData.depthAll
    have h1 := h x List.mem_cons_self
    have h2 := depthAll_le fun y hy => h y (List.mem_cons_of_mem _ hy)
    omega
theorem Shp.list {k : Nat} {l : List PyData} (h : ∀ x ∈ l, Shp k x) : Shp (k + 1) (.list l) := by
  refine ⟨?_, ?_⟩
  · unfold PyData.canLay0
    exact canLayAll fun x hx => (h x hx).1
  · unfold PyData.depth
    have := depthAll_le fun x hx => (h x hx).2
    omega
theorem Shp.tuple {k : Nat} {l : List PyData} (h : ∀ x ∈ l, Shp k x) : Shp (k + 1) (.tuple l) := by
  refine ⟨?_, ?_⟩
  · unfold PyData.canLay0
    exact canLayAll fun x hx => (h x hx).1
  · unfold PyData.depth
    have := depthAll_le fun x hx => (h x hx).2
    omega
theorem Shp.shaped {k : Nat} {d : PyData} (h : Shp k d) (hk : k ≤ 64) : SeqAt.shaped d = true := by
  unfold SeqAt.shaped
  rw [h.1, Bool.true_and]
  exact decide_eq_true (Nat.le_trans h.2 hk)
theorem oEq_nil {l : List PyData} {k : Nat} (h : ∀ x ∈ l, Shp k x) (hk : k < 64) : oEq (.list l) (.list []) = some (.bool l.isEmpty) := by
  show (if (SeqAt.shaped (.list l) && SeqAt.shaped (.list [])) = true then some (PyData.bool (PyData.eqv (.list l) (.list []))) else none) = _
  have h1 := (Shp.list h).shaped (by omega)
  have h2 : SeqAt.shaped (.list []) = true := by decide +kernel
  rw [h1, h2]
  cases l with
  | nil => simp -dsimp [PyData.eqv, PyData.eqvAll]
  | cons x l => simp -dsimp [PyData.eqv, PyData.eqvAll]
theorem oNe_nil {l : List PyData} {k : Nat} (h : ∀ x ∈ l, Shp k x) (hk : k < 64) : oNe (.list l) (.list []) = some (.bool (!l.isEmpty)) := by
  show (if (SeqAt.shaped (.list l) && SeqAt.shaped (.list [])) = true then some (PyData.bool (!PyData.eqv (.list l) (.list []))) else none) = _
  have h1 := (Shp.list h).shaped (by omega)
  have h2 : SeqAt.shaped (.list []) = true := by decide +kernel
  rw [h1, h2]
  cases l with
  | nil => simp -dsimp [PyData.eqv, PyData.eqvAll]
  | cons x l => simp -dsimp [PyData.eqv, PyData.eqvAll]
theorem bAll_map (F : PyData → Bool) (xs : List PyData) : bAll [.list (xs.map fun x => .bool (F x))] = some (.bool (xs.all F)) := by
  show (boolsOf _).map _ = _
  rw [boolsOf_mapB]
  simp -dsimp
end NL
end L2
/-! M6: two clauses, sorted(set), tuple(range), x += e. -/
namespace L2
namespace NL
open PySem PySem.Spec PyProof.Rows
section
variable {n : NSt} {i : Nat} {f : NExp} {q p : Opd} {P : PyData → NSt → Prop} {Pd : List PyData → NSt → Prop} {Nx : NSt → Prop} {Rt : PyData → NSt → Prop} {Bk Ct : NSt → Prop}
@[simp ↓] theorem wps_sAug {o : PyData → PyData → Option PyData} : WpS (sAug i o q n) Nx Rt Bk Ct = onSl n[i]? (fun x => Wp (q.run n) fun b n1 => onO (b.get n1) fun y => onO (o x y) fun z => notLent n1 i = true ∧ Nx (n1.set i (some (.val z)))) (fun _ => False) (fun _ => False) (fun _ => False) := by
  unfold sAug
  generalize n[i]? = w
  rcases w with _ | _ | sl
  · rfl
  · rfl
  · cases sl with
    | val x =>
      rw [onSl_val]
      dsimp only
      rw [wps_st]
      refine wp_ext fun b n1 => ?_
      cases b.get n1 with
      | none => rfl
      | some y =>
        rw [onO_some]
        dsimp only
        cases o x y with
        | none => rfl
        | some z =>
          rw [onO_some]
          dsimp only
          by_cases h : notLent n1 i = true
          · rw [if_pos h]; exact propext ⟨fun z => ⟨h, z⟩, And.right⟩
          · rw [if_neg h]; exact propext ⟨False.elim, fun z => h z.1⟩
    | _ => rfl
@[simp] theorem oAddI_int {a b : Int} : oAddI (.int a) (.int b) = some (.int (a + b)) := id rfl
@[simp] theorem oSubI_int {a b : Int} : oSubI (.int a) (.int b) = some (.int (a - b)) := id rfl
@[simp ↓] theorem wp_sortU : Wp (nSortU p n) Pd = Wp (p.run n) fun a n1 => onO (a.get n1) fun d => onL d fun xs => onO (intsOf xs) fun ns => ns.length < 63 ∧ Pd ((sortU ns).map .int) n1 := by
  unfold nSortU
  rw [wp_bind]
  refine wp_ext fun a n1 => ?_
  cases a.get n1 with
  | none => rfl
  | some d =>
    cases d with
    | list xs =>
      rw [onO_some, onL_list]
      dsimp only
      cases intsOf xs with
      | none => rfl
      | some ns =>
        rw [onO_some]
        dsimp only
        by_cases h : ns.length < 63
        · rw [if_pos h]; simp -dsimp [h]
        · rw [if_neg h]; simp -dsimp [h]
    | _ => rfl
theorem wp_tupRg1 {j : Int} (h0 : 0 ≤ j) (h1 : j ≤ 100000) : Wp (nTupRg (aCons (.e (nC (.int j))) aNil) n) P = P (.tuple (rgD 0 j)) n := by
  have e : nTupRg (aCons (.e (nC (.int j))) aNil) n = if 0 ≤ j ∧ j ≤ 100000 then .ok (.tuple (rgD 0 j)) n else .bad := id rfl
  rw [e, if_pos ⟨h0, h1⟩, wp_ok]
@[simp] theorem oSl_tuple {xs : List PyData} {l h : Option Int} : oSl (.tuple xs) l h = some (.tuple (cutP xs l h)) := id rfl
theorem oAdd_tup {xs ys : List PyData} (h : xs.length + ys.length ≤ 10000) : oAdd (.tuple xs) (.tuple ys) = some (.tuple (xs ++ ys)) := by
  have e : oAdd (.tuple xs) (.tuple ys) = if xs.length + ys.length ≤ sizeLine then some (.tuple (xs ++ ys)) else none := id rfl
  have := sizeBig
  rw [e, if_pos (by omega)]
theorem oMul_sm {a b : Int} (h : -(2 ^ 64) < a ∧ a < 2 ^ 64) : oMul (.int a) (.int b) = some (.int (a * b)) := by
  have e : oMul (.int a) (.int b) = if CMul a b ∨ CMulW a b then some (.int (a * b)) else none := id rfl
  rw [e, if_pos (.inl (.inl h))]
end
theorem sum_map_int : ∀ ns : List Int, bSum [.list (ns.map PyData.int)] = some (.int ns.sum) := fun ns => by
  show (intsOf (ns.map PyData.int)).map _ = _
  rw [intsOf_map]
  rfl
theorem eqv_int {a b : Int} : PyData.eqv (.int a) (.int b) = decide (a = b) := by
  unfold PyData.eqv
  by_cases h : a = b <;> simp [h]
/-- ints in a tuple of ints -/
theorem inInts {k : Int} {ns : List Int} : inD (.int k) (.tuple (ns.map PyData.int)) = some (decide (k ∈ ns)) := by
  have sh : SeqAt.shaped (.tuple (ns.map PyData.int)) = true := by
    refine (Shp.tuple (k := 1) fun x hx => ?_).shaped (by omega)
    obtain ⟨i, _, rfl⟩ := List.mem_map.mp hx
    exact Shp.int
  have e : inD (.int k) (.tuple (ns.map PyData.int)) = if SeqAt.shaped (.int k) = true ∧ SeqAt.shaped (.tuple (ns.map PyData.int)) = true then some ((ns.map PyData.int).any fun z => PyData.eqv z (.int k)) else none := id rfl
  rw [e, if_pos ⟨Shp.shaped (k := 1) Shp.int (by omega), sh⟩]
  congr 1
  induction ns with
  | nil => rfl
  | cons a ns ih =>
    rw [List.map_cons, List.any_cons, ih (Shp.shaped (k := 2) (Shp.tuple fun x hx => by obtain ⟨i, _, rfl⟩ := List.mem_map.mp hx; exact Shp.int) (by omega)) rfl, eqv_int]
    by_cases h : a = k
    · simp [h]
    · have h' : ¬ k = a := fun z => h z.symm
      simp [h, h']
theorem oIn_ints {k : Int} {ns : List Int} : oIn (.int k) (.tuple (ns.map PyData.int)) = some (.bool (decide (k ∈ ns))) := by
  unfold oIn
  rw [inInts]
  rfl
theorem oNotIn_ints {k : Int} {ns : List Int} : oNotIn (.int k) (.tuple (ns.map PyData.int)) = some (.bool (!decide (k ∈ ns))) := by
  unfold oNotIn
  rw [inInts]
  rfl
/-- pairs of ints, rows of them -/
def dP (p : Int × Int) : PyData := .tuple [.int p.1, .int p.2]
def dR (r : List (Int × Int)) : PyData := .tuple (r.map dP)
theorem eqv_dP {p q : Int × Int} : PyData.eqv (dP p) (dP q) = decide (p = q) := by
  obtain ⟨a, b⟩ := p
  obtain ⟨c, d⟩ := q
  unfold dP
  simp only [PyData.eqv, PyData.eqvAll, Prod.mk.injEq]
  by_cases h : a = c <;> by_cases h2 : b = d <;> simp [h, h2]
theorem eqvAll_dP : ∀ {r s : List (Int × Int)}, PyData.eqvAll (r.map dP) (s.map dP) = decide (r = s)
  | [], [] => by simp [PyData.eqvAll]
  | [], _ :: _ => by simp [PyData.eqvAll]
  | _ :: _, [] => by simp [PyData.eqvAll]
  | p :: r, q :: s => by
    simp only [List.map_cons, PyData.eqvAll, eqv_dP, eqvAll_dP (r := r) (s := s), List.cons.injEq]
    by_cases h : p = q <;> by_cases h2 : r = s <;> simp [h, h2]
theorem eqv_dR {r s : List (Int × Int)} : PyData.eqv (dR r) (dR s) = decide (r = s) := by
  unfold dR
  simp only [PyData.eqv]
  exact eqvAll_dP
theorem shp_dR {r : List (Int × Int)} : Shp 3 (dR r) := by
  unfold dR
  refine Shp.tuple fun x hx => ?_
  obtain ⟨p, _, rfl⟩ := List.mem_map.mp hx
  refine Shp.tuple fun x hx => ?_
  simp only [List.mem_cons, List.not_mem_nil, or_false] at hx
  rcases hx with rfl | rfl <;> exact Shp.int
theorem oEq_dR {r s : List (Int × Int)} : oEq (dR r) (dR s) = some (.bool (decide (r = s))) := by
  have e : oEq (dR r) (dR s) = if (SeqAt.shaped (dR r) && SeqAt.shaped (dR s)) = true then some (.bool (PyData.eqv (dR r) (dR s))) else none := id rfl
  rw [e, if_pos (by rw [shp_dR.shaped (by omega), shp_dR.shaped (by omega)]; rfl), eqv_dR]
theorem oNe_dR {r s : List (Int × Int)} : oNe (dR r) (dR s) = some (.bool (!decide (r = s))) := by
  have e : oNe (dR r) (dR s) = if (SeqAt.shaped (dR r) && SeqAt.shaped (dR s)) = true then some (.bool (!PyData.eqv (dR r) (dR s))) else none := id rfl
  rw [e, if_pos (by rw [shp_dR.shaped (by omega), shp_dR.shaped (by omega)]; rfl), eqv_dR]
/-- a comprehension over a row of pairs -/
theorem lc_rows {fi : NSt → R (List PyData)} {g : PyData → NSt → Option NSt} {t : NSt → R Bool} {f : NExp} {vs : List Nat} {n : NSt} {r : List (Int × Int)} (p : Int × Int → Bool) (F : Int × Int → PyData) (hi : fi n = .ok (r.map dP) n) (hn : noHeld n vs = true)
    (h : ∀ x ∈ r, ∃ n1, g (dP x) (wipeN n vs) = some n1 ∧ t n1 = .ok (p x) n1 ∧ (p x = true → f n1 = .ok (F x) n1) ∧ wipeN n1 vs = wipeN n vs) (hl : r.length ≤ 1000) (hr : restoreN (wipeN n vs) n vs = n) : nLc fi g t f vs n = .ok ((r.filter p).map F) n := by
  have back : ∀ x : Int × Int, (match dP x with | .tuple [.int a, .int b] => (a, b) | _ => ((0, 0) : Int × Int)) = x := fun x => rfl
  have sz := sizeBig
  have e := lc_pure (fi := fi) (g := g) (t := t) (f := f) (vs := vs) (n := n) (ds := r.map dP) (fun d => p (match d with | .tuple [.int a, .int b] => (a, b) | _ => (0, 0))) (fun d => F (match d with | .tuple [.int a, .int b] => (a, b) | _ => (0, 0))) hi hn (fun d hd => ?_) (by rw [List.length_map]; omega) hr
  · rw [e]
    congr 1
    induction r with
    | nil => rfl
    | cons x r ih =>
      clear e hi h
      have ih' : ∀ r : List (Int × Int), List.map (fun d => F (match d with | .tuple [.int a, .int b] => (a, b) | _ => (0, 0))) (List.filter (fun d => p (match d with | .tuple [.int a, .int b] => (a, b) | _ => (0, 0))) (r.map dP)) = (r.filter p).map F := by
        intro r
        induction r with
        | nil => rfl
        | cons x r ih2 =>
          rw [List.map_cons]
          by_cases hp : p x = true
          · rw [List.filter_cons_of_pos (by exact hp), List.filter_cons_of_pos hp, List.map_cons, List.map_cons, ih2]
            rfl
          · rw [List.filter_cons_of_neg (by exact hp), List.filter_cons_of_neg hp, ih2]
      exact ih' _
  · obtain ⟨x, hx, rfl⟩ := List.mem_map.mp hd
    exact h x hx
end NL
end L2
/-! M7: two clauses over rows of pairs. -/
namespace L2
namespace NL
open PySem PySem.Spec PyProof.Rows
def unP (d : PyData) : Int × Int := match d with
  | .tuple [.int a, .int b] => (a, b)
  | _ => (0, 0)
theorem unP_dP {x : Int × Int} : unP (dP x) = x := rfl
theorem map_unP (F : Int × Int → PyData) : ∀ r : List (Int × Int), ((r.map dP).filter fun _ => true).map (fun d => F (unP d)) = r.map F
  | [] => rfl
  | x :: r => by
    rw [List.map_cons, List.filter_cons_of_pos rfl, List.map_cons, map_unP F r]
    rfl
theorem lc2L_rows {g g1 : PyData → NSt → Option NSt} {t t1 : NSt → R Bool} {fi1 : NSt → R (List PyData)} {f : NExp} {vs vs1 : List Nat} {n : NSt} (Rw : PyData → List (Int × Int)) (F : Int × Int → PyData) : ∀ (ds acc : List PyData),
    (∀ d ∈ ds, ∃ n1, g d n = some n1 ∧ t n1 = .ok true n1 ∧ fi1 n1 = .ok ((Rw d).map dP) n1 ∧ noHeld n1 vs1 = true ∧ wipeN (wipeN n1 vs1) vs = n ∧ ∀ x ∈ Rw d, ∃ n2, g1 (dP x) (wipeN n1 vs1) = some n2 ∧ t1 n2 = .ok true n2 ∧ f n2 = .ok (F x) n2 ∧ wipeN n2 vs1 = wipeN n1 vs1) →
    acc.length + (ds.flatMap fun d => (Rw d).map F).length ≤ sizeLine → nLc2L g t fi1 g1 t1 f vs vs1 ds acc n = .ok (acc ++ ds.flatMap fun d => (Rw d).map F) n
  | [], acc, _, _ => by
    unfold nLc2L
    simp
  | d :: ds, acc, h, hl => by
    obtain ⟨n1, e, et, ei, en, ew, hx⟩ := h d List.mem_cons_self
    rw [List.flatMap_cons, List.length_append, List.length_map] at hl
    unfold nLc2L
    rw [e]
    dsimp only
    rw [et]
    show (if true = true then (fi1 n1).bind fun ds1 n3 => if noHeld n3 vs1 = true then (nLcL g1 t1 f vs1 ds1 acc (wipeN n3 vs1)).bind fun acc' n4 => nLc2L g t fi1 g1 t1 f vs vs1 ds acc' (wipeN n4 vs) else .bad else nLc2L g t fi1 g1 t1 f vs vs1 ds acc (wipeN n1 vs)) = _
    rw [if_pos rfl, ei]
    show (if noHeld n1 vs1 = true then (nLcL g1 t1 f vs1 ((Rw d).map dP) acc (wipeN n1 vs1)).bind fun acc' n4 => nLc2L g t fi1 g1 t1 f vs vs1 ds acc' (wipeN n4 vs) else .bad) = _
    rw [if_pos en, lcL_pure (fun _ => true) (fun d => F (unP d)) ((Rw d).map dP) acc (fun y hy => ?_) (by rw [List.length_map]; omega), map_unP]
    · show nLc2L g t fi1 g1 t1 f vs vs1 ds (acc ++ (Rw d).map F) (wipeN (wipeN n1 vs1) vs) = _
      rw [ew, lc2L_rows Rw F ds _ (fun y hy => h y (List.mem_cons_of_mem _ hy)) (by rw [List.length_append, List.length_map]; omega), List.flatMap_cons, List.append_assoc]
    · obtain ⟨x, hx1, rfl⟩ := List.mem_map.mp hy
      obtain ⟨n2, a1, a2, a3, a4⟩ := hx x hx1
      exact ⟨n2, a1, a2, fun _ => a3, a4⟩
theorem lc2_rows {fi : NSt → R (List PyData)} {g g1 : PyData → NSt → Option NSt} {t t1 : NSt → R Bool} {fi1 : NSt → R (List PyData)} {f : NExp} {vs vs1 : List Nat} {n : NSt} {ds : List PyData} (Rw : PyData → List (Int × Int)) (F : Int × Int → PyData) (hi : fi n = .ok ds n) (hn : noHeld n vs = true) (hv : ∀ i ∈ vs1, i ∈ vs)
    (h : ∀ d ∈ ds, ∃ n1, g d (wipeN n vs) = some n1 ∧ t n1 = .ok true n1 ∧ fi1 n1 = .ok ((Rw d).map dP) n1 ∧ noHeld n1 vs1 = true ∧ wipeN (wipeN n1 vs1) vs = wipeN n vs ∧ ∀ x ∈ Rw d, ∃ n2, g1 (dP x) (wipeN n1 vs1) = some n2 ∧ t1 n2 = .ok true n2 ∧ f n2 = .ok (F x) n2 ∧ wipeN n2 vs1 = wipeN n1 vs1)
    (hl : (ds.flatMap fun d => (Rw d).map F).length ≤ sizeLine) (hr : restoreN (wipeN n vs) n vs = n) : nLc2 fi g t fi1 g1 t1 f vs vs1 n = .ok (ds.flatMap fun d => (Rw d).map F) n := by
  unfold nLc2
  rw [hi]
  show (if noHeld n vs = true ∧ ∀ i ∈ vs1, i ∈ vs then (match nLc2L g t fi1 g1 t1 f vs vs1 ds [] (wipeN n vs) with
    | .ok acc n2 => R.ok acc (restoreN n2 n vs)
    | _ => R.bad) else R.bad) = _
  rw [if_pos ⟨hn, hv⟩, lc2L_rows Rw F ds [] h (by simpa using hl)]
  simp [hr]
end NL
end L2
/-! M8: the draws, with so many more at the end. -/
namespace L2
namespace NL
open PySem PySem.Spec PyProof.Rows
def drawsLastC (c : Int) : NStm := sFor (iRg1 (aCons (.e (nC (.int c))) (aNil))) (gN 5) (sSeq (sAsg (nOp2 oMod (.e (nCB bInt (aCons (.e (nOp2 oAdd (.e (nOp2 oMul (.o 2) (.e (nC (.int 48271))))) (.e (nC (.int 69621))))) (aNil)))) (.e (nC (.int 2147483647)))) (gN 2))
  (sExpr (nAppend 1 (nOp2 oFdiv (.o 2) (.e (nC (.int 5)))))))
def drawsBC (c : Int) : NSt → R (List PyData) :=
  sSeqO (sOwn 1 (nLstO (aNil)))
  (sSeqO (sAsg (nC (.int 11)) (gN 2))
  (sSeqO (sFor (iScr 0) (gN 3) (sSeq (sAsg (nCB bAbs (aCons (.e (nCB bInt (aCons (.o 3) (aNil)))) (aNil))) (gN 4))
  (sSeq (sAsg (nOp2 oMod (.e (nCB bInt (aCons (.e (nOp2 oAdd (.e (nOp2 oAdd (.e (nOp2 oMul (.o 2) (.e (nC (.int 48271))))) (.o 4))) (.e (nC (.int 1))))) (aNil)))) (.e (nC (.int 2147483647)))) (gN 2))
  (sSeq (sIf (asB (nOp2 oLt (.o 4) (.e (nOp2 oPow (.e (nC (.int 10))) (.e (nC (.int 18))))))) (sSeq (sExpr (nAppend 1 (nOp2 oMod (.e (nCB bInt (aCons (.o 4) (aNil)))) (.e (nC (.int 997))))))
  (sSeq (sExpr (nAppend 1 (nOp2 oMod (.e (nCB bInt (aCons (.o 2) (aNil)))) (.e (nC (.int 65521))))))
  (sAsg (nC (.int 0)) (gN 4)))) (sNil))
  drawsIn))))
  (sSeqO (drawsLastC c)
  (nLstRev (.o 1)))))
def DrawsC (c : Int) : NSt → R (List PyData) := runDO 6 (drawsBC c)
theorem drawsLastC_spec {c : Int} (hc0 : 0 ≤ c) (hc1 : c ≤ 5000) {S acc : List PyData} {seed : Int} {x3 x4 x5 : Option Sl} (hacc : Dr acc) (h0 : 0 ≤ seed) (h1 : seed < 2147483647) (hl : acc.length ≤ 4500) (v5 : Vl x5) {Nx : NSt → Prop} {Rt : PyData → NSt → Prop} {Bk Ct : NSt → Prop}
    (h : ∀ acc' seed' x5', Dr acc' → Nx [some (.scr S), some (.own acc'), some (.val (.int seed')), x3, x4, x5']) :
    WpS ((drawsLastC c) [some (.scr S), some (.own acc), some (.val (.int seed)), x3, x4, x5]) Nx Rt Bk Ct := by
  have sz := sizeBig
  have hrg : rgOk c = true := by unfold rgOk; rw [Bool.and_eq_true]; exact ⟨decide_eq_true (by omega), decide_eq_true (by omega)⟩
  unfold drawsLastC
  rw [wps_sFor]
  simp -dsimp only [wp_iRg1, wp_aCons, wp_oe, wp_nC, wp_aNil, rg1_at hrg, onO_some]
  refine wps_forL (fun ds n => ∃ (acc' : List PyData) (seed' : Int) (x5 : Option Sl), n = [some (.scr S), some (.own acc'), some (.val (.int seed')), x3, x4, x5] ∧ Dr acc' ∧ 0 ≤ seed' ∧ seed' < 2147483647 ∧ acc'.length + ds.length ≤ 9900 ∧ Vl x5) ?_ ?_ _ _ ⟨acc, seed, x5, rfl, hacc, h0, h1, by rw [rgD_len]; simp -dsimp; omega, v5⟩
  · rintro d ds n ⟨acc', seed', x5, rfl, hacc', h0, h1, hlen, v5⟩
    have hlen : acc'.length + (ds.length + 1) ≤ 9900 := hlen
    refine ⟨_, gN_vl rfl v5, ?_⟩
    have h2 : (0 : Int) ≤ (seed' * 48271 + 69621).fmod 2147483647 := fmod_nn (by omega) (by omega)
    have h3 : (seed' * 48271 + 69621).fmod 2147483647 < 2147483647 := Int.fmod_lt_of_pos _ (by omega)
    generalize hs : (seed' * 48271 + 69621).fmod 2147483647 = seed2 at h2 h3
    have f1 : oFdiv (.int seed2) (.int 5) = some (.int (seed2.fdiv 5)) := fdivS (by omega) (by omega)
    simp -dsimp [mulS h0 h1, hs, f1]
    refine ⟨by omega, _, _, _, ⟨rfl, rfl, rfl⟩, hacc'.snoc (Int.fdiv_nonneg h2 (by omega)), h2, h3, ?_, Vl.val⟩
    simp -dsimp; omega
  · rintro n ⟨acc', seed', x5, rfl, hacc', h0, h1, hlen, v5⟩
    exact h acc' seed' x5 hacc'
theorem drawsC_spec {c : Int} (hc0 : 0 ≤ c) (hc1 : c ≤ 5000) (ns : List Int) (hl : ns.length ≤ 63) {P : List PyData → NSt → Prop} (hP : ∀ l, Dr l → P l [some (.scr (ns.map .int))]) : Wp ((DrawsC c) [some (.scr (ns.map .int))]) P := by
  have sz := sizeBig
  unfold DrawsC
  rw [wp_runO]
  unfold drawsBC
  simp -dsimp [wp_sSeqO]
  refine wps_forL (fun ds n => ∃ (acc : List PyData) (seed : Int) (x3 x4 x5 : Option Sl), n = [some (.scr (ns.map .int)), some (.own acc), some (.val (.int seed)), x3, x4, x5] ∧ Dr acc ∧ 0 ≤ seed ∧ seed < 2147483647 ∧ acc.length + 62 * ds.length ≤ 62 * 63 ∧ Vl x3 ∧ Vl x4 ∧ Vl x5 ∧ ∃ ms : List Int, ds = ms.map .int) ?_ ?_ _ _ ⟨[], 11, none, none, none, rfl, Dr.nil, by omega, by omega, by simp -dsimp; omega, Vl.none, Vl.none, Vl.none, ns, rfl⟩
  · rintro d ds n ⟨acc, seed, x3, x4, x5, rfl, hacc, h0, h1, hlen, v3, v4, v5, ms, hms⟩
    cases ms with
    | nil => cases hms
    | cons m ms =>
      cases hms
      have hlen : acc.length + 62 * (ms.length + 1) ≤ 62 * 63 := by simpa using hlen
      refine ⟨_, gN_vl rfl v3, ?_⟩
      have hm : 0 ≤ absI m := absI_nn
      have h2 : (0 : Int) ≤ (seed * 48271 + absI m + 1).fmod 2147483647 := fmod_nn (by omega) (by omega)
      have h3 : (seed * 48271 + absI m + 1).fmod 2147483647 < 2147483647 := Int.fmod_lt_of_pos _ (by omega)
      generalize hs : (seed * 48271 + absI m + 1).fmod 2147483647 = seed2 at h2 h3
      rcases v4 with rfl | ⟨d4, rfl⟩ <;> (
        simp -dsimp [mulS h0 h1, pow18, hs]
        refine Br_mk (fun hb => ?_) fun hb => ?_
        · simp -dsimp
          refine ⟨by omega, by omega, ?_⟩
          refine drawsIn_spec (hacc.snoc2 (fmod_nn (by omega) (by omega)) (fmod_nn (by omega) (by omega))) (by omega) (by simp -dsimp; omega) v5 fun acc' num' x5' ha hx hv => ?_
          exact ⟨acc', seed2, _, _, _, rfl, ha, h2, h3, by simp -dsimp at hx ⊢; omega, Vl.val, Vl.val, hv, ms, rfl⟩
        · simp -dsimp
          refine drawsIn_spec hacc (by omega) (by omega) v5 fun acc' num' x5' ha hx hv => ?_
          exact ⟨acc', seed2, _, _, _, rfl, ha, h2, h3, by rw [List.length_map]; omega, Vl.val, Vl.val, hv, ms, rfl⟩)
  · rintro n ⟨acc, seed, x3, x4, x5, rfl, hacc, h0, h1, hlen, v3, v4, v5, ms, hms⟩
    rw [wp_sSeqO]
    refine drawsLastC_spec hc0 hc1 hacc h0 h1 (by omega) v5 fun acc' seed' x5' ha => ?_
    simp -dsimp
    exact hP _ ha.rev
end NL
end L2
namespace L2
namespace NL
open PySem PySem.Spec PyProof.Rows
theorem wps_try {i : Nat} {sub : Str → Str → Bool} {tbl known : List Str} {f : NStm} {n : NSt} {Nx : NSt → Prop} {Rt : PyData → NSt → Prop} {Bk Ct : NSt → Prop} (h : WpS (f n) Nx Rt Bk Ct) : WpS (sTryF i sub tbl known f n) Nx Rt Bk Ct := by
  unfold sTryF
  cases e : f n with
  | err x n' => rw [e] at h; exact h.elim
  | _ => rw [e] at h; exact h
theorem wp_pick {gs : List NExp} {fi : NExp} {fs : NSt → R (List AV)} {n : NSt} {P : PyData → NSt → Prop} : Wp (nPick gs fi fs n) P = Wp (fi n) fun d n1 => onI d fun i => 0 ≤ i ∧ onO gs[i.toNat]? fun g => Wp (nCall g fs n1) P := by
  unfold nPick
  rw [wp_bind]
  refine wp_ext fun d n1 => ?_
  cases d with
  | int i =>
    by_cases h : 0 ≤ i
    · simp -dsimp only [onI_int, h, if_pos, true_and]
      cases gs[i.toNat]? <;> rfl
    · simp -dsimp only [onI_int, h, if_neg, not_false_iff, false_and]
      rfl
  | _ => rfl
end NL
end L2
namespace L2
namespace NL
open PySem PySem.Spec PyProof.Rows
namespace Wlaw_k12
abbrev Rw := List (Int × Int)
def dH (hs : List Rw) : PyData := .tuple (hs.map dR)
def dC (cs : List Int) : PyData := .tuple (cs.map .int)
structure GR (r : Rw) : Prop where
  len : r.length ≤ 3
  ok : ∀ p ∈ r, 0 ≤ p.1 ∧ p.1 < p.2 ∧ p.2 ≤ 1440
  asc : r.Pairwise fun p q => p.2 < q.1
structure GH (hs : List Rw) : Prop where
  len : hs.length = 7
  ok : ∀ r ∈ hs, GR r
structure GC (cs : List Int) : Prop where
  len : cs.length ≤ 100
  ok : ∀ c ∈ cs, 0 ≤ c ∧ c < 100
  asc : cs.Pairwise (· < ·)
theorem szn : ∀ j : Nat, j ≤ 1000 → j ≤ sizeLine := fun j h => by have := sizeBig; omega
theorem e31 : D_40 = DrawsC 1400 := rfl
theorem e32 : D_41 = Take := rfl
theorem e33 : D_42 = Pick := rfl
theorem e34 : D_43 = Same := by
  funext k
  induction k with
  | zero => rfl
  | succ k ih =>
    show runD 4 (B_43 (D_43 k)) = runD 4 (sameB (Same k))
    rw [ih]
    rfl
def numQ (v : PyData) (lo hi : Int) : Bool := match v with
  | .int i => decide (lo ≤ i) && decide (i ≤ hi)
  | _ => false
theorem s7 (v : PyData) : D_8 [some (.val v)] = .ok (.bool (match v with | .int _ => true | _ => false)) [some (.val v)] := by
  apply wp_eq
  unfold D_8
  rw [wp_run]
  cases v <;> simp -dsimp [B_8, isTy]
theorem s8 (v : PyData) (lo hi : Int) : D_9 [some (.val v), some (.val (.int lo)), some (.val (.int hi))] = .ok (.bool (numQ v lo hi)) [some (.val v), some (.val (.int lo)), some (.val (.int hi))] := by
  apply wp_eq
  unfold D_9
  rw [wp_run]
  cases v <;> simp -dsimp [B_9, s7, numQ]
  rename_i i
  by_cases h : lo ≤ i <;> simp -dsimp [h, numQ]
theorem s21 (v : PyData) : D_26 [some (.val v)] = .ok (.bool (numQ v 0 10000000)) [some (.val v)] := by
  apply wp_eq
  unfold D_26
  rw [wp_run]
  simp -dsimp [B_26, s8]
theorem atI_0 {x : PyData} {xs : List PyData} : atI (x :: xs) 0 = some x := by
  unfold atI ixN
  rw [if_pos (by omega), if_pos (by simp -dsimp)]
  rfl
theorem atI_1 {x y : PyData} {xs : List PyData} : atI (x :: y :: xs) 1 = some y := by
  unfold atI ixN
  rw [if_pos (by omega), if_pos (by simp -dsimp; omega)]
  rfl
theorem bAll_map {α : Type} (F : α → Bool) (xs : List α) : bAll [.list (xs.map fun x => .bool (F x))] = some (.bool (xs.all F)) := by
  show (boolsOf (xs.map fun x => PyData.bool (F x))).map _ = _
  have : boolsOf (xs.map fun x => PyData.bool (F x)) = some (xs.map F) := by
    induction xs with
    | nil => rfl
    | cons x xs ih => simp [boolsOf, ih]
  rw [this]
  simp
theorem bAny_map {α : Type} (F : α → Bool) (xs : List α) : bAny [.list (xs.map fun x => .bool (F x))] = some (.bool (xs.any F)) := by
  show (boolsOf (xs.map fun x => PyData.bool (F x))).map _ = _
  have : boolsOf (xs.map fun x => PyData.bool (F x)) = some (xs.map F) := by
    induction xs with
    | nil => rfl
    | cons x xs ih => simp [boolsOf, ih]
  rw [this]
  simp
/-- a pair -/
theorem s17 {p : Int × Int} (h0 : 0 ≤ p.1) (h1 : p.1 < p.2) (h2 : p.2 ≤ 1440) : D_22 [some (.val (dP p))] = .ok (.bool true) [some (.val (dP p))] := by
  obtain ⟨a, b⟩ := p
  dsimp only at h0 h1 h2
  have c1 := lc_pure (fi := iV (nF 0)) (g := gN 1) (t := tYesN) (f := nCall D_9 (aCons (.o 1) (aCons (.e (nC (.int 0))) (aCons (.e (nC (.int 1440))) (aNil))))) (vs := [1]) (n := [some (.val (dP (a, b))), none]) (ds := [.int a, .int b]) (fun _ => true) (fun d => .bool (numQ d 0 1440)) rfl rfl
    (fun d hd => ⟨_, rfl, rfl, fun _ => by apply wp_eq; simp -dsimp [s8], rfl⟩) (szn _ (by simp)) rfl
  have hb : bAll [.list [.bool (numQ (.int a) 0 1440), .bool (numQ (.int b) 0 1440)]] = some (.bool true) := by
    have q1 : numQ (.int a) 0 1440 = true := by unfold numQ; rw [Bool.and_eq_true]; exact ⟨decide_eq_true h0, decide_eq_true (by omega)⟩
    have q2 : numQ (.int b) 0 1440 = true := by unfold numQ; rw [Bool.and_eq_true]; exact ⟨decide_eq_true (by omega), decide_eq_true h2⟩
    rw [q1, q2]
    rfl
  rw [filter_all] at c1
  apply wp_eq
  unfold D_22
  rw [wp_run]
  unfold dP at c1 ⊢
  simp only [List.map_cons, List.map_nil] at c1
  simp -dsimp [B_22, isTy, c1, hb, atI_0, atI_1, h1]
theorem Gp {p : Int × Int} : ∃ xs, dP p = .tuple xs := ⟨_, rfl⟩
/-- each less than the next -/
def ascQ (xs : List Int) : Bool := (xs.zip xs.tail).all fun p => decide (p.1 < p.2)
theorem zip_map {α β : Type} (f : α → PyData) (xs ys : List α) : zipD (xs.map f) (ys.map f) = (xs.zip ys).map fun p => .tuple [f p.1, f p.2] := by
  unfold zipD
  induction xs generalizing ys with
  | nil => rfl
  | cons x xs ih =>
    cases ys with
    | nil => rfl
    | cons y ys => simp [ih]
theorem pw_zip {α : Type} {R : α → α → Prop} : ∀ {xs : List α}, xs.Pairwise R → ∀ p ∈ xs.zip xs.tail, R p.1 p.2
  | [], _, p, hp => by simp at hp
  | [x], _, p, hp => by simp at hp
  | x :: y :: xs, h, p, hp => by
    obtain ⟨h1, h2⟩ := List.pairwise_cons.mp h
    have hp : p ∈ (x, y) :: (y :: xs).zip xs := hp
    rcases List.mem_cons.mp hp with rfl | hp
    · exact h1 y List.mem_cons_self
    · exact pw_zip h2 p hp
theorem cut1 {xs : List PyData} : cutP xs (some 1) none = xs.tail := by
  unfold cutP
  rw [HT.sIx_none, show (1 : Int) = ((1 : Nat) : Int) from rfl, HT.sIx_nat]
  cases xs with
  | nil => rfl
  | cons x xs => simp
theorem s18 {r : Rw} (h : GR r) : D_23 [some (.val (dR r))] = .ok (.bool true) [some (.val (dR r))] := by
  have c1 := lc_rows (fi := iV (nF 0)) (g := gN 1) (t := tYesN) (f := nCall D_22 (aCons (.o 1) (aNil))) (vs := [1]) (n := [some (.val (dR r)), none, none]) (r := r) (fun _ => true) (fun _ => .bool true) rfl rfl
    (fun x hx => ⟨_, rfl, rfl, fun _ => by obtain ⟨a, b, c⟩ := h.ok x hx; apply wp_eq; simp -dsimp [s17 a b c], rfl⟩) (by have := h.len; omega) rfl
  have b1 : bAll [.list ((r.filter fun _ => true).map fun _ => .bool true)] = some (.bool true) := by
    rw [bAll_map (fun _ => true)]
    simp
  have c2 := lc_pure (fi := iZp (aCons (.e (nF 0)) (aCons (.e (nSl (.o 0) (pSome (nC (.int 1))) (pNone))) (aNil)))) (g := gT (gCons' (gN 1) (gCons' (gN 2) (gNil')))) (t := tYesN) (f := nOp2 oLt (.e (nOp2 oIx (.o 1) (.e (nC (.int 1))))) (.e (nOp2 oIx (.o 2) (.e (nC (.int 0)))))) (vs := [1, 2]) (n := [some (.val (dR r)), none, none])
    (ds := (r.zip r.tail).map fun p => .tuple [dP p.1, dP p.2]) (fun _ => true) (fun _ => .bool true) (by
      apply wp_eq
      have e : zipD (r.map dP) (r.map dP).tail = (r.zip r.tail).map fun p => .tuple [dP p.1, dP p.2] := by rw [← List.map_tail]; exact zip_map (β := Unit) dP r r.tail
      unfold dR
      simp -dsimp [cut1, e]) rfl (fun d hd => ?_) (szn _ (by rw [List.length_map, List.length_zip]; have := h.len; omega)) rfl
  · have b2 : bAll [.list ((((r.zip r.tail).map fun p => PyData.tuple [dP p.1, dP p.2]).filter fun _ => true).map fun _ => .bool true)] = some (.bool true) := by
      rw [bAll_map (fun _ => true)]
      simp
    apply wp_eq
    unfold D_23
    rw [wp_run]
    have ty : isTy "tuple" (dR r) = true := rfl
    simp -dsimp [B_23, c1, b1, c2, b2, ty]
  · obtain ⟨p, hp, rfl⟩ := List.mem_map.mp hd
    obtain ⟨⟨a, b⟩, ⟨c, d⟩⟩ := p
    have hlt : b < c := pw_zip h.asc _ hp
    refine ⟨_, rfl, rfl, fun _ => ?_, rfl⟩
    apply wp_eq
    unfold dP
    simp -dsimp [atI_0, atI_1, hlt]
end Wlaw_k12
end NL
end L2
namespace L2
namespace NL
open PySem PySem.Spec PyProof.Rows
namespace Wlaw_k12
/-- rows, told by is_day_row -/
def rowB (x : PyData) : Bool := match D_23 [some (.val x)] with
  | .ok (.bool b) _ => b
  | _ => false
def RowV (x : PyData) : Prop := D_23 [some (.val x)] = .ok (.bool (rowB x)) [some (.val x)]
theorem RowV.mk {x : PyData} {b : Bool} (h : D_23 [some (.val x)] = .ok (.bool b) [some (.val x)]) : RowV x ∧ rowB x = b := by
  have e : rowB x = b := by unfold rowB; rw [h]
  exact ⟨by unfold RowV; rw [e]; exact h, e⟩
theorem rowV_dR {r : Rw} (h : GR r) : RowV (dR r) ∧ rowB (dR r) = true := RowV.mk (s18 h)
theorem s19 {xs : List PyData} (h : ∀ x ∈ xs, RowV x) (hl : xs.length ≤ 1000) : D_24 [some (.val (.tuple xs))] = .ok (.bool (decide (xs.length = 7) && xs.all rowB)) [some (.val (.tuple xs))] := by
  have c1 := lc_pure (fi := iV (nF 0)) (g := gN 1) (t := tYesN) (f := nCall D_23 (aCons (.o 1) (aNil))) (vs := [1]) (n := [some (.val (.tuple xs)), none]) (ds := xs) (fun _ => true) (fun d => .bool (rowB d)) rfl rfl
    (fun d hd => ⟨_, rfl, rfl, fun _ => by have hv : D_23 [some (.val d)] = _ := h d hd; apply wp_eq; simp -dsimp [hv], rfl⟩) (szn _ hl) rfl
  rw [filter_all] at c1
  have b1 := bAll_map rowB xs
  apply wp_eq
  unfold D_24
  rw [wp_run]
  have ty : isTy "tuple" (.tuple xs) = true := rfl
  by_cases h7 : xs.length = 7
  · have h7' : (xs.length : Int) = 7 := by omega
    simp -dsimp [B_24, ty, h7', c1, b1]
    simp [h7]
  · have h7' : ¬ (xs.length : Int) = 7 := by omega
    simp -dsimp [B_24, ty, h7']
    simp [h7]
theorem s19g {hs : List Rw} (h : GH hs) : D_24 [some (.val (dH hs))] = .ok (.bool true) [some (.val (dH hs))] := by
  have := s19 (xs := hs.map dR) (fun x hx => by
    obtain ⟨r, hr, rfl⟩ := List.mem_map.mp hx
    exact (rowV_dR (h.ok r hr)).1) (by rw [List.length_map, h.len]; omega)
  rw [show (decide ((hs.map dR).length = 7) && (hs.map dR).all rowB) = true by
    rw [List.length_map, h.len, Bool.and_eq_true]
    refine ⟨rfl, List.all_eq_true.mpr fun x hx => ?_⟩
    obtain ⟨r, hr, rfl⟩ := List.mem_map.mp hx
    exact (rowV_dR (h.ok r hr)).2] at this
  exact this
theorem s9 {cs : List Int} (hl : cs.length ≤ 100) (h : cs.Pairwise (· < ·)) : D_10 [some (.val (dC cs))] = .ok (.bool true) [some (.val (dC cs))] := by
  have c2 := lc_pure (fi := iZp (aCons (.e (nF 0)) (aCons (.e (nSl (.o 0) (pSome (nC (.int 1))) (pNone))) (aNil)))) (g := gT (gCons' (gN 1) (gCons' (gN 2) (gNil')))) (t := tYesN) (f := nOp2 oLt (.o 1) (.o 2)) (vs := [1, 2]) (n := [some (.val (dC cs)), none, none])
    (ds := (cs.zip cs.tail).map fun p => .tuple [.int p.1, .int p.2]) (fun _ => true) (fun _ => .bool true) (by
      apply wp_eq
      have e : zipD (cs.map PyData.int) (cs.map PyData.int).tail = (cs.zip cs.tail).map fun p => .tuple [.int p.1, .int p.2] := by rw [← List.map_tail]; exact zip_map (β := Unit) PyData.int cs cs.tail
      unfold dC
      simp -dsimp [cut1, e]) rfl (fun d hd => ?_) (szn _ (by rw [List.length_map, List.length_zip]; omega)) rfl
  · have b2 : bAll [.list ((((cs.zip cs.tail).map fun p => PyData.tuple [.int p.1, .int p.2]).filter fun _ => true).map fun _ => .bool true)] = some (.bool true) := by
      rw [bAll_map (fun _ => true)]
      simp
    apply wp_eq
    unfold D_10
    rw [wp_run]
    simp -dsimp [B_10, c2, b2]
  · obtain ⟨p, hp, rfl⟩ := List.mem_map.mp hd
    obtain ⟨a, c⟩ := p
    have hlt : a < c := pw_zip h _ hp
    refine ⟨_, rfl, rfl, fun _ => ?_, rfl⟩
    apply wp_eq
    simp -dsimp [hlt]
theorem s20 {cs : List Int} (h : GC cs) : D_25 [some (.val (dC cs))] = .ok (.bool true) [some (.val (dC cs))] := by
  have c1 := lc_pure (fi := iV (nF 0)) (g := gN 1) (t := tYesN) (f := nCall D_9 (aCons (.o 1) (aCons (.e (nC (.int 0))) (aCons (.e (nC (.int 100000))) (aNil))))) (vs := [1]) (n := [some (.val (dC cs)), none]) (ds := cs.map .int) (fun _ => true) (fun d => .bool (numQ d 0 100000)) rfl rfl
    (fun d hd => ⟨_, rfl, rfl, fun _ => by apply wp_eq; simp -dsimp [s8], rfl⟩) (szn _ (by rw [List.length_map]; have := h.len; omega)) rfl
  rw [filter_all] at c1
  have b1 : bAll [.list ((cs.map PyData.int).map fun d => .bool (numQ d 0 100000))] = some (.bool true) := by
    rw [bAll_map fun d => numQ d 0 100000]
    congr 2
    refine List.all_eq_true.mpr fun x hx => ?_
    obtain ⟨c, hc, rfl⟩ := List.mem_map.mp hx
    obtain ⟨a, b⟩ := h.ok c hc
    unfold numQ
    rw [Bool.and_eq_true]
    exact ⟨decide_eq_true a, decide_eq_true (by omega)⟩
  apply wp_eq
  unfold D_25
  rw [wp_run]
  have ty : isTy "tuple" (dC cs) = true := rfl
  have bl : bLen [dC cs] = some (.int cs.length) := by
    show some (PyData.int ((cs.map PyData.int).length : Int)) = _
    rw [List.length_map]
  have hz : ¬ (100 : Int) < cs.length := by have := h.len; omega
  have e9 := s9 (cs := cs) (by have := h.len; omega) h.asc
  simp -dsimp [B_25, ty, bl, hz, c1, b1, e9, -List.map_map]
theorem s10 : D_12 [some (.val (.bool true))] = .ok .none [some (.val (.bool true))] := rfl
/-- the pairs of a day -/
def onDay (hs : List Rw) (cs : List Int) (d : Int) : Rw := if d ∈ cs then [] else hs.getD (d % 7).toNat []
theorem fm {a b : Int} (hb : 0 < b) : a.fmod b = a % b := Int.fmod_eq_emod_of_nonneg a (by omega)
theorem fd {a b : Int} (hb : 0 < b) : a.fdiv b = a / b := Int.fdiv_eq_ediv_of_nonneg a (by omega)
theorem GH.at {hs : List Rw} (h : GH hs) (k : Nat) (hk : k < 7) : ∃ r, hs[k]? = some r ∧ GR r ∧ hs.getD k [] = r := by
  have hl : k < hs.length := by rw [h.len]; exact hk
  exact ⟨hs[k], List.getElem?_eq_getElem hl, h.ok _ (List.getElem_mem hl), by rw [List.getD_eq_getElem?_getD, List.getElem?_eq_getElem hl]; rfl⟩
theorem GR.nil : GR [] := ⟨by simp, (fun _ h => by cases h), List.Pairwise.nil⟩
theorem onDay_GR {hs : List Rw} (h : GH hs) (cs : List Int) (d : Int) : GR (onDay hs cs d) := by
  unfold onDay
  split
  · exact GR.nil
  · obtain ⟨r, _, g, e⟩ := h.at (d % 7).toNat (by omega)
    rw [e]
    exact g
theorem ixDay {hs : List Rw} (h : GH hs) (d : Int) : atI (hs.map dR) (d % 7) = some (dR (hs.getD (d % 7).toNat [])) := by
  obtain ⟨r, e1, _, e2⟩ := h.at (d % 7).toNat (by omega)
  have ez : atI (hs.map dR) (((d % 7).toNat : Nat) : Int) = some (dR (hs.getD (d % 7).toNat [])) := by
    rw [atI_nat2, List.getElem?_map, e1, e2]
    rfl
  rw [show (((d % 7).toNat : Nat) : Int) = d % 7 by omega] at ez
  exact ez
theorem s23 {hs : List Rw} {cs : List Int} {d : Int} (h : GH hs) : D_27 [some (.val (dH hs)), some (.val (dC cs)), some (.val (.int d))] = .ok (dR (onDay hs cs d)) [some (.val (dH hs)), some (.val (dC cs)), some (.val (.int d))] := by
  apply wp_eq
  unfold D_27
  rw [wp_run]
  have e1 : oIn (.int d) (dC cs) = some (.bool (decide (d ∈ cs))) := oIn_ints
  have e2 : oIx (dH hs) (.int (d % 7)) = some (dR (hs.getD (d % 7).toNat [])) := ixDay h d
  unfold onDay
  by_cases hd : d ∈ cs
  · simp -dsimp [B_27, e1, hd, szn]
    rfl
  · simp -dsimp [B_27, e1, hd, fm, e2]
end Wlaw_k12
end NL
end L2
namespace L2
namespace NL
open PySem PySem.Spec PyProof.Rows
namespace Wlaw_k12
@[simp] theorem seqOf_dR {r : Rw} : seqOf (dR r) = some (r.map dP) := id rfl
theorem fdv {a b : Int} (hb : 0 < b) (h : b < 1000000000) : oFdiv (.int a) (.int b) = some (.int (a / b)) := by rw [fdivS hb h, fd hb]
theorem mQ {m : Int} (h0 : 0 ≤ m) (h1 : m ≤ 10000000) : numQ (.int m) 0 10000000 = true := by
  unfold numQ
  rw [Bool.and_eq_true]
  exact ⟨decide_eq_true h0, decide_eq_true h1⟩
theorem shpP {r : Rw} : ∀ x ∈ r.map dP, Shp 2 x := fun x hx => by
  obtain ⟨p, _, rfl⟩ := List.mem_map.mp hx
  refine Shp.tuple fun x hx => ?_
  simp only [List.mem_cons, List.not_mem_nil, or_false] at hx
  rcases hx with rfl | rfl <;> exact Shp.int
end Wlaw_k12
end NL
end L2
namespace L2
namespace NL
open PySem PySem.Spec PyProof.Rows
namespace Wlaw_k12
def firstIn (r : Rw) (d m : Int) : Option Int := (r.find? fun p => decide (m < d * 1440 + p.2)).map fun p => max m (d * 1440 + p.1)
def nextIn (hs : List Rw) (cs : List Int) (m : Int) (ds : List Int) : Option Int := ds.findSome? fun d => firstIn (onDay hs cs d) d m
def ansN (o : Option Int) : PyData := match o with
  | some f => if f ≤ 10000000 then .int f else .none
  | none => .none
def days (a b : Int) : List Int := (List.range (b - a).toNat).map fun (i : Nat) => a + (i : Int)
theorem rgD_days {a b : Int} : rgD a b = (days a b).map .int := by
  unfold rgD days
  rw [List.map_map]
  rfl
theorem days_mem {a b d : Int} (h : d ∈ days a b) : a ≤ d ∧ d < b := by
  unfold days at h
  obtain ⟨i, hi, rfl⟩ := List.mem_map.mp h
  rw [List.mem_range] at hi
  omega
theorem gT2 {i j : Nat} {p : Int × Int} {n : NSt} : gT (gCons' (gN i) (gCons' (gN j) gNil')) (dP p) n = (gN i (.int p.1) n).bind fun n1 => gN j (.int p.2) n1 := by
  show ((gN i (.int p.1) n).bind fun n1 => (gN j (.int p.2) n1).bind fun n2 => some n2) = _
  cases gN i (.int p.1) n with
  | none => rfl
  | some n1 =>
    show (gN j (.int p.2) n1).bind _ = gN j (.int p.2) n1
    cases gN j (.int p.2) n1 <;> rfl
abbrev in25 : NStm := sSeq (sAsg (nCB bMax (aCons (.o 2) (aCons (.e (nOp2 oAdd (.e (nOp2 oMul (.o 3) (.e (nC (.int 1440))))) (.o 4))) (aNil)))) (gN 6))
  (sIf (asB (nOp2 oLt (.o 6) (.e (nOp2 oAdd (.e (nOp2 oMul (.o 3) (.e (nC (.int 1440))))) (.o 5))))) (sRet (nIf (asB (nOp2 oLe (.o 6) (.e (nC (.int 10000000))))) (nV 6) (nC .none))) (sNil))
theorem firstIn_cons {p : Int × Int} {r : Rw} {d m : Int} : firstIn (p :: r) d m = if m < d * 1440 + p.2 then some (max m (d * 1440 + p.1)) else firstIn r d m := by
  unfold firstIn
  by_cases h : m < d * 1440 + p.2
  · rw [if_pos h, List.find?_cons_of_pos (by exact decide_eq_true h)]
    rfl
  · rw [if_neg h, List.find?_cons_of_neg (by simpa using h)]
theorem in25_spec {H C : Option Sl} {m d : Int} (hd : 0 ≤ d ∧ d ≤ 100000) {Nx : NSt → Prop} {Rt : PyData → NSt → Prop} {Bk Ct : NSt → Prop} {x4 x5 x6 : Option Sl} (r : Rw) (hg : ∀ p ∈ r, p.1 < p.2) (v4 : Vl x4) (v5 : Vl x5) (v6 : Vl x6)
    (hR : ∀ f rest, firstIn r d m = some f → Rt (ansN (some f)) (H :: C :: some (.val (.int m)) :: rest)) (hN : ∀ y4 y5 y6, firstIn r d m = none → Vl y4 → Vl y5 → Vl y6 → Nx [H, C, some (.val (.int m)), some (.val (.int d)), y4, y5, y6]) :
    WpS (sForL (gT (gCons' (gN 4) (gCons' (gN 5) (gNil')))) in25 (r.map dP) [H, C, some (.val (.int m)), some (.val (.int d)), x4, x5, x6]) Nx Rt Bk Ct := by
  refine wps_forL (fun rem n => ∃ (s : Rw) (y4 y5 y6 : Option Sl), rem = s.map dP ∧ n = [H, C, some (.val (.int m)), some (.val (.int d)), y4, y5, y6] ∧ Vl y4 ∧ Vl y5 ∧ Vl y6 ∧ firstIn s d m = firstIn r d m ∧ ∀ p ∈ s, p.1 < p.2) ?_ ?_ _ _ ⟨r, x4, x5, x6, rfl, rfl, v4, v5, v6, rfl, hg⟩
  · rintro e rem n ⟨s, y4, y5, y6, hs, rfl, w4, w5, w6, hf, hp⟩
    cases s with
    | nil => cases hs
    | cons p s =>
      cases hs
      have hlt := hp p List.mem_cons_self
      refine ⟨[H, C, some (.val (.int m)), some (.val (.int d)), some (.val (.int p.1)), some (.val (.int p.2)), y6], ?_, ?_⟩
      · rw [gT2, gN_vl (x := y4) rfl w4]
        show gN 5 _ _ = _
        rw [gN_vl (x := y5) rfl w5]
        rfl
      · have m1 : oMul (.int d) (.int 1440) = some (.int (d * 1440)) := oMul_sm (by omega)
        have e6 : gN 6 (.int (max m (d * 1440 + p.1))) [H, C, some (.val (.int m)), some (.val (.int d)), some (.val (.int p.1)), some (.val (.int p.2)), y6] = some [H, C, some (.val (.int m)), some (.val (.int d)), some (.val (.int p.1)), some (.val (.int p.2)), some (.val (.int (max m (d * 1440 + p.1))))] := gN_vl (x := y6) rfl w6
        rw [firstIn_cons] at hf
        by_cases h : m < d * 1440 + p.2
        · rw [if_pos h] at hf
          have h2 : max m (d * 1440 + p.1) < d * 1440 + p.2 := by omega
          have hr := fun rest => hR _ rest hf.symm
          unfold ansN at hr
          dsimp only at hr
          by_cases h3 : max m (d * 1440 + p.1) ≤ 10000000
          · rw [if_pos h3] at hr
            simp -dsimp only [wps_seq, wps_sAsg, wp_cb, wp_aCons, wp_aNil, wp_oo, wp_oe, wp_op2, wp_nC, List.getElem?_cons_succ, List.getElem?_cons_zero, onSl_val, get_v, onO_some, m1, oAdd_int, getAll_cons, getAll_nil, bMax_two, e6]
            simp -dsimp [m1, h2, h3]
            exact hr _
          · rw [if_neg h3] at hr
            simp -dsimp only [wps_seq, wps_sAsg, wp_cb, wp_aCons, wp_aNil, wp_oo, wp_oe, wp_op2, wp_nC, List.getElem?_cons_succ, List.getElem?_cons_zero, onSl_val, get_v, onO_some, m1, oAdd_int, getAll_cons, getAll_nil, bMax_two, e6]
            simp -dsimp [m1, h2, h3]
            exact hr _
        · rw [if_neg h] at hf
          have h2 : ¬ max m (d * 1440 + p.1) < d * 1440 + p.2 := by omega
          simp -dsimp only [wps_seq, wps_sAsg, wp_cb, wp_aCons, wp_aNil, wp_oo, wp_oe, wp_op2, wp_nC, List.getElem?_cons_succ, List.getElem?_cons_zero, onSl_val, get_v, onO_some, m1, oAdd_int, getAll_cons, getAll_nil, bMax_two, e6]
          simp -dsimp [m1, h2]
          exact ⟨s, rfl, _, _, _, ⟨rfl, rfl, rfl⟩, Vl.val, Vl.val, Vl.val, hf, fun a b hab => hp (a, b) (List.mem_cons_of_mem _ hab)⟩
  · rintro n ⟨s, y4, y5, y6, hs, rfl, w4, w5, w6, hf, hp⟩
    cases s with
    | nil => exact hN _ _ _ hf.symm w4 w5 w6
    | cons p s => cases hs
end Wlaw_k12
end NL
end L2
namespace L2
namespace NL
open PySem PySem.Spec PyProof.Rows
namespace Wlaw_k12
theorem nextIn_cons {hs : List Rw} {cs : List Int} {m d : Int} {ds : List Int} : nextIn hs cs m (d :: ds) = match firstIn (onDay hs cs d) d m with
    | some f => some f
    | none => nextIn hs cs m ds := by
  unfold nextIn
  rw [List.findSome?_cons]
  cases firstIn (onDay hs cs d) d m <;> rfl
abbrev out25 : NStm := sFor (iV (nCall D_27 (aCons (.o 0) (aCons (.o 1) (aCons (.o 3) (aNil)))))) (gT (gCons' (gN 4) (gCons' (gN 5) (gNil')))) in25
theorem out25_spec {hs : List Rw} {cs : List Int} (h : GH hs) {m : Int} {Nx : NSt → Prop} {Rt : PyData → NSt → Prop} {Bk Ct : NSt → Prop} (ds : List Int) (hd : ∀ d ∈ ds, 0 ≤ d ∧ d ≤ 100000)
    (hR : ∀ f rest, nextIn hs cs m ds = some f → Rt (ansN (some f)) (some (.val (dH hs)) :: some (.val (dC cs)) :: some (.val (.int m)) :: rest)) (hN : ∀ rest, nextIn hs cs m ds = none → Nx (some (.val (dH hs)) :: some (.val (dC cs)) :: some (.val (.int m)) :: rest)) :
    WpS (sForL (gN 3) out25 (ds.map .int) [some (.val (dH hs)), some (.val (dC cs)), some (.val (.int m)), none, none, none, none]) Nx Rt Bk Ct := by
  refine wps_forL (fun rem n => ∃ (es : List Int) (y3 y4 y5 y6 : Option Sl), rem = es.map .int ∧ n = [some (.val (dH hs)), some (.val (dC cs)), some (.val (.int m)), y3, y4, y5, y6] ∧ Vl y3 ∧ Vl y4 ∧ Vl y5 ∧ Vl y6 ∧ nextIn hs cs m es = nextIn hs cs m ds ∧ ∀ d ∈ es, 0 ≤ d ∧ d ≤ 100000) ?_ ?_ _ _ ⟨ds, none, none, none, none, rfl, rfl, Vl.none, Vl.none, Vl.none, Vl.none, rfl, hd⟩
  · rintro e rem n ⟨es, y3, y4, y5, y6, hs', rfl, w3, w4, w5, w6, hf, hp⟩
    cases es with
    | nil => cases hs'
    | cons d es =>
      cases hs'
      refine ⟨_, gN_vl (x := y3) rfl w3, ?_⟩
      show WpS (out25 [some (.val (dH hs)), some (.val (dC cs)), some (.val (.int m)), some (.val (.int d)), y4, y5, y6]) _ _ _ _
      rw [wps_sFor]
      simp -dsimp [s23 h]
      have g := onDay_GR h cs d
      rw [nextIn_cons] at hf
      refine in25_spec (hp d List.mem_cons_self) _ (fun p hp => (g.ok p hp).2.1) w4 w5 w6 (fun f rest e => ?_) (fun z4 z5 z6 e u4 u5 u6 => ?_)
      · rw [e] at hf
        exact hR f rest hf.symm
      · rw [e] at hf
        exact ⟨es, _, z4, z5, z6, rfl, rfl, Vl.val, u4, u5, u6, hf, fun d hd => hp d (List.mem_cons_of_mem _ hd)⟩
  · rintro n ⟨es, y3, y4, y5, y6, hs', rfl, w3, w4, w5, w6, hf, hp⟩
    cases es with
    | nil => exact hN _ hf.symm
    | cons d es => cases hs'
theorem s25 {hs : List Rw} {cs : List Int} {m : Int} (h : GH hs) (h0 : 0 ≤ m) (h1 : m ≤ 10000000) :
    D_28 [some (.val (dH hs)), some (.val (dC cs)), some (.val (.int m))] = .ok (ansN (nextIn hs cs m (days (m / 1440) 6945))) [some (.val (dH hs)), some (.val (dC cs)), some (.val (.int m))] := by
  apply wp_eq
  unfold D_28
  rw [wp_run]
  have hz : ¬ (10000000 : Int) < m := by omega
  have hr : rgOk (m / 1440) = true := by unfold rgOk; rw [Bool.and_eq_true]; exact ⟨decide_eq_true (by omega), decide_eq_true (by omega)⟩
  have hr2 : rgOk 6945 = true := by decide
  simp -dsimp [B_28, hz, fdv, hr, hr2, rgD_days]
  refine out25_spec h _ (fun d hd => by have := days_mem hd; omega) (fun f rest e => ?_) (fun rest e => ?_)
  · rw [e]
    exact ⟨rfl, rfl⟩
  · rw [e]
    simp -dsimp [ansN]
abbrev in39 : NStm := sIf (asB (nOp2 oLt (.o 2) (.e (nOp2 oAdd (.e (nOp2 oMul (.o 3) (.e (nC (.int 1440))))) (.o 5))))) (sSeq (sAsg (nCB bMax (aCons (.o 2) (aCons (.e (nOp2 oAdd (.e (nOp2 oMul (.o 3) (.e (nC (.int 1440))))) (.o 4))) (aNil)))) (gN 6))
  (sRet (nOp2 oIx (.e (nL (nLstO (aCons (.e (nC .none)) (aCons (.e (nV 6)) (aNil)))))) (.e (nCB bInt (aCons (.e (nOp2 oLe (.o 6) (.e (nOp2 oPow (.e (nC (.int 10))) (.e (nC (.int 7))))))) (aNil))))))) (sNil)
theorem pow7 : oPow (.int 10) (.int 7) = some (.int 10000000) := by
  show (if CPow 10 7 then some (PyData.int (10 ^ (7 : Int).toNat)) else none) = _
  rw [if_pos ⟨by omega, by omega, by decide⟩]
  rfl
theorem in39_spec {H C : Option Sl} {m d : Int} (hd : 0 ≤ d ∧ d ≤ 100000) {Nx : NSt → Prop} {Rt : PyData → NSt → Prop} {Bk Ct : NSt → Prop} {x4 x5 x6 : Option Sl} (r : Rw) (v4 : Vl x4) (v5 : Vl x5) (v6 : Vl x6)
    (hR : ∀ f rest, firstIn r d m = some f → Rt (ansN (some f)) (H :: C :: some (.val (.int m)) :: rest)) (hN : ∀ y4 y5 y6, firstIn r d m = none → Vl y4 → Vl y5 → Vl y6 → Nx [H, C, some (.val (.int m)), some (.val (.int d)), y4, y5, y6]) :
    WpS (sForL (gT (gCons' (gN 4) (gCons' (gN 5) (gNil')))) in39 (r.map dP) [H, C, some (.val (.int m)), some (.val (.int d)), x4, x5, x6]) Nx Rt Bk Ct := by
  refine wps_forL (fun rem n => ∃ (s : Rw) (y4 y5 y6 : Option Sl), rem = s.map dP ∧ n = [H, C, some (.val (.int m)), some (.val (.int d)), y4, y5, y6] ∧ Vl y4 ∧ Vl y5 ∧ Vl y6 ∧ firstIn s d m = firstIn r d m) ?_ ?_ _ _ ⟨r, x4, x5, x6, rfl, rfl, v4, v5, v6, rfl⟩
  · rintro e rem n ⟨s, y4, y5, y6, hs, rfl, w4, w5, w6, hf⟩
    cases s with
    | nil => cases hs
    | cons p s =>
      cases hs
      refine ⟨[H, C, some (.val (.int m)), some (.val (.int d)), some (.val (.int p.1)), some (.val (.int p.2)), y6], ?_, ?_⟩
      · rw [gT2, gN_vl (x := y4) rfl w4]
        show gN 5 _ _ = _
        rw [gN_vl (x := y5) rfl w5]
        rfl
      · have m1 : oMul (.int d) (.int 1440) = some (.int (d * 1440)) := oMul_sm (by omega)
        have e6 : gN 6 (.int (max m (d * 1440 + p.1))) [H, C, some (.val (.int m)), some (.val (.int d)), some (.val (.int p.1)), some (.val (.int p.2)), y6] = some [H, C, some (.val (.int m)), some (.val (.int d)), some (.val (.int p.1)), some (.val (.int p.2)), some (.val (.int (max m (d * 1440 + p.1))))] := gN_vl (x := y6) rfl w6
        rw [firstIn_cons] at hf
        by_cases h : m < d * 1440 + p.2
        · rw [if_pos h] at hf
          have hr := fun rest => hR _ rest hf.symm
          unfold ansN at hr
          dsimp only at hr
          by_cases h3 : max m (d * 1440 + p.1) ≤ 10000000
          · rw [if_pos h3] at hr
            simp -dsimp only [wps_sIf, wp_asB, oLt_int, onB_bool, decide_true, Br_true, h, wps_seq, wps_sAsg, wp_cb, wp_aCons, wp_aNil, wp_oo, wp_oe, wp_op2, wp_nC, List.getElem?_cons_succ, List.getElem?_cons_zero, onSl_val, get_v, onO_some, m1, oAdd_int, getAll_cons, getAll_nil, bMax_two, e6]
            simp -dsimp [szn, pow7, h3, atI_1]
            exact hr _
          · rw [if_neg h3] at hr
            simp -dsimp only [wps_sIf, wp_asB, oLt_int, onB_bool, decide_true, Br_true, h, wps_seq, wps_sAsg, wp_cb, wp_aCons, wp_aNil, wp_oo, wp_oe, wp_op2, wp_nC, List.getElem?_cons_succ, List.getElem?_cons_zero, onSl_val, get_v, onO_some, m1, oAdd_int, getAll_cons, getAll_nil, bMax_two, e6]
            simp -dsimp [szn, pow7, h3, atI_0]
            exact hr _
        · rw [if_neg h] at hf
          simp -dsimp [m1, h]
          exact ⟨s, rfl, _, _, _, ⟨rfl, rfl, rfl⟩, Vl.val, Vl.val, w6, hf⟩
  · rintro n ⟨s, y4, y5, y6, hs, rfl, w4, w5, w6, hf⟩
    cases s with
    | nil => exact hN _ _ _ hf.symm w4 w5 w6
    | cons p s => cases hs
end Wlaw_k12
end NL
end L2
namespace L2
namespace NL
open PySem PySem.Spec PyProof.Rows
namespace Wlaw_k12
abbrev out39 : NStm := sIf (asB (nOp2 oNotIn (.o 3) (.o 1))) (sFor (iV (nOp2 oIx (.o 0) (.e (nOp2 oMod (.e (nCB bInt (aCons (.o 3) (aNil)))) (.e (nC (.int 7))))))) (gT (gCons' (gN 4) (gCons' (gN 5) (gNil')))) in39) (sNil)
theorem out39_spec {hs : List Rw} {cs : List Int} (h : GH hs) {m : Int} {Nx : NSt → Prop} {Rt : PyData → NSt → Prop} {Bk Ct : NSt → Prop} (ds : List Int) (hd : ∀ d ∈ ds, 0 ≤ d ∧ d ≤ 100000)
    (hR : ∀ f rest, nextIn hs cs m ds = some f → Rt (ansN (some f)) (some (.val (dH hs)) :: some (.val (dC cs)) :: some (.val (.int m)) :: rest)) (hN : ∀ rest, nextIn hs cs m ds = none → Nx (some (.val (dH hs)) :: some (.val (dC cs)) :: some (.val (.int m)) :: rest)) :
    WpS (sForL (gN 3) out39 (ds.map .int) [some (.val (dH hs)), some (.val (dC cs)), some (.val (.int m)), none, none, none, none]) Nx Rt Bk Ct := by
  refine wps_forL (fun rem n => ∃ (es : List Int) (y3 y4 y5 y6 : Option Sl), rem = es.map .int ∧ n = [some (.val (dH hs)), some (.val (dC cs)), some (.val (.int m)), y3, y4, y5, y6] ∧ Vl y3 ∧ Vl y4 ∧ Vl y5 ∧ Vl y6 ∧ nextIn hs cs m es = nextIn hs cs m ds ∧ ∀ d ∈ es, 0 ≤ d ∧ d ≤ 100000) ?_ ?_ _ _ ⟨ds, none, none, none, none, rfl, rfl, Vl.none, Vl.none, Vl.none, Vl.none, rfl, hd⟩
  · rintro e rem n ⟨es, y3, y4, y5, y6, hs', rfl, w3, w4, w5, w6, hf, hp⟩
    cases es with
    | nil => cases hs'
    | cons d es =>
      cases hs'
      refine ⟨_, gN_vl (x := y3) rfl w3, ?_⟩
      show WpS (out39 [some (.val (dH hs)), some (.val (dC cs)), some (.val (.int m)), some (.val (.int d)), y4, y5, y6]) _ _ _ _
      have eN : oNotIn (.int d) (dC cs) = some (.bool (!decide (d ∈ cs))) := oNotIn_ints
      have eI : oIx (dH hs) (.int (d % 7)) = some (dR (hs.getD (d % 7).toNat [])) := ixDay h _
      rw [nextIn_cons] at hf
      unfold onDay at hf
      by_cases hc : d ∈ cs
      · rw [if_pos hc] at hf
        simp -dsimp [eN, hc]
        exact ⟨es, rfl, _, _, _, _, ⟨rfl, rfl, rfl, rfl⟩, Vl.val, w4, w5, w6, hf, fun d hd => hp d (List.mem_cons_of_mem _ hd)⟩
      · rw [if_neg hc] at hf
        generalize hs.getD (d % 7).toNat [] = r at hf eI
        simp -dsimp [eN, hc, fm, eI]
        refine in39_spec (hp d List.mem_cons_self) _ w4 w5 w6 (fun f rest e => ?_) (fun z4 z5 z6 e u4 u5 u6 => ?_)
        · rw [e] at hf
          exact hR f rest hf.symm
        · rw [e] at hf
          exact ⟨es, _, z4, z5, z6, rfl, rfl, Vl.val, u4, u5, u6, hf, fun d hd => hp d (List.mem_cons_of_mem _ hd)⟩
  · rintro n ⟨es, y3, y4, y5, y6, hs', rfl, w3, w4, w5, w6, hf, hp⟩
    cases es with
    | nil => exact hN _ hf.symm
    | cons d es => cases hs'
theorem s39 {hs : List Rw} {cs : List Int} {m : Int} (h : GH hs) (h0 : 0 ≤ m) (h1 : m ≤ 20000000) :
    D_47 [some (.val (dH hs)), some (.val (dC cs)), some (.val (.int m))] = .ok (ansN (nextIn hs cs m (days (m / 1440) (min 6945 (m / 1440 + 130))))) [some (.val (dH hs)), some (.val (dC cs)), some (.val (.int m))] := by
  apply wp_eq
  unfold D_47
  rw [wp_run]
  have hr : rgOk (m / 1440) = true := by unfold rgOk; rw [Bool.and_eq_true]; exact ⟨decide_eq_true (by omega), decide_eq_true (by omega)⟩
  have hr2 : rgOk (min 6945 (m / 1440 + 130)) = true := by unfold rgOk; rw [Bool.and_eq_true]; exact ⟨decide_eq_true (by omega), decide_eq_true (by omega)⟩
  simp -dsimp [B_47, fdv, hr, hr2, rgD_days]
  refine out39_spec h _ (fun d hd => by have := days_mem hd; omega) (fun f rest e => ?_) (fun rest e => ?_)
  · rw [e]
    exact ⟨rfl, rfl⟩
  · rw [e]
    simp -dsimp [ansN]
theorem days_append {a b c : Int} (h1 : a ≤ b) (h2 : b ≤ c) : days a c = days a b ++ days b c := by
  unfold days
  rw [show (c - a).toNat = (b - a).toNat + (c - b).toNat by omega, List.range_add, List.map_append, List.map_map]
  congr 1
  refine List.map_congr_left fun i hi => ?_
  show a + (((b - a).toNat + i : Nat) : Int) = b + (i : Int)
  omega
theorem days_at {a b d : Int} (h1 : a ≤ d) (h2 : d < b) : d ∈ days a b := by
  unfold days
  exact List.mem_map.mpr ⟨(d - a).toNat, List.mem_range.mpr (by omega), by omega⟩
theorem nextIn_append {hs : List Rw} {cs : List Int} {m : Int} {xs ys : List Int} : nextIn hs cs m (xs ++ ys) = match nextIn hs cs m xs with
    | some f => some f
    | none => nextIn hs cs m ys := by
  induction xs with
  | nil => rfl
  | cons d xs ih =>
    rw [List.cons_append, nextIn_cons, nextIn_cons, ih]
    cases firstIn (onDay hs cs d) d m <;> rfl
theorem nextIn_none {hs : List Rw} {cs : List Int} {m : Int} {ds : List Int} (h : nextIn hs cs m ds = none) : ∀ d ∈ ds, firstIn (onDay hs cs d) d m = none := by
  unfold nextIn at h
  exact List.findSome?_eq_none_iff.mp h
/-- within some weeks, or never -/
theorem next_law {hs : List Rw} {cs : List Int} {m : Int} (h : GH hs) (hc : GC cs) (h0 : 0 ≤ m) : nextIn hs cs m (days (m / 1440) (min 6945 (m / 1440 + 130))) = nextIn hs cs m (days (m / 1440) 6945) := by
  by_cases hb : 6945 ≤ m / 1440 + 130
  · rw [show min 6945 (m / 1440 + 130) = 6945 by omega]
  · rw [show min 6945 (m / 1440 + 130) = m / 1440 + 130 by omega, days_append (a := m / 1440) (b := m / 1440 + 130) (c := 6945) (by omega) (by omega), nextIn_append]
    cases e : nextIn hs cs m (days (m / 1440) (m / 1440 + 130)) with
    | some f => rfl
    | none =>
      have hn := nextIn_none e
      -- every row is empty
      have emp : ∀ k, k < 7 → hs.getD k [] = [] := fun k hk => by
        have hd : ∃ d : Int, m / 1440 + 1 ≤ d ∧ 101 ≤ d ∧ d < m / 1440 + 130 ∧ d % 7 = (k : Int) := by
          by_cases ha : m / 1440 ≤ 100
          · exact ⟨101 + ((k : Int) - 101) % 7, by omega, by omega, by omega, by omega⟩
          · exact ⟨m / 1440 + 1 + ((k : Int) - (m / 1440 + 1)) % 7, by omega, by omega, by omega, by omega⟩
        obtain ⟨d, h1, h2, h3, h4⟩ := hd
        have := hn d (days_at (by omega) h3)
        unfold onDay at this
        rw [if_neg (fun z => by have := hc.ok d z; omega), show (d % 7).toNat = k by omega] at this
        obtain ⟨r, _, g, er⟩ := h.at k hk
        rw [er] at this ⊢
        cases r with
        | nil => rfl
        | cons p r =>
          have gp := g.ok p List.mem_cons_self
          rw [firstIn_cons, if_pos (by omega)] at this
          cases this
      have all : ∀ ds, nextIn hs cs m ds = none := fun ds => by
        induction ds with
        | nil => rfl
        | cons d ds ih =>
          have e0 : onDay hs cs d = [] := by
            unfold onDay
            split
            · rfl
            · exact emp _ (by omega)
          rw [nextIn_cons, e0, ih]
          rfl
      rw [all]
end Wlaw_k12
end NL
end L2
namespace L2
namespace NL
open PySem PySem.Spec PyProof.Rows
/-! what is refused -/
theorem call_err {g : NExp} {fs : NSt → R (List AV)} {n n1 a os : NSt} {as : List AV} {x : NX} (h1 : fs n = .ok as n1) (h2 : (ixs as).Nodup) (h3 : resolve n1 as = some a) (h4 : g a = .err x os) (h5 : back n1 as os = n1) : nCall g fs n = .err x n1 := by
  unfold nCall
  rw [h1]
  show (if (ixs as).Nodup then (match resolve n1 as with
    | some a => match g a with
      | .ok d os => R.ok d (back n1 as os)
      | .err x os => .err x (back n1 as os)
      | .bad => .bad
    | none => .bad) else .bad) = _
  rw [if_pos h2, h3]
  dsimp only
  rw [h4]
  dsimp only
  rw [h5]
theorem expr_err {v : NExp} {n m : NSt} {x : NX} (h : v n = .err x m) : sExpr v n = .err x m := by unfold sExpr; rw [h]; rfl
theorem expr_ok {v : NExp} {n m : NSt} {d : PyData} (h : v n = .ok d m) : sExpr v n = .nx m := by unfold sExpr; rw [h]; rfl
theorem ret_err {v : NExp} {n m : NSt} {x : NX} (h : v n = .err x m) : sRet v n = .err x m := by unfold sRet; rw [h]; rfl
theorem seq_err {f g : NStm} {n m : NSt} {x : NX} (h : f n = .err x m) : sSeq f g n = .err x m := by unfold sSeq; rw [h]; rfl
theorem seq_nx {f g : NStm} {n m : NSt} (h : f n = .nx m) : sSeq f g n = g m := by unfold sSeq; rw [h]; rfl
theorem if_t {t : NSt → R Bool} {f g : NStm} {n : NSt} (h : t n = .ok true n) : sIf t f g n = f n := by unfold sIf; rw [h]; rfl
theorem if_f {t : NSt → R Bool} {f g : NStm} {n : NSt} (h : t n = .ok false n) : sIf t f g n = g n := by unfold sIf; rw [h]; rfl
theorem args1 {f : NExp} {n m : NSt} {d : PyData} (h : f n = .ok d m) : aCons (.e f) aNil n = .ok [.v d] m := by
  unfold aCons
  show (((f n).bind _).bind _) = _
  rw [h]
  rfl
theorem run_err {N : Nat} {body : NStm} {a m : NSt} {x : NX} (h : body (a ++ List.replicate (N - a.length) none) = .err x m) : runD N body a = .err x (outs a m) := by unfold runD; rw [h]
theorem run_ret {N : Nat} {body : NStm} {a m : NSt} {d : PyData} (h : body (a ++ List.replicate (N - a.length) none) = .ret d m) : runD N body a = .ok d (outs a m) := by unfold runD; rw [h]
namespace Wlaw_k12
abbrev nr : NX := ⟨"NotRight", none⟩
theorem chk_err {f : NExp} {n : NSt} (e : f n = .ok (.bool false) n) : sExpr (nCall D_12 (aCons (.e f) aNil)) n = .err nr n :=
  expr_err (call_err (args1 e) List.nodup_nil rfl (show D_12 [some (.val (.bool false))] = .err nr [some (.val (.bool false))] from rfl) rfl)
theorem call_ok {g : NExp} {fs : NSt → R (List AV)} {n n1 a os : NSt} {as : List AV} {d : PyData} (h1 : fs n = .ok as n1) (h2 : (ixs as).Nodup) (h3 : resolve n1 as = some a) (h4 : g a = .ok d os) (h5 : back n1 as os = n1) : nCall g fs n = .ok d n1 := by
  unfold nCall
  rw [h1]
  show (if (ixs as).Nodup then (match resolve n1 as with
    | some a => match g a with
      | .ok d os => R.ok d (back n1 as os)
      | .err x os => .err x (back n1 as os)
      | .bad => .bad
    | none => .bad) else .bad) = _
  rw [if_pos h2, h3]
  dsimp only
  rw [h4]
  dsimp only
  rw [h5]
theorem chk_ok {f : NExp} {n : NSt} (e : f n = .ok (.bool true) n) : sExpr (nCall D_12 (aCons (.e f) aNil)) n = .nx n :=
  expr_ok (call_ok (args1 e) List.nodup_nil rfl (show D_12 [some (.val (.bool true))] = .ok .none [some (.val (.bool true))] from rfl) rfl)
/-- hours that are none -/
def HBad (hv : PyData) : Prop := D_24 [some (.val hv)] = .ok (.bool false) [some (.val hv)]
def CBad (cv : PyData) : Prop := D_25 [some (.val cv)] = .ok (.bool false) [some (.val cv)]
/-- the three tests of two minutes -/
def flg : PyData := .list [.bool true, .bool false, .bool false, .bool false, .bool false]
theorem try_err {i : Nat} {f : NStm} {n m : NSt} (h : f n = .err nr m) (hi : i < n.length) : sTryF i subF tblF knownF f n = .ret flg m := by
  unfold sTryF
  rw [h]
  show (if ("NotRight" : Str) ∈ knownF ∧ i < n.length then NR.ret (.list (tblF.map fun y => .bool (subF "NotRight" y))) m else .bad) = _
  rw [if_pos ⟨by decide, hi⟩]
  rfl
theorem pick_err {gs : List NExp} {fi : NExp} {fs : NSt → R (List AV)} {n m : NSt} {i : Int} {g : NExp} {x : NX} (h1 : fi n = .ok (.int i) n) (h2 : 0 ≤ i) (h3 : gs[i.toNat]? = some g) (h4 : nCall g fs n = .err x m) : nPick gs fi fs n = .err x m := by
  unfold nPick
  rw [h1]
  show (if 0 ≤ i then (match gs[i.toNat]? with
    | some g => nCall g fs n
    | none => .bad) else .bad) = _
  rw [if_pos h2, h3]
  exact h4
end Wlaw_k12
end NL
end L2
namespace L2
namespace NL
open PySem PySem.Spec PyProof.Rows
namespace Wlaw_k12
/-! what is drawn -/
theorem s37 {l : List PyData} (h : Dr l) {P : PyData → NSt → Prop} (hP : ∀ cs l', Dr l' → GC cs → P (dC cs) [some (.lent l')]) : Wp (D_46 [some (.lent l)]) P := by
  have sz := sizeBig
  unfold D_46
  rw [wp_run]
  simp -dsimp only [B_46, wps_sRet, wp_cb, wp_aCons, wp_oe, wp_nL, wp_sortU, wp_lc, wp_iRg1, wp_call, wp_oo, wp_nC, wp_aNil]
  simp -dsimp [e32]
  refine take_spec h (by omega) fun r l1 d1 r0 r1 => ?_
  have hr : rgOk r = true := by unfold rgOk; rw [Bool.and_eq_true]; exact ⟨decide_eq_true (by omega), decide_eq_true (by omega)⟩
  simp -dsimp [hr]
  refine ⟨rfl, ?_⟩
  refine wp_lcL (fun rem acc n => ∃ (l' : List PyData) (ns : List Int), n = [some (.lent l'), none] ∧ Dr l' ∧ acc = ns.map .int ∧ (∀ c ∈ ns, 0 ≤ c ∧ c < 20) ∧ ns.length + rem.length ≤ 5) ?_ ?_ _ _ _ ⟨l1, [], rfl, d1, rfl, (fun _ h => by cases h), by rw [rgD_len]; simp; omega⟩
  · rintro d rem acc n ⟨l', ns, rfl, d', rfl, hn, hl⟩
    have hl : ns.length + (rem.length + 1) ≤ 5 := hl
    refine ⟨_, rfl, ?_⟩
    simp -dsimp [e32]
    refine take_spec d' (by omega) fun r l2 d2 r0 r1 => ?_
    simp -dsimp
    refine ⟨by omega, d2, ns ++ [r], by simp, fun c hc => ?_, by simp; omega⟩
    rcases List.mem_append.mp hc with hc | hc
    · exact hn c hc
    · simp only [List.mem_cons, List.not_mem_nil, or_false] at hc
      omega
  · rintro acc n ⟨l', ns, rfl, d', rfl, hn, hl⟩
    simp -dsimp [intsOf_map]
    have hl : ns.length + 0 ≤ 5 := hl
    refine ⟨by omega, ?_⟩
    have := sortU_len (ns := ns)
    exact hP (sortU ns) l' d' ⟨by omega, fun c hc => by have := hn c (sortU_mem.mp hc); omega, sortU_lt⟩
end Wlaw_k12
end NL
end L2
namespace L2
namespace NL
open PySem PySem.Spec PyProof.Rows
namespace Wlaw_k12
/-- a row that is being drawn, ahead of a minute -/
structure GM (r : Rw) (m : Int) : Prop where
  ok : ∀ p ∈ r, 0 ≤ p.1 ∧ p.1 < p.2 ∧ p.2 ≤ 1440 ∧ p.2 < m
  asc : r.Pairwise fun p q => p.2 < q.1
theorem GM.nil {m : Int} : GM [] m := ⟨(fun _ h => by cases h), List.Pairwise.nil⟩
theorem GM.up {r : Rw} {m k : Int} (g : GM r m) (h : ∀ p ∈ r, p.2 < k) : GM r k := ⟨fun p hp => by obtain ⟨a, b, c, d⟩ := g.ok p hp; exact ⟨a, b, c, h p hp⟩, g.asc⟩
theorem GM.snoc {r : Rw} {m s k : Int} (g : GM r m) (h0 : 0 ≤ m) (h1 : m < s) (h2 : s ≤ 1440) (h3 : s < k) : GM (r ++ [(m, s)]) k := by
  refine ⟨fun p hp => ?_, List.pairwise_append.mpr ⟨g.asc, by simp, fun p hp q hq => ?_⟩⟩
  · rcases List.mem_append.mp hp with hp | hp
    · obtain ⟨a, b, c, d⟩ := g.ok p hp
      exact ⟨a, b, c, by omega⟩
    · simp only [List.mem_cons, List.not_mem_nil, or_false] at hp
      subst hp
      exact ⟨h0, h1, h2, h3⟩
  · simp only [List.mem_cons, List.not_mem_nil, or_false] at hq
    subst hq
    exact (g.ok p hp).2.2.2
theorem GM.gr {r : Rw} {m : Int} (g : GM r m) (hl : r.length ≤ 3) : GR r := ⟨hl, fun p hp => by obtain ⟨a, b, c, d⟩ := g.ok p hp; exact ⟨a, b, c⟩, g.asc⟩
abbrev rowB' : NStm := sSeq (sAsg (nCB bMin (aCons (.e (nC (.int 1440))) (aCons (.e (nOp2 oAdd (.e (nOp2 oAdd (.o 4) (.e (nC (.int 1))))) (.e (nCall D_42 (aCons (.o 0) (aCons (.e (nL (nLstO (aCons (.e (nC (.int 0))) (aCons (.e (nC (.int 240))) (aCons (.e (nCall D_41 (aCons (.o 0) (aCons (.e (nC (.int 500))) (aNil))))) (aNil))))))) (aNil))))))) (aNil)))) (gN 6))
  (sSeq (sIf (asB (nOp2 oLt (.o 4) (.o 6))) (sExpr (nAppend 3 (nTup (aCons (.e (nV 4)) (aCons (.e (nV 6)) (aNil)))))) (sNil))
  (sAsg (nOp2 oAdd (.e (nOp2 oAdd (.o 6) (.e (nC (.int 1))))) (.e (nCall D_41 (aCons (.o 0) (aCons (.e (nC (.int 200))) (aNil)))))) (gN 4)))
theorem rowLoop {l fs : List PyData} (hd : Dr l) {day : PyData} {m : Int} (hm : 0 ≤ m) {x5 x6 : Option Sl} (v5 : Vl x5) (v6 : Vl x6) {Nx : NSt → Prop} {Rt : PyData → NSt → Prop} {Bk Ct : NSt → Prop} {k : Int} (hk : k ≤ 3)
    (hN : ∀ l' r m' y5 y6, Dr l' → GR r → Vl y5 → Vl y6 → Nx [some (.lent l'), some (.own fs), some (.val day), some (.own (r.map dP)), some (.val (.int m')), y5, y6]) :
    WpS (sForL (gN 5) rowB' (rgD 0 k) [some (.lent l), some (.own fs), some (.val day), some (.own []), some (.val (.int m)), x5, x6]) Nx Rt Bk Ct := by
  have sz := sizeBig
  refine wps_forL (fun rem n => ∃ (l' : List PyData) (r : Rw) (m' : Int) (y5 y6 : Option Sl), n = [some (.lent l'), some (.own fs), some (.val day), some (.own (r.map dP)), some (.val (.int m')), y5, y6] ∧ Dr l' ∧ GM r m' ∧ 0 ≤ m' ∧ r.length + rem.length ≤ 3 ∧ Vl y5 ∧ Vl y6) ?_ ?_ _ _ ⟨l, [], m, x5, x6, rfl, hd, GM.nil, hm, by rw [rgD_len]; simp; omega, v5, v6⟩
  · rintro d rem n ⟨l', r, m', y5, y6, rfl, d', g, h0, hl, w5, w6⟩
    have hl : r.length + (rem.length + 1) ≤ 3 := hl
    refine ⟨_, gN_vl (x := y5) rfl w5, ?_⟩
    show WpS (rowB' [some (.lent l'), some (.own fs), some (.val day), some (.own (r.map dP)), some (.val (.int m')), some (.val d), y6]) _ _ _ _
    simp -dsimp only [wps_seq, wps_sAsg, wp_cb, wp_aCons, wp_aNil, wp_oe, wp_op2, wp_nC, wp_oo, List.getElem?_cons_succ, List.getElem?_cons_zero, onSl_val, onSl_lent, get_v, onO_some, oAdd_int, wp_call, wp_nL, wp_lstO]
    simp -dsimp [e32, e33]
    refine take_spec d' (by omega) fun x l1 d1 x0 x1 => ?_
    simp -dsimp [szn]
    refine pick_spec d1 (by simp) fun v l2 d2 hv => ?_
    have hv : ∃ y : Int, v = .int y ∧ 0 ≤ y := by
      simp only [List.mem_cons, List.not_mem_nil, or_false] at hv
      rcases hv with rfl | rfl | rfl
      · exact ⟨0, rfl, by omega⟩
      · exact ⟨240, rfl, by omega⟩
      · exact ⟨x, rfl, x0⟩
    obtain ⟨y, rfl, y0⟩ := hv
    simp -dsimp only [wp_aNil, put_lent, back_v, back_o, back_nil, putBack_l, List.head?_cons, Option.getD_some, List.tail_cons, get_v, onO_some, oAdd_int, getAll_cons, getAll_nil, bMin_two, List.getElem?_cons_succ, List.getElem?_cons_zero, List.set_cons_zero, List.set_cons_succ]
    have e6 : gN 6 (.int (min 1440 (m' + 1 + y))) [some (.lent l2), some (.own fs), some (.val day), some (.own (r.map dP)), some (.val (.int m')), some (.val d), y6] = some [some (.lent l2), some (.own fs), some (.val day), some (.own (r.map dP)), some (.val (.int m')), some (.val d), some (.val (.int (min 1440 (m' + 1 + y))))] := gN_vl (x := y6) rfl w6
    rw [e6, onO_some]
    generalize hs : min 1440 (m' + 1 + y) = s
    by_cases hlt : m' < s
    · simp -dsimp [hlt, szn, e32]
      refine ⟨by omega, ?_⟩
      refine take_spec d2 (by omega) fun z l3 d3 z0 z1 => ?_
      simp -dsimp
      refine ⟨l3, r ++ [(m', s)], s + 1 + z, _, _, ⟨rfl, by simp [dP], rfl, rfl, rfl⟩, d3, g.snoc h0 hlt (by omega) (by omega), by omega, by simp; omega, Vl.val, Vl.val⟩
    · simp -dsimp [hlt, szn, e32]
      refine take_spec d2 (by omega) fun z l3 d3 z0 z1 => ?_
      simp -dsimp
      refine ⟨l3, r, s + 1 + z, _, _, ⟨rfl, rfl, rfl, rfl, rfl⟩, d3, g.up (fun p hp => by have := (g.ok p hp).2.2.1; omega), by omega, by omega, Vl.val, Vl.val⟩
  · rintro n ⟨l', r, m', y5, y6, rfl, d', g, h0, hl, w5, w6⟩
    have hl : r.length + 0 ≤ 3 := hl
    exact hN l' r m' y5 y6 d' (g.gr (by omega)) w5 w6
end Wlaw_k12
end NL
end L2
namespace L2
namespace NL
open PySem PySem.Spec PyProof.Rows
namespace Wlaw_k12
abbrev dayB : NStm := sSeq (sPar 3 4 (evO (nLstO (aNil))) (evV (nCall D_42 (aCons (.o 0) (aCons (.e (nL (nLstO (aCons (.e (nC (.int 0))) (aCons (.e (nC (.int 480))) (aCons (.e (nCall D_41 (aCons (.o 0) (aCons (.e (nC (.int 900))) (aNil))))) (aNil))))))) (aNil))))))
  (sSeq (sFor (iRg1 (aCons (.e (nCall D_42 (aCons (.o 0) (aCons (.e (nL (nLstO (aCons (.e (nC (.int 0))) (aCons (.e (nC (.int 1))) (aCons (.e (nC (.int 1))) (aCons (.e (nC (.int 2))) (aCons (.e (nC (.int 3))) (aNil))))))))) (aNil))))) (aNil))) (gN 5) rowB')
  (sExpr (nAppend 1 (nCB bTuple (aCons (.o 3) (aNil))))))
/-- a slot that is no lent one -/
def Vo (x : Option Sl) : Prop := x = none ∨ (∃ d, x = some (.val d)) ∨ ∃ d, x = some (.own d)
theorem nl_vo {n : NSt} {i : Nat} {x : Option Sl} (e : n[i]? = some x) (v : Vo x) : notLent n i = true := by
  unfold notLent
  rw [e]
  rcases v with rfl | ⟨d, rfl⟩ | ⟨d, rfl⟩ <;> rfl
theorem dayB_spec {l : List PyData} {hs : List Rw} (hd : Dr l) (hl : hs.length ≤ 7) (hg : ∀ r ∈ hs, GR r) {day : PyData} {x3 x4 x5 x6 : Option Sl} (v3 : Vo x3) (v4 : Vl x4) (v5 : Vl x5) (v6 : Vl x6) {Nx : NSt → Prop} {Rt : PyData → NSt → Prop} {Bk Ct : NSt → Prop}
    (hN : ∀ l' r y3 y4 y5 y6, Dr l' → GR r → Vo y3 → Vl y4 → Vl y5 → Vl y6 → Nx [some (.lent l'), some (.own ((hs ++ [r]).map dR)), some (.val day), y3, y4, y5, y6]) :
    WpS (dayB [some (.lent l), some (.own (hs.map dR)), some (.val day), x3, x4, x5, x6]) Nx Rt Bk Ct := by
  have sz := sizeBig
  have e3 : ∀ l1 y4, notLent [some (.lent l1), some (.own (hs.map dR)), some (.val day), x3, y4, x5, x6] 3 = true := fun l1 y4 => nl_vo (x := x3) rfl v3
  have e4 : ∀ l1, notLent [some (.lent l1), some (.own (hs.map dR)), some (.val day), x3, x4, x5, x6] 4 = true := fun l1 => nl_vl (x := x4) rfl v4
  refine wps_sq ?_
  rw [wps_sPar]
  simp -dsimp only [wp_evO, wp_lstO, wp_aNil, wp_evV, wp_aCons, wp_oe, wp_nC, wp_oo, List.getElem?_cons_succ, List.getElem?_cons_zero, onSl_lent, wp_call, wp_nL, plains_nil, onO_some]
  simp -dsimp [e32, e33]
  refine take_spec hd (by omega) fun x l1 d1 x0 x1 => ?_
  simp -dsimp [szn]
  refine pick_spec d1 (by simp) fun v l2 d2 hv => ?_
  have hv : ∃ y : Int, v = .int y ∧ 0 ≤ y := by
    simp only [List.mem_cons, List.not_mem_nil, or_false] at hv
    rcases hv with rfl | rfl | rfl
    · exact ⟨0, rfl, by omega⟩
    · exact ⟨480, rfl, by omega⟩
    · exact ⟨x, rfl, x0⟩
  obtain ⟨y, rfl, y0⟩ := hv
  refine ⟨e3 _ _, e4 _, ?_⟩
  show WpS (sSeq (sFor (iRg1 (aCons (.e (nCall D_42 (aCons (.o 0) (aCons (.e (nL (nLstO (aCons (.e (nC (.int 0))) (aCons (.e (nC (.int 1))) (aCons (.e (nC (.int 1))) (aCons (.e (nC (.int 2))) (aCons (.e (nC (.int 3))) (aNil))))))))) (aNil))))) (aNil))) (gN 5) rowB')
    (sExpr (nAppend 1 (nCB bTuple (aCons (.o 3) (aNil))))) [some (.lent l2), some (.own (hs.map dR)), some (.val day), some (.own []), some (.val (.int y)), x5, x6]) _ _ _ _
  refine wps_sq ?_
  rw [wps_sFor]
  simp -dsimp only [wp_iRg1, wp_aCons, wp_oe, wp_call, wp_oo, wp_nC, wp_aNil, wp_nL, wp_lstO, List.getElem?_cons_succ, List.getElem?_cons_zero, onSl_lent]
  simp -dsimp [szn, e33]
  refine pick_spec d2 (by simp) fun v l3 d3 hv => ?_
  have hv : ∃ k : Int, v = .int k ∧ 0 ≤ k ∧ k ≤ 3 := by
    simp only [List.mem_cons, List.not_mem_nil, or_false] at hv
    rcases hv with rfl | rfl | rfl | rfl | rfl
    · exact ⟨0, rfl, by omega, by omega⟩
    · exact ⟨1, rfl, by omega, by omega⟩
    · exact ⟨1, rfl, by omega, by omega⟩
    · exact ⟨2, rfl, by omega, by omega⟩
    · exact ⟨3, rfl, by omega, by omega⟩
  obtain ⟨k, rfl, k0, k1⟩ := hv
  have hr : rgOk k = true := by unfold rgOk; rw [Bool.and_eq_true]; exact ⟨decide_eq_true (by omega), decide_eq_true (by omega)⟩
  simp -dsimp only [wp_aNil, put_lent, back_v, back_o, back_nil, putBack_l, List.head?_cons, Option.getD_some, List.tail_cons, List.getElem?_cons_succ, List.getElem?_cons_zero, List.set_cons_zero, List.set_cons_succ, rg1_at hr, onO_some]
  refine rowLoop d3 y0 v5 v6 k1 fun l4 r m' y5 y6 d4 g w5 w6 => ?_
  have hb : bTuple [.list (r.map dP)] = some (dR r) := rfl
  simp -dsimp [hb]
  refine ⟨by omega, ?_⟩
  have := hN l4 r (some (.own (r.map dP))) (some (.val (.int m'))) y5 y6 d4 g (.inr (.inr ⟨_, rfl⟩)) Vl.val w5 w6
  rw [List.map_append] at this
  exact this
theorem s36 {l : List PyData} (h : Dr l) {P : PyData → NSt → Prop} (hP : ∀ hs l', Dr l' → GH hs → P (dH hs) [some (.lent l')]) : Wp (D_45 [some (.lent l)]) P := by
  have sz := sizeBig
  unfold D_45
  rw [wp_run]
  have er : rg1 [.v (.int 7)] = some (rgD 0 7) := rg1_at (by decide)
  unfold B_45
  refine wps_sq ?_
  simp -dsimp
  refine ⟨by decide, ?_⟩
  refine wps_forL (fun rem n => ∃ (l' : List PyData) (hs : List Rw) (y2 y3 y4 y5 y6 : Option Sl), n = [some (.lent l'), some (.own (hs.map dR)), y2, y3, y4, y5, y6] ∧ Dr l' ∧ hs.length + rem.length = 7 ∧ (∀ r ∈ hs, GR r) ∧ Vl y2 ∧ Vo y3 ∧ Vl y4 ∧ Vl y5 ∧ Vl y6) ?_ ?_ _ _ ⟨l, [], none, none, none, none, none, rfl, h, by rw [rgD_len]; rfl, (fun _ h => by cases h), Vl.none, .inl rfl, Vl.none, Vl.none, Vl.none⟩
  · rintro d rem n ⟨l', hs, y2, y3, y4, y5, y6, rfl, d', hl, hg, w2, w3, w4, w5, w6⟩
    have hl : hs.length + (rem.length + 1) = 7 := hl
    refine ⟨_, gN_vl (x := y2) rfl w2, ?_⟩
    refine dayB_spec d' (by omega) hg w3 w4 w5 w6 fun l2 r z3 z4 z5 z6 d2 g u3 u4 u5 u6 => ?_
    refine ⟨l2, hs ++ [r], _, z3, z4, z5, z6, rfl, d2, by rw [List.length_append]; show hs.length + 1 + _ = _; omega, fun q hq => ?_, Vl.val, u3, u4, u5, u6⟩
    rcases List.mem_append.mp hq with hq | hq
    · exact hg q hq
    · simp only [List.mem_cons, List.not_mem_nil, or_false] at hq
      rw [hq]; exact g
  · rintro n ⟨l', hs, y2, y3, y4, y5, y6, rfl, d', hl, hg, w2, w3, w4, w5, w6⟩
    have hb : bTuple [.list (hs.map dR)] = some (dH hs) := rfl
    simp -dsimp [hb]
    exact hP hs l' d' ⟨by simpa using hl, hg⟩
end Wlaw_k12
end NL
end L2
/-! M10: dicts, whiles. -/
namespace L2
namespace NL
open PySem PySem.Spec PyProof.Rows
def itemsOf : PyData → Option (List PyData)
  | .dict kvs => some (dItems kvs)
  | _ => none
def dictOf : PyData → Option PyData
  | .list xs => (pairsOf xs).bind fun kvs => if distK kvs = true then some (.dict kvs) else none
  | _ => none
def dispOf (ks : List Str) (as : List AV) : Option PyData := (nTup.plains as).bind fun ds => if ds.length = ks.length ∧ distK ((ks.map PyData.str).zip ds) = true then some (.dict ((ks.map PyData.str).zip ds)) else none
def kvOf : PyData → Option (List (PyData × PyData))
  | .dict kvs => some kvs
  | _ => none
@[simp] theorem itemsOf_dict {kvs : List (PyData × PyData)} : itemsOf (.dict kvs) = some (dItems kvs) := id rfl
@[simp] theorem kvOf_dict {kvs : List (PyData × PyData)} : kvOf (.dict kvs) = some kvs := id rfl
section
variable {n : NSt} {i : Nat} {f : NExp} {p : Opd} {P : PyData → NSt → Prop} {Pd : List PyData → NSt → Prop} {Pl : List AV → NSt → Prop} {fs : NSt → R (List AV)} {t : NSt → R Bool} {Nx : NSt → Prop} {Rt : PyData → NSt → Prop} {Bk Ct : NSt → Prop}
@[simp ↓] theorem wp_iItm : Wp (iItm f n) Pd = Wp (f n) fun d n1 => onO (itemsOf d) fun xs => Pd xs n1 := by
  unfold iItm
  rw [wp_bind]
  refine wp_ext fun d n1 => ?_
  cases d <;> rfl
@[simp ↓] theorem wp_dictOf : Wp (nDictOf p n) P = Wp (p.run n) fun a n1 => onO (a.get n1) fun d => onO (dictOf d) fun z => P z n1 := by
  unfold nDictOf
  rw [wp_bind]
  refine wp_ext fun a n1 => ?_
  cases a.get n1 with
  | none => rfl
  | some d =>
    rw [onO_some]
    cases d with
    | list xs =>
      unfold dictOf
      dsimp only
      cases pairsOf xs with
      | none => rfl
      | some kvs =>
        dsimp only [Option.bind]
        by_cases h : distK kvs = true
        · rw [if_pos h, if_pos h]; rfl
        · rw [if_neg h, if_neg h]; rfl
    | _ => rfl
@[simp ↓] theorem wp_disp {ks : List Str} : Wp (nDisp ks fs n) P = Wp (fs n) fun as n1 => onO (dispOf ks as) fun z => P z n1 := by
  unfold nDisp
  rw [wp_bind]
  refine wp_ext fun as n1 => ?_
  unfold dispOf
  cases nTup.plains as with
  | none => rfl
  | some ds =>
    dsimp only [Option.bind]
    split <;> rfl
@[simp ↓] theorem wp_aStar : Wp (aStar p fs n) Pl = Wp (p.run n) fun a n1 => onO (seqA (a.get n1)) fun xs => Wp (fs n1) fun as n2 => Pl (xs.map .v ++ as) n2 := by
  unfold aStar
  rw [wp_bind]
  refine wp_ext fun a n1 => ?_
  cases seqA (a.get n1) with
  | none => rfl
  | some xs =>
    rw [onO_some]
    dsimp only
    rw [wp_bind]
    rfl
@[simp ↓] theorem wps_dictSet {k : Str} : WpS (sDictSet i p t k f n) Nx Rt Bk Ct = Wp (nDictOf p n) fun d n1 => onO (kvOf d) fun kvs => notLent n1 i = true ∧ kvs.length ≤ 1000 ∧ Wp (t (n1.set i none)) fun b n2 =>
    Br b (Wp (f n2) fun v n3 => freeSl n3 i = true ∧ Nx (n3.set i (some (.val (.dict (dPutP kvs (.str k) v)))))) (freeSl n2 i = true ∧ Nx (n2.set i (some (.val (.dict kvs))))) := by
  unfold sDictSet
  rw [wps_st]
  refine wp_ext fun d n1 => ?_
  cases d with
  | dict kvs =>
    rw [kvOf_dict, onO_some]
    dsimp only
    by_cases h : notLent n1 i = true ∧ kvs.length ≤ 1000
    · rw [if_pos h, wps_st]
      have e : ∀ X : Prop, (notLent n1 i = true ∧ kvs.length ≤ 1000 ∧ X) = X := fun X => propext ⟨fun z => z.2.2, fun z => ⟨h.1, h.2, z⟩⟩
      rw [e]
      refine wp_ext fun b n2 => ?_
      cases b with
      | true =>
        rw [if_pos rfl, Br_true, wps_st]
        refine wp_ext fun v n3 => ?_
        by_cases h3 : freeSl n3 i = true
        · rw [if_pos h3, wps_nx]; exact propext ⟨fun z => ⟨h3, z⟩, And.right⟩
        · rw [if_neg h3, wps_bad]; exact propext ⟨False.elim, fun z => h3 z.1⟩
      | false =>
        rw [if_neg (by decide), Br_false]
        by_cases h3 : freeSl n2 i = true
        · rw [if_pos h3, wps_nx]; exact propext ⟨fun z => ⟨h3, z⟩, And.right⟩
        · rw [if_neg h3, wps_bad]; exact propext ⟨False.elim, fun z => h3 z.1⟩
    · rw [if_neg h, wps_bad]
      exact propext ⟨False.elim, fun z => h ⟨z.1, z.2.1⟩⟩
  | _ => rfl
theorem wps_while {body : NStm} (I : Nat → NSt → Prop)
    (step : ∀ m n, I m n → Wp (t n) fun b n1 => if b = true then WpS (body n1) (fun n2 => ∃ m', m' < m ∧ I m' n2) Rt Nx (fun n2 => ∃ m', m' < m ∧ I m' n2) else Nx n1) : ∀ (k m : Nat) (n : NSt), m < k → I m n → WpS (sWhile k t body n) Nx Rt Bk Ct
  | 0, _, _, h, _ => by omega
  | k + 1, m, n, hk, h => by
    have s := step m n h
    show WpS ((t n).st fun b n1 => if b = true then (match body n1 with
      | .nx n2 => sWhile k t body n2
      | .ct n2 => sWhile k t body n2
      | .brk n2 => .nx n2
      | r => r) else .nx n1) Nx Rt Bk Ct
    rw [wps_st]
    refine wp_mono s fun b n1 s => ?_
    by_cases hb : b = true
    · rw [if_pos hb] at s ⊢
      cases e : body n1 with
      | nx n2 =>
        rw [e] at s
        obtain ⟨m', hm, i'⟩ := s
        exact wps_while I step k m' n2 (by omega) i'
      | ct n2 =>
        rw [e] at s
        obtain ⟨m', hm, i'⟩ := s
        exact wps_while I step k m' n2 (by omega) i'
      | brk n2 => rw [e] at s; exact s
      | ret d n2 => rw [e] at s; exact s
      | err x n2 => rw [e] at s; exact s
      | bad => rw [e] at s; exact s
    · rw [if_neg hb] at s ⊢
      exact s
end
end NL
end L2
namespace L2
namespace NL
open PySem PySem.Spec PyProof.Rows
namespace Wlaw_k12
/-! the plain law: passing, and later never sooner -/
abbrev Po := List Rw × List Int
structure GP (p : Po) : Prop where
  h : GH p.1
  c : GC p.2
def dPo (p : Po) : PyData := .tuple [dH p.1, dC p.2]
def cutN (o : Option Int) : Option Int := match o with
  | some f => if f ≤ 10000000 then some f else none
  | none => none
def nextM (p : Po) (m : Int) : Option Int := cutN (nextIn p.1 p.2 m (days (m / 1440) 6945))
def oI (o : Option Int) : PyData := match o with
  | some f => .int f
  | none => .none
theorem oI_cut {o : Option Int} : ansN o = oI (cutN o) := by
  cases o with
  | none => rfl
  | some f =>
    unfold ansN cutN oI
    dsimp only
    split <;> rfl
theorem firstIn_none {d m : Int} : ∀ {r : Rw}, firstIn r d m = none → ∀ p ∈ r, d * 1440 + p.2 ≤ m
  | [], _, p, hp => by cases hp
  | q :: r, h, p, hp => by
    rw [firstIn_cons] at h
    by_cases hq : m < d * 1440 + q.2
    · rw [if_pos hq] at h; cases h
    · rw [if_neg hq] at h
      rcases List.mem_cons.mp hp with rfl | hp
      · omega
      · exact firstIn_none h p hp
theorem firstIn_ge {d m f : Int} : ∀ {r : Rw}, firstIn r d m = some f → m ≤ f
  | [], h => by cases h
  | q :: r, h => by
    rw [firstIn_cons] at h
    by_cases hq : m < d * 1440 + q.2
    · rw [if_pos hq] at h; cases h; omega
    · rw [if_neg hq] at h; exact firstIn_ge h
theorem firstIn_lt {d m f : Int} : ∀ {r : Rw}, (∀ p ∈ r, p.1 < p.2) → firstIn r d m = some f → ∃ p ∈ r, f < d * 1440 + p.2 ∧ m < d * 1440 + p.2
  | [], _, h => by cases h
  | q :: r, g, h => by
    rw [firstIn_cons] at h
    by_cases hq : m < d * 1440 + q.2
    · rw [if_pos hq] at h
      cases h
      have := g q List.mem_cons_self
      exact ⟨q, List.mem_cons_self, by omega, hq⟩
    · rw [if_neg hq] at h
      obtain ⟨p, hp, e⟩ := firstIn_lt (fun p hp => g p (List.mem_cons_of_mem _ hp)) h
      exact ⟨p, List.mem_cons_of_mem _ hp, e⟩
theorem firstIn_mono {d a b fb : Int} (hab : a ≤ b) : ∀ {r : Rw}, (∀ p ∈ r, p.1 < p.2) → firstIn r d b = some fb → ∃ fa, firstIn r d a = some fa ∧ fa ≤ fb
  | [], _, h => by cases h
  | q :: r, g, h => by
    rw [firstIn_cons] at h ⊢
    have := g q List.mem_cons_self
    by_cases hq : b < d * 1440 + q.2
    · rw [if_pos hq] at h
      cases h
      rw [if_pos (by omega)]
      exact ⟨_, rfl, by omega⟩
    · rw [if_neg hq] at h
      have hge := firstIn_ge h
      by_cases ha : a < d * 1440 + q.2
      · rw [if_pos ha]
        exact ⟨_, rfl, by omega⟩
      · rw [if_neg ha]
        exact firstIn_mono hab (fun p hp => g p (List.mem_cons_of_mem _ hp)) h
theorem nextIn_ge {hs : List Rw} {cs : List Int} {m f : Int} : ∀ {ds : List Int}, nextIn hs cs m ds = some f → m ≤ f
  | [], h => by cases h
  | d :: ds, h => by
    rw [nextIn_cons] at h
    cases e : firstIn (onDay hs cs d) d m with
    | some g => rw [e] at h; cases h; exact firstIn_ge e
    | none => rw [e] at h; exact nextIn_ge h
theorem nextIn_mono {hs : List Rw} {cs : List Int} (g : GH hs) {a b fb : Int} (hab : a ≤ b) : ∀ {ds : List Int}, nextIn hs cs b ds = some fb → ∃ fa, nextIn hs cs a ds = some fa ∧ fa ≤ fb
  | [], h => by cases h
  | d :: ds, h => by
    have hlt : ∀ p ∈ onDay hs cs d, p.1 < p.2 := fun p hp => ((onDay_GR g cs d).ok p hp).2.1
    rw [nextIn_cons] at h ⊢
    cases e : firstIn (onDay hs cs d) d b with
    | some f =>
      rw [e] at h
      cases h
      obtain ⟨fa, e1, e2⟩ := firstIn_mono hab hlt e
      rw [e1]
      exact ⟨fa, rfl, e2⟩
    | none =>
      rw [e] at h
      have hge := nextIn_ge h
      cases e1 : firstIn (onDay hs cs d) d a with
      | some fa =>
        obtain ⟨p, hp, h1, h2⟩ := firstIn_lt hlt e1
        have := firstIn_none e p hp
        exact ⟨fa, rfl, by omega⟩
      | none => exact nextIn_mono g hab h
theorem nextIn_lt {hs : List Rw} {cs : List Int} (g : GH hs) {m f : Int} : ∀ {ds : List Int}, nextIn hs cs m ds = some f → ∃ d ∈ ds, f < d * 1440 + 1440
  | [], h => by cases h
  | d :: ds, h => by
    rw [nextIn_cons] at h
    cases e : firstIn (onDay hs cs d) d m with
    | some f' =>
      rw [e] at h
      cases h
      have gr := onDay_GR g cs d
      obtain ⟨p, hp, h1, h2⟩ := firstIn_lt (fun p hp => (gr.ok p hp).2.1) e
      have := (gr.ok p hp).2.2
      exact ⟨d, List.mem_cons_self, by omega⟩
    | none =>
      rw [e] at h
      obtain ⟨d', hd, e⟩ := nextIn_lt g h
      exact ⟨d', List.mem_cons_of_mem _ hd, e⟩
theorem nextM_ge {p : Po} {m f : Int} (h : nextM p m = some f) : m ≤ f ∧ f ≤ 10000000 := by
  unfold nextM cutN at h
  cases e : nextIn p.1 p.2 m (days (m / 1440) 6945) with
  | none => rw [e] at h; cases h
  | some g =>
    rw [e] at h
    dsimp only at h
    split at h
    · cases h
      exact ⟨nextIn_ge e, by assumption⟩
    · cases h
theorem nextM_mono {p : Po} (g : GP p) {a b fb : Int} (hab : a ≤ b) (h : nextM p b = some fb) : ∃ fa, nextM p a = some fa ∧ fa ≤ fb := by
  have h1 := nextM_ge h
  unfold nextM cutN at h ⊢
  cases e : nextIn p.1 p.2 b (days (b / 1440) 6945) with
  | none => rw [e] at h; cases h
  | some f =>
    rw [e] at h
    dsimp only at h
    have hf : f = fb := by
      split at h
      · cases h; rfl
      · cases h
    subst hf
    have hb : b / 1440 < 6945 := by
      refine Classical.byContradiction fun hz => ?_
      have : days (b / 1440) 6945 = [] := by unfold days; rw [show ((6945 : Int) - b / 1440).toNat = 0 by omega]; rfl
      rw [this] at e
      cases e
    have key : ∃ fa, nextIn p.1 p.2 a (days (a / 1440) 6945) = some fa ∧ fa ≤ f := by
      rw [days_append (a := a / 1440) (b := b / 1440) (c := 6945) (by omega) (by omega), nextIn_append]
      cases e2 : nextIn p.1 p.2 a (days (a / 1440) (b / 1440)) with
      | some fa =>
        obtain ⟨d, hd, hl⟩ := nextIn_lt g.h e2
        have := days_mem hd
        exact ⟨fa, rfl, by omega⟩
      | none => exact nextIn_mono g.h hab e
    obtain ⟨fa, e3, hle⟩ := key
    rw [e3]
    dsimp only
    rw [if_pos (by omega)]
    exact ⟨fa, rfl, hle⟩
theorem nextM_late {p : Po} {m : Int} (h : 10000000 < m) : nextM p m = none := by
  cases e : nextM p m with
  | none => rfl
  | some f =>
    have := nextM_ge e
    omega
/-- posts by their names -/
def pLook (kvs : List (Str × Po)) (k : Str) : Option Po := (kvs.find? fun kv => kv.1 == k).map (·.2)
abbrev Lg := Int × Str
def nextA (kvs : List (Str × Po)) (now : Int) (l : Lg) : Option Int := match pLook kvs l.2 with
  | some p => nextM p (now + l.1)
  | none => none
def passB (kvs : List (Str × Po)) : Int → List Lg → Option (List Int)
  | _, [] => some []
  | now, l :: ls => match nextA kvs now l with
    | some f => (passB kvs f ls).map (f :: ·)
    | none => none
def arr (kvs : List (Str × Po)) : Int → List Lg → Option Int
  | now, [] => some now
  | now, l :: ls => match nextA kvs now l with
    | some f => arr kvs f ls
    | none => none
structure GPs (kvs : List (Str × Po)) : Prop where
  len : kvs.length ≤ 10
  ok : ∀ kv ∈ kvs, GP kv.2
theorem pLook_mem {kvs : List (Str × Po)} {k : Str} {p : Po} (h : pLook kvs k = some p) : ∃ kv ∈ kvs, kv.2 = p := by
  unfold pLook at h
  cases e : kvs.find? fun kv => kv.1 == k with
  | none => rw [e] at h; cases h
  | some kv => rw [e] at h; cases h; exact ⟨kv, List.mem_of_find?_eq_some e, rfl⟩
theorem GPs.look {kvs : List (Str × Po)} (g : GPs kvs) {k : Str} {p : Po} (h : pLook kvs k = some p) : GP p := by
  obtain ⟨kv, hk, rfl⟩ := pLook_mem h
  exact g.ok kv hk
theorem nextA_mono {kvs : List (Str × Po)} (g : GPs kvs) {a b fb : Int} {l : Lg} (hab : a ≤ b) (h : nextA kvs b l = some fb) : ∃ fa, nextA kvs a l = some fa ∧ fa ≤ fb := by
  unfold nextA at h ⊢
  cases e : pLook kvs l.2 with
  | none => rw [e] at h; cases h
  | some p =>
    rw [e] at h
    exact nextM_mono (g.look e) (by omega) h
theorem arr_mono {kvs : List (Str × Po)} (g : GPs kvs) : ∀ {ls : List Lg} {a b fb : Int}, a ≤ b → arr kvs b ls = some fb → ∃ fa, arr kvs a ls = some fa ∧ fa ≤ fb
  | [], a, b, fb, hab, h => by cases h; exact ⟨a, rfl, hab⟩
  | l :: ls, a, b, fb, hab, h => by
    unfold arr at h ⊢
    cases e : nextA kvs b l with
    | none => rw [e] at h; cases h
    | some f =>
      rw [e] at h
      obtain ⟨f2, e2, hle⟩ := nextA_mono g hab e
      rw [e2]
      exact arr_mono g hle h
theorem arr_pass {kvs : List (Str × Po)} : ∀ {ls : List Lg} {now : Int}, arr kvs now ls = (passB kvs now ls).map fun fs => (now :: fs).getLast (List.cons_ne_nil _ _)
  | [], now => rfl
  | l :: ls, now => by
    unfold arr passB
    cases e : nextA kvs now l with
    | none => rfl
    | some f =>
      dsimp only
      rw [arr_pass (ls := ls) (now := f)]
      cases passB kvs f ls with
      | none => rfl
      | some fs => rfl
theorem pass_len {kvs : List (Str × Po)} : ∀ {ls : List Lg} {now : Int} {fs : List Int}, passB kvs now ls = some fs → fs.length = ls.length
  | [], now, fs, h => by cases h; rfl
  | l :: ls, now, fs, h => by
    unfold passB at h
    cases e : nextA kvs now l with
    | none => rw [e] at h; cases h
    | some f =>
      rw [e] at h
      dsimp only at h
      cases e2 : passB kvs f ls with
      | none => rw [e2] at h; cases h
      | some gs => rw [e2] at h; cases h; rw [List.length_cons, List.length_cons, pass_len e2]
end Wlaw_k12
end NL
end L2
namespace L2
namespace NL
open PySem PySem.Spec PyProof.Rows
namespace Wlaw_k12
/-! next openings, as both tell them -/
theorem s28 {p : Po} (g : GP p) {m : Int} (h0 : 0 ≤ m) : D_28 [some (.val (dH p.1)), some (.val (dC p.2)), some (.val (.int m))] = .ok (oI (nextM p m)) [some (.val (dH p.1)), some (.val (dC p.2)), some (.val (.int m))] := by
  by_cases h1 : m ≤ 10000000
  · rw [s25 g.h h0 h1, oI_cut]; rfl
  · have hz : (10000000 : Int) < m := by omega
    rw [nextM_late hz]
    apply wp_eq
    unfold D_28
    rw [wp_run]
    simp -dsimp [B_28, hz, oI]
theorem s47 {p : Po} (g : GP p) {m : Int} (h0 : 0 ≤ m) (h1 : m ≤ 20000000) : D_47 [some (.val (dH p.1)), some (.val (dC p.2)), some (.val (.int m))] = .ok (oI (nextM p m)) [some (.val (dH p.1)), some (.val (dC p.2)), some (.val (.int m))] := by
  rw [s39 g.h h0 h1, next_law g.h g.c h0, oI_cut]
  rfl
def dPs (kvs : List (Str × Po)) : PyData := .dict (kvs.map fun kv => (.str kv.1, dPo kv.2))
theorem dLook_ps {k : Str} : ∀ {kvs : List (Str × Po)}, dLook (kvs.map fun kv => (.str kv.1, dPo kv.2)) (.str k) = (pLook kvs k).map dPo
  | [] => rfl
  | kv :: kvs => by
    have ih := dLook_ps (k := k) (kvs := kvs)
    unfold dLook pLook at ih ⊢
    rw [List.map_cons, List.find?_cons, List.find?_cons]
    have e : isKey (PyData.str kv.1) (.str k) = (kv.1 == k) := rfl
    dsimp only
    rw [e]
    cases kv.1 == k with
    | true => rfl
    | false => exact ih
theorem dix_ps {kvs : List (Str × Po)} {k : Str} {p : Po} (h : pLook kvs k = some p) : oDix (dPs kvs) (.str k) = some (dPo p) := by
  show dLook _ _ = _
  rw [dLook_ps, h]
  rfl
theorem din_ps {kvs : List (Str × Po)} {k : Str} : oDin (.str k) (dPs kvs) = some (.bool (pLook kvs k).isSome) := by
  show some (PyData.bool (dLook _ _).isSome) = _
  rw [dLook_ps]
  cases pLook kvs k <;> rfl
def dLg (l : Lg) : PyData := .tuple [.int l.1, .str l.2]
theorem gT2' {i j : Nat} {a b : PyData} {n : NSt} : gT (gCons' (gN i) (gCons' (gN j) gNil')) (.tuple [a, b]) n = (gN i a n).bind fun n1 => gN j b n1 := by
  show ((gN i a n).bind fun n1 => (gN j b n1).bind fun n2 => some n2) = _
  cases gN i a n with
  | none => rfl
  | some n1 =>
    show (gN j b n1).bind _ = gN j b n1
    cases gN j b n1 <;> rfl
structure GL (kvs : List (Str × Po)) (l : Lg) : Prop where
  m0 : 0 ≤ l.1
  m1 : l.1 ≤ 5000
  p : ∃ p, pLook kvs l.2 = some p
def oL (o : Option (List Int)) : PyData := match o with
  | some fs => .list (fs.map .int)
  | none => .none
theorem pass_cons {kvs : List (Str × Po)} {now : Int} {l : Lg} {ls : List Lg} : passB kvs now (l :: ls) = match nextA kvs now l with
    | some f => (passB kvs f ls).map (f :: ·)
    | none => none := rfl
theorem nextA_of {kvs : List (Str × Po)} {now : Int} {l : Lg} {p : Po} (h : pLook kvs l.2 = some p) : nextA kvs now l = nextM p (now + l.1) := by unfold nextA; rw [h]
theorem s32 {kvs : List (Str × Po)} (g : GPs kvs) {s : Int} (h0 : 0 ≤ s) (h1 : s ≤ 10000000) {ls : List Lg} (hl : ls.length ≤ 12) (gl : ∀ l ∈ ls, GL kvs l) :
    D_32 [some (.val (dPs kvs)), some (.val (.int s)), some (.val (.list (ls.map dLg)))] = .ok (oL (passB kvs s ls)) [some (.val (dPs kvs)), some (.val (.int s)), some (.val (.list (ls.map dLg)))] := by
  have sz := sizeBig
  apply wp_eq
  unfold D_32
  rw [wp_run]
  simp -dsimp [B_32, -gN_eq]
  refine wps_forL (fun rem n => ∃ (ms : List Lg) (fs : List Int) (now : Int) (x5 x6 x7 x8 : Option Sl), rem = ms.map dLg ∧ n = [some (.val (dPs kvs)), some (.val (.int s)), some (.val (.list (ls.map dLg))), some (.own (fs.map .int)), some (.val (.int now)), x5, x6, x7, x8] ∧ Vl x5 ∧ Vl x6 ∧ Vl x7 ∧ Vl x8
      ∧ passB kvs s ls = (passB kvs now ms).map (fs ++ ·) ∧ 0 ≤ now ∧ now ≤ 10000000 ∧ fs.length + ms.length ≤ 12 ∧ ∀ l ∈ ms, GL kvs l) ?_ ?_ _ _ ⟨ls, [], s, none, none, none, none, rfl, rfl, Vl.none, Vl.none, Vl.none, Vl.none, by cases passB kvs s ls <;> rfl, h0, h1, by simpa using hl, gl⟩
  · rintro e rem n ⟨ms, fs, now, x5, x6, x7, x8, hm, rfl, v5, v6, v7, v8, hp, n0, n1, hlen, gm⟩
    cases ms with
    | nil => cases hm
    | cons l ms =>
      cases hm
      obtain ⟨m0, m1, p, hlk⟩ := gm l List.mem_cons_self
      have gp := g.look hlk
      refine ⟨[some (.val (dPs kvs)), some (.val (.int s)), some (.val (.list (ls.map dLg))), some (.own (fs.map .int)), some (.val (.int now)), some (.val (.int l.1)), some (.val (.str l.2)), x7, x8], ?_, ?_⟩
      · unfold dLg
        rw [gT2', gN_vl (x := x5) rfl v5]
        show gN 6 _ _ = _
        rw [gN_vl (x := x6) rfl v6]
        rfl
      · have e1 := dix_ps hlk
        have e2 : gT (gCons' (gN 7) (gCons' (gN 8) gNil')) (dPo p) [some (.val (dPs kvs)), some (.val (.int s)), some (.val (.list (ls.map dLg))), some (.own (fs.map .int)), some (.val (.int now)), some (.val (.int l.1)), some (.val (.str l.2)), x7, x8] = some [some (.val (dPs kvs)), some (.val (.int s)), some (.val (.list (ls.map dLg))), some (.own (fs.map .int)), some (.val (.int now)), some (.val (.int l.1)), some (.val (.str l.2)), some (.val (dH p.1)), some (.val (dC p.2))] := by
          unfold dPo
          rw [gT2', gN_vl (x := x7) rfl v7]
          show gN 8 _ _ = _
          rw [gN_vl (x := x8) rfl v8]
          rfl
        have e3 := s28 gp (m := now + l.1) (by omega)
        rw [pass_cons, nextA_of hlk] at hp
        have hlen : fs.length + (ms.length + 1) ≤ 12 := hlen
        cases en : nextM p (now + l.1) with
        | none =>
          rw [en] at hp e3
          simp -dsimp [e1, e2, e3, oI]
          rw [hp]
          rfl
        | some f =>
          have hf := nextM_ge en
          rw [en] at hp e3
          simp -dsimp [e1, e2, e3, oI]
          refine ⟨by omega, ms, rfl, fs ++ [f], f, _, _, _, _, ⟨by simp, rfl, rfl, rfl, rfl, rfl⟩, Vl.val, Vl.val, Vl.val, Vl.val, ?_, by omega, by omega, by simp; omega, fun a b hm => gm _ (List.mem_cons_of_mem _ hm)⟩
          rw [hp]
          dsimp only
          cases passB kvs f ms with
          | none => rfl
          | some gs => simp
  · rintro n ⟨ms, fs, now, x5, x6, x7, x8, hm, rfl, v5, v6, v7, v8, hp, n0, n1, hlen, gm⟩
    simp -dsimp
    cases ms with
    | cons l ms => cases hm
    | nil =>
      rw [hp]
      show PyData.list (fs.map .int) = PyData.list ((fs ++ []).map .int)
      rw [List.append_nil]
theorem plains_map' : ∀ {xs : List PyData}, nTup.plains (xs.map AV.v) = some xs
  | [] => rfl
  | x :: xs => by
    have := plains_map' (xs := xs)
    show (nTup.plains (xs.map AV.v)).map _ = _
    rw [this]
    rfl
theorem last_atI {x : PyData} : ∀ {xs : List PyData}, atI (x :: xs) (-1) = some ((x :: xs).getLast (List.cons_ne_nil _ _)) := by
  intro xs
  unfold atI
  have e : ixN (x :: xs).length (-1) = some xs.length := by
    unfold ixN
    rw [List.length_cons]
    rw [if_neg (by omega), if_pos (by omega)]
    congr 1
    omega
  rw [e]
  show (x :: xs)[xs.length]? = _
  rw [List.getLast_eq_getElem, List.getElem?_eq_getElem (by simp)]
  rfl
theorem map_last {now : Int} {fs : List Int} : (PyData.int now :: fs.map .int).getLast (List.cons_ne_nil _ _) = .int ((now :: fs).getLast (List.cons_ne_nil _ _)) := by
  rw [← List.getLast_map (f := PyData.int) (l := now :: fs) (by simp)]
  rfl
theorem s34 {kvs : List (Str × Po)} (g : GPs kvs) {s : Int} (h0 : 0 ≤ s) (h1 : s ≤ 10000000) {ls : List Lg} (hl : ls.length ≤ 12) (gl : ∀ l ∈ ls, GL kvs l) :
    D_34 [some (.val (dPs kvs)), some (.val (.int s)), some (.val (.list (ls.map dLg)))] = .ok (oI (arr kvs s ls)) [some (.val (dPs kvs)), some (.val (.int s)), some (.val (.list (ls.map dLg)))] := by
  have sz := sizeBig
  have e := s32 g h0 h1 hl gl
  rw [arr_pass]
  cases ep : passB kvs s ls with
  | none =>
    rw [ep] at e
    apply wp_eq
    unfold D_34
    rw [wp_run]
    simp -dsimp [B_34, e, oL]
    rfl
  | some fs =>
    rw [ep] at e
    have hfl := pass_len ep
    have la := last_atI (x := .int s) (xs := fs.map .int)
    rw [map_last] at la
    apply wp_eq
    unfold D_34
    rw [wp_run]
    simp -dsimp [B_34, e, oL, la]
    have q : seqA (some (PyData.list (fs.map .int))) = some (fs.map .int) := rfl
    have q2 : nTup.plains ((fs.map PyData.int).map AV.v) = some (fs.map .int) := plains_map'
    rw [q, onO_some]
    simp -dsimp [-List.map_map, q2, la]
    exact ⟨by omega, rfl⟩
def inT (kvs : List (Str × Po)) (s : Int) (ls : List Lg) (b : Int) : Bool := match arr kvs s ls with
  | some f => decide (f ≤ b)
  | none => false
theorem u36 {kvs : List (Str × Po)} (g : GPs kvs) {s b : Int} (h0 : 0 ≤ s) (h1 : s ≤ 10000000) {ls : List Lg} (hl : ls.length ≤ 12) (gl : ∀ l ∈ ls, GL kvs l) :
    D_36 [some (.val (dPs kvs)), some (.val (.int s)), some (.val (.list (ls.map dLg))), some (.val (.int b))] = .ok (.bool (inT kvs s ls b)) [some (.val (dPs kvs)), some (.val (.int s)), some (.val (.list (ls.map dLg))), some (.val (.int b))] := by
  have e := s34 g h0 h1 hl gl
  unfold inT
  cases ep : arr kvs s ls with
  | none =>
    rw [ep] at e
    apply wp_eq
    unfold D_36
    rw [wp_run]
    simp -dsimp [B_36, e, oI]
  | some f =>
    rw [ep] at e
    apply wp_eq
    unfold D_36
    rw [wp_run]
    simp -dsimp [B_36, e, oI]
/-! the law's own -/
theorem u49 {kvs : List (Str × Po)} (g : GPs kvs) {s : Int} (h0 : 0 ≤ s) (h1 : s ≤ 10000000) {ls : List Lg} (hl : ls.length ≤ 12) (gl : ∀ l ∈ ls, GL kvs l) :
    D_49 [some (.val (dPs kvs)), some (.val (.int s)), some (.val (.list (ls.map dLg)))] = .ok (oL (passB kvs s ls)) [some (.val (dPs kvs)), some (.val (.int s)), some (.val (.list (ls.map dLg)))] := by
  have sz := sizeBig
  apply wp_eq
  unfold D_49
  rw [wp_run]
  simp -dsimp [B_49, -gN_eq]
  refine wps_forL (fun rem n => ∃ (ms : List Lg) (xs : List PyData) (v4 : PyData) (x5 x6 x7 x8 : Option Sl), rem = ms.map dLg ∧ n = [some (.val (dPs kvs)), some (.val (.int s)), some (.val (.list (ls.map dLg))), some (.own xs), some (.val v4), x5, x6, x7, x8] ∧ Vl x5 ∧ Vl x6 ∧ Vl x7 ∧ Vl x8
      ∧ ((∃ (now : Int) (fs : List Int), v4 = .int now ∧ xs = fs.map .int ∧ passB kvs s ls = (passB kvs now ms).map (fs ++ ·) ∧ 0 ≤ now ∧ now ≤ 10000000) ∨ (v4 = .none ∧ passB kvs s ls = none)) ∧ xs.length + ms.length ≤ 12 ∧ ∀ l ∈ ms, GL kvs l) ?_ ?_ _ _
      ⟨ls, [], .int s, none, none, none, none, rfl, rfl, Vl.none, Vl.none, Vl.none, Vl.none, .inl ⟨s, [], rfl, rfl, by cases passB kvs s ls <;> rfl, h0, h1⟩, by simpa using hl, gl⟩
  · rintro e rem n ⟨ms, xs, v4, x5, x6, x7, x8, hm, rfl, v5, v6, v7, v8, hp, hlen, gm⟩
    cases ms with
    | nil => cases hm
    | cons l ms =>
      cases hm
      obtain ⟨m0, m1, p, hlk⟩ := gm l List.mem_cons_self
      have gp := g.look hlk
      refine ⟨[some (.val (dPs kvs)), some (.val (.int s)), some (.val (.list (ls.map dLg))), some (.own xs), some (.val v4), some (.val (.int l.1)), some (.val (.str l.2)), x7, x8], ?_, ?_⟩
      · unfold dLg
        rw [gT2', gN_vl (x := x5) rfl v5]
        show gN 6 _ _ = _
        rw [gN_vl (x := x6) rfl v6]
        rfl
      · have e1 := dix_ps hlk
        have e2 : gT (gCons' (gN 7) (gCons' (gN 8) gNil')) (dPo p) [some (.val (dPs kvs)), some (.val (.int s)), some (.val (.list (ls.map dLg))), some (.own xs), some (.val v4), some (.val (.int l.1)), some (.val (.str l.2)), x7, x8] = some [some (.val (dPs kvs)), some (.val (.int s)), some (.val (.list (ls.map dLg))), some (.own xs), some (.val v4), some (.val (.int l.1)), some (.val (.str l.2)), some (.val (dH p.1)), some (.val (dC p.2))] := by
          unfold dPo
          rw [gT2', gN_vl (x := x7) rfl v7]
          show gN 8 _ _ = _
          rw [gN_vl (x := x8) rfl v8]
          rfl
        have hlen : xs.length + (ms.length + 1) ≤ 12 := hlen
        rcases hp with ⟨now, fs, rfl, rfl, hp, n0, n1⟩ | ⟨rfl, hp⟩
        · have e3 := s47 gp (m := now + l.1) (by omega) (by omega)
          rw [pass_cons, nextA_of hlk] at hp
          rw [List.length_map] at hlen
          cases en : nextM p (now + l.1) with
          | none =>
            rw [en] at hp e3
            simp -dsimp [e1, e2, e3, oI]
            exact ⟨by omega, ms, rfl, _, _, _, _, _, _, ⟨rfl, rfl, rfl, rfl, rfl, rfl⟩, Vl.val, Vl.val, Vl.val, Vl.val, .inr ⟨rfl, hp⟩, by simp; omega, fun a b hm => gm _ (List.mem_cons_of_mem _ hm)⟩
          | some f =>
            have hf := nextM_ge en
            rw [en] at hp e3
            simp -dsimp [e1, e2, e3, oI]
            refine ⟨by omega, ms, rfl, _, _, _, _, _, _, ⟨rfl, rfl, rfl, rfl, rfl, rfl⟩, Vl.val, Vl.val, Vl.val, Vl.val, .inl ⟨f, rfl, fs ++ [f], by simp, ?_, by omega, by omega⟩, by simp; omega, fun a b hm => gm _ (List.mem_cons_of_mem _ hm)⟩
            rw [hp]
            dsimp only
            cases passB kvs f ms with
            | none => rfl
            | some gs => simp
        · simp -dsimp [e1, e2]
          exact ⟨ms, rfl, _, _, _, _, _, _, ⟨rfl, rfl, rfl, rfl, rfl, rfl⟩, Vl.val, Vl.val, Vl.val, Vl.val, .inr ⟨rfl, hp⟩, by omega, fun a b hm => gm _ (List.mem_cons_of_mem _ hm)⟩
  · rintro n ⟨ms, xs, v4, x5, x6, x7, x8, hm, rfl, v5, v6, v7, v8, hp, hlen, gm⟩
    cases ms with
    | cons l ms => cases hm
    | nil =>
      rcases hp with ⟨now, fs, rfl, rfl, hp, n0, n1⟩ | ⟨rfl, hp⟩
      · rw [hp]
        simp -dsimp
        refine ⟨by omega, ?_⟩
        rw [atI_0, onO_some]
        refine ⟨?_, rfl⟩
        show PyData.list (fs.map .int) = PyData.list ((fs ++ []).map .int)
        rw [List.append_nil]
      · rw [hp]
        simp -dsimp
        refine ⟨by omega, ?_⟩
        rw [atI_1, onO_some]
        exact ⟨rfl, rfl⟩
theorem len_atI {x : PyData} : ∀ {xs : List PyData}, atI (x :: xs) (xs.length : Int) = some ((x :: xs).getLast (List.cons_ne_nil _ _)) := by
  intro xs
  rw [atI_nat2, List.getLast_eq_getElem, List.getElem?_eq_getElem (by simp)]
  rfl
theorem u50 {kvs : List (Str × Po)} (g : GPs kvs) {s : Int} (h0 : 0 ≤ s) (h1 : s ≤ 10000000) {ls : List Lg} (hl : ls.length ≤ 12) (gl : ∀ l ∈ ls, GL kvs l) :
    D_50 [some (.val (dPs kvs)), some (.val (.int s)), some (.val (.list (ls.map dLg)))] = .ok (oI (arr kvs s ls)) [some (.val (dPs kvs)), some (.val (.int s)), some (.val (.list (ls.map dLg)))] := by
  have sz := sizeBig
  have e := u49 g h0 h1 hl gl
  rw [arr_pass]
  cases ep : passB kvs s ls with
  | none =>
    rw [ep] at e
    apply wp_eq
    unfold D_50
    rw [wp_run]
    simp -dsimp [B_50, e, oL]
    rfl
  | some fs =>
    rw [ep] at e
    have hfl := pass_len ep
    have la := len_atI (x := .int s) (xs := fs.map .int)
    rw [map_last, List.length_map] at la
    apply wp_eq
    unfold D_50
    rw [wp_run]
    simp -dsimp [B_50, e, oL, la]
    exact ⟨by omega, by omega, rfl⟩
theorem u51 {kvs : List (Str × Po)} (g : GPs kvs) {s b : Int} (h0 : 0 ≤ s) (h1 : s ≤ 10000000) {ls : List Lg} (hl : ls.length ≤ 12) (gl : ∀ l ∈ ls, GL kvs l) :
    D_51 [some (.val (dPs kvs)), some (.val (.int s)), some (.val (.list (ls.map dLg))), some (.val (.int b))] = .ok (.bool (inT kvs s ls b)) [some (.val (dPs kvs)), some (.val (.int s)), some (.val (.list (ls.map dLg))), some (.val (.int b))] := by
  have e := u50 g h0 h1 hl gl
  unfold inT
  cases ep : arr kvs s ls with
  | none =>
    rw [ep] at e
    apply wp_eq
    unfold D_51
    rw [wp_run]
    simp -dsimp [B_51, e, oI]
  | some f =>
    rw [ep] at e
    apply wp_eq
    unfold D_51
    rw [wp_run]
    simp -dsimp [B_51, e, oI]
end Wlaw_k12
end NL
end L2
namespace L2
namespace NL
open PySem PySem.Spec PyProof.Rows
theorem run_nx {N : Nat} {body : NStm} {a m : NSt} (h : body (a ++ List.replicate (N - a.length) none) = .nx m) : runD N body a = .ok .none (outs a m) := by unfold runD; rw [h]
namespace Wlaw_k12
/-! what is checked -/
abbrev nt : NX := ⟨"NotThere", none⟩
theorem chkT_err {f : NExp} {n : NSt} (e : f n = .ok (.bool false) n) : sExpr (nCall D_13 (aCons (.e f) aNil)) n = .err nt n :=
  expr_err (call_err (args1 e) List.nodup_nil rfl (show D_13 [some (.val (.bool false))] = .err nt [some (.val (.bool false))] from rfl) rfl)
theorem chkT_ok {f : NExp} {n : NSt} (e : f n = .ok (.bool true) n) : sExpr (nCall D_13 (aCons (.e f) aNil)) n = .nx n :=
  expr_ok (call_ok (args1 e) List.nodup_nil rfl (show D_13 [some (.val (.bool true))] = .ok .none [some (.val (.bool true))] from rfl) rfl)
def pE : NExp := nAnd (nIsi "dict" (.o 0)) (nCB bAll (aCons (.e (nL (nLc (iItm (nF 0)) (gT (gCons' (gN 3) (gCons' (gN 4) (gNil')))) (tYesN) (nAnd (nCall D_11 (aCons (.o 3) (aNil))) (nCall D_29 (aCons (.o 4) (aNil)))) [3, 4]))) (aNil)))
def mE : NExp := nCall D_26 (aCons (.o 1) (aNil))
def lE : NExp := nAnd (nIsi "list" (.o 2)) (nAnd (nOp2 oLe (.e (nCB bLen (aCons (.o 2) (aNil)))) (.e (nC (.int 12)))) (nCB bAll (aCons (.e (nL (nLc (iV (nF 2)) (gN 5) (tYesN) (nCall D_30 (aCons (.o 5) (aNil))) [5]))) (aNil))))
def tE : NExp := nCB bAll (aCons (.e (nL (nLc (iV (nF 2)) (gT (gCons' (gN 6) (gCons' (gN 3) (gNil')))) (tYesN) (nOp2 oDin (.o 3) (.o 0)) [6, 3]))) (aNil))
theorem B_31_eq : B_31 = sSeq (sExpr (nCall D_12 (aCons (.e pE) aNil))) (sSeq (sExpr (nCall D_12 (aCons (.e mE) aNil))) (sSeq (sExpr (nCall D_12 (aCons (.e lE) aNil))) (sExpr (nCall D_13 (aCons (.e tE) aNil))))) := rfl
abbrev st31 (a b c : PyData) : NSt := [some (.val a), some (.val b), some (.val c), none, none, none, none]
def PV (d : PyData) (b : Bool) : Prop := ∀ y z, pE (st31 d y z) = .ok (.bool b) (st31 d y z)
def MV (d : PyData) (b : Bool) : Prop := ∀ x z, mE (st31 x d z) = .ok (.bool b) (st31 x d z)
def LV (d : PyData) (b : Bool) : Prop := ∀ x y, lE (st31 x y d) = .ok (.bool b) (st31 x y d)
def TV (p d : PyData) (b : Bool) : Prop := ∀ y, tE (st31 p y d) = .ok (.bool b) (st31 p y d)
theorem mv (v : PyData) : MV v (numQ v 0 10000000) := fun x z => by
  have h := s21 v
  apply wp_eq
  unfold mE
  simp -dsimp [h]
section
variable {p m l : PyData}
theorem ok31 (hp : PV p true) (hm : MV m true) (hl : LV l true) (ht : TV p l true) : D_31 [some (.val p), some (.val m), some (.val l)] = .ok .none [some (.val p), some (.val m), some (.val l)] := by
  refine run_nx (m := st31 p m l) ?_
  show B_31 (st31 p m l) = _
  rw [B_31_eq, seq_nx (chk_ok (hp m l)), seq_nx (chk_ok (hm p l)), seq_nx (chk_ok (hl p m)), chkT_ok (ht m)]
theorem badP (hp : PV p false) : D_31 [some (.val p), some (.val m), some (.val l)] = .err nr [some (.val p), some (.val m), some (.val l)] := by
  refine run_err (m := st31 p m l) ?_
  show B_31 (st31 p m l) = _
  rw [B_31_eq, seq_err (chk_err (hp m l))]
theorem badM (hp : PV p true) (hm : MV m false) : D_31 [some (.val p), some (.val m), some (.val l)] = .err nr [some (.val p), some (.val m), some (.val l)] := by
  refine run_err (m := st31 p m l) ?_
  show B_31 (st31 p m l) = _
  rw [B_31_eq, seq_nx (chk_ok (hp m l)), seq_err (chk_err (hm p l))]
theorem badL (hp : PV p true) (hm : MV m true) (hl : LV l false) : D_31 [some (.val p), some (.val m), some (.val l)] = .err nr [some (.val p), some (.val m), some (.val l)] := by
  refine run_err (m := st31 p m l) ?_
  show B_31 (st31 p m l) = _
  rw [B_31_eq, seq_nx (chk_ok (hp m l)), seq_nx (chk_ok (hm p l)), seq_err (chk_err (hl p m))]
theorem badT (hp : PV p true) (hm : MV m true) (hl : LV l true) (ht : TV p l false) : D_31 [some (.val p), some (.val m), some (.val l)] = .err nt [some (.val p), some (.val m), some (.val l)] := by
  refine run_err (m := st31 p m l) ?_
  show B_31 (st31 p m l) = _
  rw [B_31_eq, seq_nx (chk_ok (hp m l)), seq_nx (chk_ok (hm p l)), seq_nx (chk_ok (hl p m)), chkT_err (ht m)]
end
/-! right ones -/
def NameOk (x : Str) : Prop := D_11 [some (.val (.str x))] = .ok (.bool true) [some (.val (.str x))]
theorem nm_p : NameOk "p" := by unfold NameOk; kernel_rfl
theorem nm_q : NameOk "q" := by unfold NameOk; kernel_rfl
theorem nm_r : NameOk "r1" := by unfold NameOk; kernel_rfl
theorem nm_no : NameOk "no" := by unfold NameOk; kernel_rfl
theorem u29 {p : Po} (g : GP p) : D_29 [some (.val (dPo p))] = .ok (.bool true) [some (.val (dPo p))] := by
  have h1 := s19g g.h
  have h2 := s20 g.c
  apply wp_eq
  unfold D_29 dPo
  rw [wp_run]
  have ty : isTy "tuple" (.tuple [dH p.1, dC p.2]) = true := rfl
  simp -dsimp [B_29, ty, h1, h2, atI_0, atI_1]
theorem u30 {l : Lg} (h0 : 0 ≤ l.1) (h1 : l.1 ≤ 5000) (hn : NameOk l.2) : D_30 [some (.val (dLg l))] = .ok (.bool true) [some (.val (dLg l))] := by
  have e1 := s8 (.int l.1) 0 5000
  have e2 : numQ (.int l.1) 0 5000 = true := by
    unfold numQ
    dsimp only
    simp [h0, h1]
  rw [e2] at e1
  have e3 : D_11 [some (.val (.str l.2))] = _ := hn
  apply wp_eq
  unfold D_30 dLg
  rw [wp_run]
  have ty : isTy "tuple" (.tuple [.int l.1, .str l.2]) = true := rfl
  simp -dsimp [B_30, ty, e1, e3, atI_0, atI_1]
theorem bAll_const {xs : List PyData} : bAll [.list ((xs.filter fun _ => true).map fun _ => .bool true)] = some (.bool true) := by
  rw [filter_all, bAll_map (fun _ => true)]
  simp
theorem pv_ok {kvs : List (Str × Po)} (g : GPs kvs) (hn : ∀ kv ∈ kvs, NameOk kv.1) : PV (dPs kvs) true := fun y z => by
  have c1 := lc_pure (fi := iItm (nF 0)) (g := gT (gCons' (gN 3) (gCons' (gN 4) (gNil')))) (t := tYesN) (f := nAnd (nCall D_11 (aCons (.o 3) (aNil))) (nCall D_29 (aCons (.o 4) (aNil)))) (vs := [3, 4]) (n := st31 (dPs kvs) y z)
    (ds := dItems (kvs.map fun kv => (.str kv.1, dPo kv.2))) (fun _ => true) (fun d => .bool true) rfl rfl
    (fun d hd => by
      unfold dItems at hd
      rw [List.map_map] at hd
      obtain ⟨kv, hk, rfl⟩ := List.mem_map.mp hd
      have e1 : D_11 [some (.val (.str kv.1))] = _ := hn kv hk
      have e2 := u29 (g.ok kv hk)
      refine ⟨_, rfl, rfl, fun _ => ?_, rfl⟩
      apply wp_eq
      simp -dsimp [e1, e2]) (szn _ (by unfold dItems; rw [List.length_map, List.length_map]; have := g.len; omega)) rfl
  have b1 := bAll_const (xs := dItems (kvs.map fun kv => (.str kv.1, dPo kv.2)))
  apply wp_eq
  have ty : isTy "dict" (dPs kvs) = true := rfl
  unfold pE
  simp -dsimp [ty, c1, b1]
theorem lv_ok {ls : List Lg} (hl : ls.length ≤ 12) (h : ∀ l ∈ ls, 0 ≤ l.1 ∧ l.1 ≤ 5000 ∧ NameOk l.2) : LV (.list (ls.map dLg)) true := fun x y => by
  have c1 := lc_pure (fi := iV (nF 2)) (g := gN 5) (t := tYesN) (f := nCall D_30 (aCons (.o 5) (aNil))) (vs := [5]) (n := st31 x y (.list (ls.map dLg)))
    (ds := ls.map dLg) (fun _ => true) (fun d => .bool true) rfl rfl
    (fun d hd => by
      obtain ⟨l, hk, rfl⟩ := List.mem_map.mp hd
      obtain ⟨h0, h1, hn⟩ := h l hk
      have e2 := u30 h0 h1 hn
      refine ⟨_, rfl, rfl, fun _ => ?_, rfl⟩
      apply wp_eq
      simp -dsimp [e2]) (szn _ (by rw [List.length_map]; omega)) rfl
  have b1 := bAll_const (xs := ls.map dLg)
  apply wp_eq
  have ty : isTy "list" (.list (ls.map dLg)) = true := rfl
  have hle : (ls.length : Int) ≤ 12 := by omega
  unfold lE
  simp -dsimp [ty, c1, b1, hle]
def inP (kvs : List (Str × Po)) (d : PyData) : Bool := match d with
  | .tuple [_, .str k] => (pLook kvs k).isSome
  | _ => false
theorem tv {kvs : List (Str × Po)} {ls : List Lg} (hl : ls.length ≤ 12) : TV (dPs kvs) (.list (ls.map dLg)) (ls.all fun l => (pLook kvs l.2).isSome) := fun y => by
  have c1 := lc_pure (fi := iV (nF 2)) (g := gT (gCons' (gN 6) (gCons' (gN 3) (gNil')))) (t := tYesN) (f := nOp2 oDin (.o 3) (.o 0)) (vs := [6, 3]) (n := st31 (dPs kvs) y (.list (ls.map dLg)))
    (ds := ls.map dLg) (fun _ => true) (fun d => .bool (inP kvs d)) rfl rfl
    (fun d hd => by
      obtain ⟨l, hk, rfl⟩ := List.mem_map.mp hd
      have e2 := din_ps (kvs := kvs) (k := l.2)
      refine ⟨_, rfl, rfl, fun _ => ?_, rfl⟩
      apply wp_eq
      simp -dsimp [e2]
      rfl) (szn _ (by rw [List.length_map]; omega)) rfl
  have b1 : bAll [.list (((ls.map dLg).filter fun _ => true).map fun d => .bool (inP kvs d))] = some (.bool (ls.all fun l => (pLook kvs l.2).isSome)) := by
    rw [filter_all, bAll_map (inP kvs), List.all_map]
    rfl
  apply wp_eq
  unfold tE
  simp -dsimp [c1, b1]
end Wlaw_k12
end NL
end L2
namespace L2
namespace NL
open PySem PySem.Spec PyProof.Rows
namespace Wlaw_k12
/-! right trips -/
structure GT (kvs : List (Str × Po)) (ls : List Lg) : Prop where
  g : GPs kvs
  nm : ∀ kv ∈ kvs, NameOk kv.1
  hl : ls.length ≤ 12
  gl : ∀ l ∈ ls, GL kvs l
theorem look_name {kvs : List (Str × Po)} (nm : ∀ kv ∈ kvs, NameOk kv.1) {k : Str} {p : Po} (h : pLook kvs k = some p) : NameOk k := by
  unfold pLook at h
  cases e : kvs.find? fun kv => kv.1 == k with
  | none => rw [e] at h; cases h
  | some kv =>
    have h1 := List.find?_some e
    have h2 := List.mem_of_find?_eq_some e
    have := eq_of_beq h1
    rw [← this]
    exact nm kv h2
variable {kvs : List (Str × Po)} {ls : List Lg}
theorem GT.lv (t : GT kvs ls) : LV (.list (ls.map dLg)) true := lv_ok t.hl fun l hl => by
  obtain ⟨h0, h1, p, hp⟩ := t.gl l hl
  exact ⟨h0, h1, look_name t.nm hp⟩
theorem GT.tvt (t : GT kvs ls) : TV (dPs kvs) (.list (ls.map dLg)) true := by
  have := tv (kvs := kvs) t.hl
  rw [show (ls.all fun l => (pLook kvs l.2).isSome) = true from List.all_eq_true.mpr fun l hl => by
    obtain ⟨h0, h1, p, hp⟩ := t.gl l hl
    rw [hp]; rfl] at this
  exact this
theorem mv_ok {m : Int} (h0 : 0 ≤ m) (h1 : m ≤ 10000000) : MV (.int m) true := by
  have := mv (.int m)
  rw [mQ h0 h1] at this
  exact this
theorem GT.c31 (t : GT kvs ls) {m : Int} (h0 : 0 ≤ m) (h1 : m ≤ 10000000) : D_31 [some (.val (dPs kvs)), some (.val (.int m)), some (.val (.list (ls.map dLg)))] = .ok .none [some (.val (dPs kvs)), some (.val (.int m)), some (.val (.list (ls.map dLg)))] :=
  ok31 (pv_ok t.g t.nm) (mv_ok h0 h1) t.lv t.tvt
theorem u33 (t : GT kvs ls) {s : Int} (h0 : 0 ≤ s) (h1 : s ≤ 10000000) : D_33 [some (.val (dPs kvs)), some (.val (.int s)), some (.val (.list (ls.map dLg)))] = .ok (oL (passB kvs s ls)) [some (.val (dPs kvs)), some (.val (.int s)), some (.val (.list (ls.map dLg)))] := by
  have e1 := t.c31 h0 h1
  have e2 := s32 t.g h0 h1 t.hl t.gl
  apply wp_eq
  unfold D_33
  rw [wp_run]
  simp -dsimp [B_33, e1, e2]
theorem u35 (t : GT kvs ls) {s : Int} (h0 : 0 ≤ s) (h1 : s ≤ 10000000) : D_35 [some (.val (dPs kvs)), some (.val (.int s)), some (.val (.list (ls.map dLg)))] = .ok (oI (arr kvs s ls)) [some (.val (dPs kvs)), some (.val (.int s)), some (.val (.list (ls.map dLg)))] := by
  have e1 := t.c31 h0 h1
  have e2 := s34 t.g h0 h1 t.hl t.gl
  apply wp_eq
  unfold D_35
  rw [wp_run]
  simp -dsimp [B_35, e1, e2]
def wait (kvs : List (Str × Po)) (s : Int) (ls : List Lg) : Option Int := (arr kvs s ls).map fun f => f - s - (ls.map (·.1)).sum
def fstD (d : PyData) : PyData := match d with
  | .tuple (x :: _) => x
  | _ => .none
theorem fstD_map : ∀ ls : List Lg, ((ls.map dLg).filter fun _ => true).map fstD = (ls.map (·.1)).map .int
  | [] => rfl
  | l :: ls => by
    rw [List.map_cons, List.filter_cons_of_pos rfl, List.map_cons, fstD_map ls]
    rfl
theorem u38 (t : GT kvs ls) {s : Int} (h0 : 0 ≤ s) (h1 : s ≤ 10000000) : D_38 [some (.val (dPs kvs)), some (.val (.int s)), some (.val (.list (ls.map dLg)))] = .ok (oI (wait kvs s ls)) [some (.val (dPs kvs)), some (.val (.int s)), some (.val (.list (ls.map dLg)))] := by
  have e1 := t.c31 h0 h1
  have e2 := s34 t.g h0 h1 t.hl t.gl
  unfold wait
  cases ea : arr kvs s ls with
  | none =>
    rw [ea] at e2
    apply wp_eq
    unfold D_38
    rw [wp_run]
    simp -dsimp [B_38, e1, e2, oI]
  | some f =>
    rw [ea] at e2
    have c1 := lc_pure (fi := iV (nF 2)) (g := gT (gCons' (gN 4) (gCons' (gN 5) (gNil')))) (t := tYesN) (f := nV 4) (vs := [4, 5]) (n := [some (.val (dPs kvs)), some (.val (.int s)), some (.val (.list (ls.map dLg))), some (.val (.int f)), none, none])
      (ds := ls.map dLg) (fun _ => true) fstD rfl rfl
      (fun d hd => by
        obtain ⟨l, hk, rfl⟩ := List.mem_map.mp hd
        exact ⟨_, rfl, rfl, fun _ => rfl, rfl⟩) (szn _ (by rw [List.length_map]; have := t.hl; omega)) rfl
    rw [fstD_map] at c1
    have c2 := sum_map_int (ls.map (·.1))
    generalize hS : ((ls.map (·.1)).map PyData.int) = sl at c1 c2
    apply wp_eq
    unfold D_38
    rw [wp_run]
    simp -dsimp [B_38, e1, e2, oI, c1, c2]
theorem inT_anti (g : GPs kvs) {a b y : Int} (hab : a ≤ b) (h : inT kvs b ls y = true) : inT kvs a ls y = true := by
  unfold inT at h ⊢
  cases e : arr kvs b ls with
  | none => rw [e] at h; cases h
  | some f =>
    rw [e] at h
    obtain ⟨f2, e2, hle⟩ := arr_mono g hab e
    rw [e2]
    have := of_decide_eq_true h
    exact decide_eq_true (by omega)
abbrev lp37 : NStm := sWhile 400 (asB (nOp2 oLt (.o 3) (.o 4))) (sSeq (sAsg (nOp2 oFdiv (.e (nOp2 oAdd (.e (nOp2 oAdd (.o 3) (.o 4))) (.e (nC (.int 1))))) (.e (nC (.int 2)))) (gN 5))
  (sIf (asT (.e (nCall D_36 (aCons (.o 0) (aCons (.o 5) (aCons (.o 1) (aCons (.o 2) (aNil)))))))) (sAsg (nV 5) (gN 3)) (sAsg (nOp2 oSub (.o 5) (.e (nC (.int 1)))) (gN 4))))
theorem lp_spec (t : GT kvs ls) {b : Int} (h0 : 0 ≤ b) (h1 : b ≤ 10000000) (hi : inT kvs 0 ls b = true) {Nx : NSt → Prop} {Rt : PyData → NSt → Prop} {Bk Ct : NSt → Prop}
    (hN : ∀ got x4 x5, 0 ≤ got → got ≤ b → inT kvs got ls b = true → (∀ s, got < s → s ≤ b → inT kvs s ls b = false) → Nx [some (.val (dPs kvs)), some (.val (.list (ls.map dLg))), some (.val (.int b)), some (.val (.int got)), x4, x5]) :
    WpS (lp37 [some (.val (dPs kvs)), some (.val (.list (ls.map dLg))), some (.val (.int b)), some (.val (.int 0)), some (.val (.int b)), none]) Nx Rt Bk Ct := by
  refine wps_while (fun m n => ∃ (low high : Int) (x5 : Option Sl), n = [some (.val (dPs kvs)), some (.val (.list (ls.map dLg))), some (.val (.int b)), some (.val (.int low)), some (.val (.int high)), x5] ∧ Vl x5 ∧ 0 ≤ low ∧ low ≤ high ∧ high ≤ b ∧ inT kvs low ls b = true ∧ (∀ s, high < s → s ≤ b → inT kvs s ls b = false) ∧ high - low < 2 ^ m)
    ?_ 400 24 _ (by omega) ⟨0, b, none, rfl, Vl.none, by omega, h0, by omega, hi, fun s z1 z2 => by omega, by omega⟩
  rintro m n ⟨low, high, x5, rfl, v5, l0, l1, l2, il, ih, hm⟩
  simp -dsimp
  by_cases hlt : low < high
  · rw [if_pos hlt]
    cases m with
    | zero => simp at hm; omega
    | succ m =>
      have hm' : high - low < 2 * 2 ^ m := by rw [Int.pow_succ] at hm; omega
      have hf : oFdiv (.int (low + high + 1)) (.int 2) = some (.int ((low + high + 1) / 2)) := fdv (by omega) (by omega)
      have e5 : gN 5 (.int ((low + high + 1) / 2)) [some (.val (dPs kvs)), some (.val (.list (ls.map dLg))), some (.val (.int b)), some (.val (.int low)), some (.val (.int high)), x5] = some [some (.val (dPs kvs)), some (.val (.list (ls.map dLg))), some (.val (.int b)), some (.val (.int low)), some (.val (.int high)), some (.val (.int ((low + high + 1) / 2)))] := gN_vl (x := x5) rfl v5
      have hc := u36 (b := b) t.g (s := (low + high + 1) / 2) (by omega) (by omega) t.hl t.gl
      simp -dsimp [hf, e5, -gN_eq]
      simp -dsimp [hc]
      generalize hmid : (low + high + 1) / 2 = mid at hc ⊢
      cases ei : inT kvs mid ls b with
      | true =>
        simp -dsimp
        refine ⟨m, by omega, mid, high, _, ⟨rfl, rfl, rfl⟩, Vl.val, by omega, by omega, by omega, ei, ih, by omega⟩
      | false =>
        simp -dsimp
        refine ⟨m, by omega, low, mid - 1, _, ⟨rfl, rfl, rfl⟩, Vl.val, by omega, by omega, by omega, il, fun s z1 z2 => ?_, by omega⟩
        cases es : inT kvs s ls b with
        | false => rfl
        | true =>
          have := inT_anti t.g (a := mid) (b := s) (by omega) es
          rw [ei] at this
          cases this
  · rw [if_neg hlt]
    have : low = high := by omega
    subst this
    exact hN low _ _ l0 l2 il ih
theorem u37n (t : GT kvs ls) {b : Int} (h0 : 0 ≤ b) (h1 : b ≤ 10000000) (hi : inT kvs 0 ls b = false) : D_37 [some (.val (dPs kvs)), some (.val (.list (ls.map dLg))), some (.val (.int b))] = .ok .none [some (.val (dPs kvs)), some (.val (.list (ls.map dLg))), some (.val (.int b))] := by
  have e1 := t.c31 h0 h1
  have e2 := u36 (b := b) t.g (s := 0) (by omega) (by omega) t.hl t.gl
  rw [hi] at e2
  apply wp_eq
  unfold D_37
  rw [wp_run]
  simp -dsimp [B_37, e1, e2]
theorem u37s (t : GT kvs ls) {b : Int} (h0 : 0 ≤ b) (h1 : b ≤ 10000000) (hi : inT kvs 0 ls b = true) : ∃ got, D_37 [some (.val (dPs kvs)), some (.val (.list (ls.map dLg))), some (.val (.int b))] = .ok (.int got) [some (.val (dPs kvs)), some (.val (.list (ls.map dLg))), some (.val (.int b))] ∧ 0 ≤ got ∧ got ≤ b ∧ inT kvs got ls b = true ∧ ∀ s, got < s → s ≤ b → inT kvs s ls b = false := by
  have e1 := t.c31 h0 h1
  have e2 := u36 (b := b) t.g (s := 0) (by omega) (by omega) t.hl t.gl
  rw [hi] at e2
  have key : Wp (D_37 [some (.val (dPs kvs)), some (.val (.list (ls.map dLg))), some (.val (.int b))]) fun d n => n = [some (.val (dPs kvs)), some (.val (.list (ls.map dLg))), some (.val (.int b))] ∧ ∃ got, d = .int got ∧ 0 ≤ got ∧ got ≤ b ∧ inT kvs got ls b = true ∧ ∀ s, got < s → s ≤ b → inT kvs s ls b = false := by
    unfold D_37
    rw [wp_run]
    simp -dsimp [B_37, e1, e2]
    refine lp_spec t h0 h1 hi fun got x4 x5 g0 g1 g2 g3 => ?_
    simp -dsimp
    exact ⟨g0, g1, g2, g3⟩
  cases hr : D_37 [some (.val (dPs kvs)), some (.val (.list (ls.map dLg))), some (.val (.int b))] with
  | ok d n =>
    rw [hr] at key
    obtain ⟨rfl, got, rfl, k⟩ := key
    exact ⟨got, rfl, k⟩
  | err x n => rw [hr] at key; exact key.elim
  | bad => rw [hr] at key; exact key.elim
end Wlaw_k12
end NL
end L2
namespace L2
namespace NL
open PySem PySem.Spec PyProof.Rows
theorem ret_ok {v : NExp} {n m : NSt} {d : PyData} (h : v n = .ok d m) : sRet v n = .ret d m := by unfold sRet; rw [h]; rfl
namespace Wlaw_k12
/-! told, or refused -/
def flgT : PyData := .list [.bool false, .bool true, .bool false, .bool false, .bool false]
theorem tryT_err {i : Nat} {f : NStm} {n m : NSt} (h : f n = .err nt m) (hi : i < n.length) : sTryF i subF tblF knownF f n = .ret flgT m := by
  unfold sTryF
  rw [h]
  show (if ("NotThere" : Str) ∈ knownF ∧ i < n.length then NR.ret (.list (tblF.map fun y => .bool (subF "NotThere" y))) m else .bad) = _
  rw [if_pos ⟨by decide, hi⟩]
  rfl
theorem try_ret {i : Nat} {f : NStm} {n m : NSt} {d : PyData} (h : f n = .ret d m) : sTryF i subF tblF knownF f n = .ret d m := by
  unfold sTryF
  rw [h]
theorem pick_ok {gs : List NExp} {fi : NExp} {fs : NSt → R (List AV)} {n m : NSt} {i : Int} {g : NExp} {d : PyData} (h1 : fi n = .ok (.int i) n) (h2 : 0 ≤ i) (h3 : gs[i.toNat]? = some g) (h4 : nCall g fs n = .ok d m) : nPick gs fi fs n = .ok d m := by
  unfold nPick
  rw [h1]
  show (if 0 ≤ i then (match gs[i.toNat]? with
    | some g => nCall g fs n
    | none => .bad) else .bad) = _
  rw [if_pos h2, h3]
  exact h4
def gs4 : List NExp := [D_35, D_33, D_38, D_37]
abbrev a3 (a b c : PyData) : NSt := [some (.val a), some (.val b), some (.val c)]
abbrev a4 (i : Int) (a b c : PyData) : NSt := [some (.val (.int i)), some (.val a), some (.val b), some (.val c)]
section
variable {i : Int} {g : NExp} {a b c d : PyData}
theorem told_ok (h2 : 0 ≤ i) (h3 : gs4[i.toNat]? = some g) (h : g (a3 a b c) = .ok d (a3 a b c)) : D_48 (a4 i a b c) = .ok d (a4 i a b c) :=
  run_ret (m := [some (.val (.int i)), some (.val a), some (.val b), some (.val c), none]) (try_ret (ret_ok (pick_ok (i := i) rfl h2 h3 (call_ok (as := [.v a, .v b, .v c]) rfl List.nodup_nil rfl h rfl))))
theorem told_nr (h2 : 0 ≤ i) (h3 : gs4[i.toNat]? = some g) (h : g (a3 a b c) = .err nr (a3 a b c)) : D_48 (a4 i a b c) = .ok flg (a4 i a b c) :=
  run_ret (m := [some (.val (.int i)), some (.val a), some (.val b), some (.val c), none]) (try_err (ret_err (pick_err (i := i) rfl h2 h3 (call_err (as := [.v a, .v b, .v c]) rfl List.nodup_nil rfl h rfl))) (Nat.lt_succ_self 4))
theorem told_nt (h2 : 0 ≤ i) (h3 : gs4[i.toNat]? = some g) (h : g (a3 a b c) = .err nt (a3 a b c)) : D_48 (a4 i a b c) = .ok flgT (a4 i a b c) :=
  run_ret (m := [some (.val (.int i)), some (.val a), some (.val b), some (.val c), none]) (tryT_err (ret_err (pick_err (i := i) rfl h2 h3 (call_err (as := [.v a, .v b, .v c]) rfl List.nodup_nil rfl h rfl))) (Nat.lt_succ_self 4))
theorem err35 {x : NX} (h : D_31 (a3 a b c) = .err x (a3 a b c)) : D_35 (a3 a b c) = .err x (a3 a b c) :=
  run_err (m := a3 a b c) (seq_err (expr_err (call_err (as := [.v a, .v b, .v c]) rfl List.nodup_nil rfl h rfl)))
theorem err33 {x : NX} (h : D_31 (a3 a b c) = .err x (a3 a b c)) : D_33 (a3 a b c) = .err x (a3 a b c) :=
  run_err (m := a3 a b c) (seq_err (expr_err (call_err (as := [.v a, .v b, .v c]) rfl List.nodup_nil rfl h rfl)))
theorem err38 {x : NX} (h : D_31 (a3 a b c) = .err x (a3 a b c)) : D_38 (a3 a b c) = .err x (a3 a b c) :=
  run_err (m := [some (.val a), some (.val b), some (.val c), none, none, none]) (seq_err (expr_err (call_err (as := [.v a, .v b, .v c]) rfl List.nodup_nil rfl h rfl)))
theorem err37 {x : NX} (h : D_31 (a3 a c b) = .err x (a3 a c b)) : D_37 (a3 a b c) = .err x (a3 a b c) :=
  run_err (m := [some (.val a), some (.val b), some (.val c), none, none, none]) (seq_err (expr_err (call_err (as := [.v a, .v c, .v b]) rfl List.nodup_nil rfl h rfl)))
theorem told3_nr (h : D_31 (a3 a b c) = .err nr (a3 a b c)) (h0 : 0 ≤ i) (h1 : i < 3) : D_48 (a4 i a b c) = .ok flg (a4 i a b c) := by
  have : i = 0 ∨ i = 1 ∨ i = 2 := by omega
  rcases this with rfl | rfl | rfl
  · exact told_nr h0 rfl (err35 h)
  · exact told_nr h0 rfl (err33 h)
  · exact told_nr h0 rfl (err38 h)
theorem told3_nt (h : D_31 (a3 a b c) = .err nt (a3 a b c)) (h0 : 0 ≤ i) (h1 : i < 3) : D_48 (a4 i a b c) = .ok flgT (a4 i a b c) := by
  have : i = 0 ∨ i = 1 ∨ i = 2 := by omega
  rcases this with rfl | rfl | rfl
  · exact told_nt h0 rfl (err35 h)
  · exact told_nt h0 rfl (err33 h)
  · exact told_nt h0 rfl (err38 h)
theorem toldL_nr (h : D_31 (a3 a c b) = .err nr (a3 a c b)) : D_48 (a4 3 a b c) = .ok flg (a4 3 a b c) := told_nr (by omega) rfl (err37 h)
theorem toldL_nt (h : D_31 (a3 a c b) = .err nt (a3 a c b)) : D_48 (a4 3 a b c) = .ok flgT (a4 3 a b c) := told_nt (by omega) rfl (err37 h)
end
/-! what is none -/
theorem pv_one {k : Str} {v : PyData} {b1 b2 : Bool} (h1 : D_11 [some (.val (.str k))] = .ok (.bool b1) [some (.val (.str k))]) (h2 : b1 = true → D_29 [some (.val v)] = .ok (.bool b2) [some (.val v)]) : PV (.dict [(.str k, v)]) (b1 && b2) := fun y z => by
  have c1 := lc_pure (fi := iItm (nF 0)) (g := gT (gCons' (gN 3) (gCons' (gN 4) (gNil')))) (t := tYesN) (f := nAnd (nCall D_11 (aCons (.o 3) (aNil))) (nCall D_29 (aCons (.o 4) (aNil)))) (vs := [3, 4]) (n := st31 (.dict [(.str k, v)]) y z)
    (ds := dItems [(.str k, v)]) (fun _ => true) (fun d => .bool (b1 && b2)) rfl rfl
    (fun d hd => by
      unfold dItems at hd
      simp only [List.map_cons, List.map_nil, List.mem_cons, List.not_mem_nil, or_false] at hd
      subst hd
      refine ⟨_, rfl, rfl, fun _ => ?_, rfl⟩
      apply wp_eq
      cases b1 with
      | true => simp -dsimp [h1, h2 rfl]
      | false => simp -dsimp [h1]) (szn _ (by unfold dItems; simp)) rfl
  have b1 : bAll [.list (((dItems [(PyData.str k, v)]).filter fun _ => true).map fun d => .bool (b1 && b2))] = some (.bool (b1 && b2)) := by
    rw [filter_all, bAll_map (fun _ => b1 && b2)]
    unfold dItems
    simp
  apply wp_eq
  have ty : isTy "dict" (.dict [(.str k, v)]) = true := rfl
  unfold pE
  simp -dsimp [ty, c1, b1]
theorem nm_P : D_11 [some (.val (.str "P"))] = .ok (.bool false) [some (.val (.str "P"))] := by kernel_rfl
theorem pb_none : PV .none false := fun _ _ => rfl
theorem pb_nil : PV (.list []) false := fun _ _ => rfl
theorem pb_P {v : PyData} : PV (.dict [(.str "P", v)]) false := pv_one (b1 := false) (b2 := false) nm_P fun h => by cases h
theorem pb_p {v : PyData} (h : D_29 [some (.val v)] = .ok (.bool false) [some (.val v)]) : PV (.dict [(.str "p", v)]) false := pv_one (b1 := true) (b2 := false) nm_p fun _ => h
theorem b29_3 {a b c : PyData} : D_29 [some (.val (.tuple [a, b, c]))] = .ok (.bool false) [some (.val (.tuple [a, b, c]))] := by
  apply wp_eq
  unfold D_29
  rw [wp_run]
  have ty : isTy "tuple" (.tuple [a, b, c]) = true := rfl
  simp -dsimp [B_29, ty]
theorem b29_n : D_29 [some (.val .none)] = .ok (.bool false) [some (.val .none)] := rfl
theorem b29_h {a b : PyData} (h : HBad a) : D_29 [some (.val (.tuple [a, b]))] = .ok (.bool false) [some (.val (.tuple [a, b]))] := by
  have h : D_24 [some (.val a)] = _ := h
  apply wp_eq
  unfold D_29
  rw [wp_run]
  have ty : isTy "tuple" (.tuple [a, b]) = true := rfl
  simp -dsimp [B_29, ty, h, atI_0, atI_1]
theorem b29_c {hs : List Rw} (g : GH hs) {b : PyData} (h : CBad b) : D_29 [some (.val (.tuple [dH hs, b]))] = .ok (.bool false) [some (.val (.tuple [dH hs, b]))] := by
  have h1 := s19g g
  have h : D_25 [some (.val b)] = _ := h
  apply wp_eq
  unfold D_29
  rw [wp_run]
  have ty : isTy "tuple" (.tuple [dH hs, b]) = true := rfl
  simp -dsimp [B_29, ty, h1, h, atI_0, atI_1]
theorem c21 : CBad (.tuple [.int 2, .int 1]) := by unfold CBad; kernel_rfl
theorem h6 {hs : List Rw} (g : GH hs) : HBad (.tuple ((hs.map dR).take 6)) := by
  unfold HBad
  have := s19 (xs := (hs.map dR).take 6) (fun x hx => by
    obtain ⟨r, hr, rfl⟩ := List.mem_map.mp (List.mem_of_mem_take hx)
    exact (rowV_dR (g.ok r hr)).1) (by rw [List.length_take, List.length_map, g.len]; omega)
  rw [show decide (((hs.map dR).take 6).length = 7) = false by rw [List.length_take, List.length_map, g.len]; rfl, Bool.false_and] at this
  exact this
def oddLegs : List PyData := [.none, .tuple [], .list [.tuple [.int 1]], .list [.tuple [.int (-1), .str "p"]], .list [.tuple [.int 5001, .str "p"]], .list [.tuple [.bool true, .str "p"]], .list [.tuple [.int 1, .str "P"]], .list [.list [.int 1, .str "p"]], .list (List.replicate 13 (.tuple [.int 1, .str "p"]))]
theorem oddAll : ∀ v ∈ oddLegs, LV v false := by
  unfold oddLegs
  simp only [List.forall_mem_cons]
  exact ⟨fun _ _ => rfl, fun _ _ => rfl, fun _ _ => by kernel_rfl, fun _ _ => by kernel_rfl, fun _ _ => by kernel_rfl, fun _ _ => by kernel_rfl, fun _ _ => by kernel_rfl, fun _ _ => by kernel_rfl, fun _ _ => by kernel_rfl, fun _ h => by cases h⟩
def minL' : List PyData := [.int (-1), .int 10000001, .none, .bool true]
theorem minAll : ∀ v ∈ minL', MV v false := by
  unfold minL'
  simp only [List.forall_mem_cons]
  exact ⟨mv _, mv _, mv _, mv _, fun _ h => by cases h⟩
end Wlaw_k12
end NL
end L2
namespace L2
namespace NL
open PySem PySem.Spec PyProof.Rows
namespace Wlaw_k12
def lw1 : NStm := sOwn 1 (nCallO D_40 (aCons (.o 0) (aNil)))
def lw2 : NStm := sPar 2 3 (evV (nL (nLstO (aCons (.e (nC (.bool true))) (aCons (.e (nC (.bool false))) (aCons (.e (nC (.bool false))) (aCons (.e (nC (.bool false))) (aCons (.e (nC (.bool false))) (aNil))))))))) (evV (nL (nLstO (aCons (.e (nC (.bool false))) (aCons (.e (nC (.bool true))) (aCons (.e (nC (.bool false))) (aCons (.e (nC (.bool false))) (aCons (.e (nC (.bool false))) (aNil)))))))))
def lw3 : NStm := sDictSet 5 (.e (nL (nLc (iV (nL (nLstO (aCons (.e (nC (.str "p"))) (aCons (.e (nC (.str "q"))) (aCons (.e (nC (.str "r1"))) (aNil))))))) (gN 6) (tYesN) (nTup (aCons (.e (nV 6)) (aCons (.e (nTup (aCons (.e (nCall D_45 (aCons (.o 1) (aNil)))) (aCons (.e (nCall D_46 (aCons (.o 1) (aNil)))) (aNil))))) (aNil)))) [6]))) (asB (nOp2 oEq (.e (nCall D_41 (aCons (.o 1) (aCons (.e (nC (.int 5))) (aNil))))) (.e (nC (.int 0))))) "q" (nTup (aCons (.e (nOp2 oMul (.e (nTup (aCons (.e (nTup (aNil))) (aNil)))) (.e (nC (.int 7))))) (aCons (.e (nTup (aNil))) (aNil))))
def lw4 : NStm := sAsg (nL (nLc (iRg1 (aCons (.e (nCall D_41 (aCons (.o 1) (aCons (.e (nC (.int 7))) (aNil))))) (aNil))) (gN 8) (tYesN) (nTup (aCons (.e (nCall D_42 (aCons (.o 1) (aCons (.e (nL (nLstO (aCons (.e (nC (.int 0))) (aCons (.e (nC (.int 100))) (aCons (.e (nCall D_41 (aCons (.o 1) (aCons (.e (nC (.int 5001))) (aNil))))) (aNil))))))) (aNil))))) (aCons (.e (nCall D_42 (aCons (.o 1) (aCons (.e (nL (nLstO (aCons (.e (nC (.str "p"))) (aCons (.e (nC (.str "q"))) (aCons (.e (nC (.str "r1"))) (aNil))))))) (aNil))))) (aNil)))) [8])) (gN 7)
def lw5 : NStm := sAsg (nCall D_42 (aCons (.o 1) (aCons (.e (nL (nLstO (aCons (.e (nC (.int 0))) (aCons (.e (nCall D_41 (aCons (.o 1) (aCons (.e (nC (.int 20000))) (aNil))))) (aCons (.e (nOp2 oSub (.e (nOp2 oPow (.e (nC (.int 10))) (.e (nC (.int 7))))) (.e (nCall D_41 (aCons (.o 1) (aCons (.e (nC (.int 9000))) (aNil))))))) (aNil))))))) (aNil)))) (gN 10)
def lw6 : NStm := sPar 11 12 (evV (nCall D_49 (aCons (.o 5) (aCons (.o 10) (aCons (.o 7) (aNil)))))) (evV (nCall D_50 (aCons (.o 5) (aCons (.o 10) (aCons (.o 7) (aNil))))))
def lw7 : NStm := sAsg (nC .none) (gN 13)
def lw8 : NStm := sIf (asB (nOp2 oIsNot (.o 12) (.e (nC .none)))) (sAsg (nOp2 oSub (.e (nOp2 oSub (.o 12) (.o 10))) (.e (nCB bSum (aCons (.e (nL (nLc (iV (nV 7)) (gN 14) (tYesN) (nOp2 oIx (.o 14) (.e (nC (.int 0)))) [14]))) (aNil))))) (gN 13)) (sNil)
def lw9 : NStm := sIf (tNot' (asT (.e (nCall (D_43 12) (aCons (.e (nL (nLstO (aCons (.e (nCall D_48 (aCons (.e (nC (.int 0))) (aCons (.o 5) (aCons (.o 10) (aCons (.e (nL (nListO (.o 7)))) (aNil))))))) (aCons (.e (nCall D_48 (aCons (.e (nC (.int 1))) (aCons (.o 5) (aCons (.o 10) (aCons (.e (nL (nListO (.o 7)))) (aNil))))))) (aCons (.e (nCall D_48 (aCons (.e (nC (.int 2))) (aCons (.o 5) (aCons (.o 10) (aCons (.e (nL (nListO (.o 7)))) (aNil))))))) (aNil))))))) (aCons (.e (nL (nLstO (aCons (.e (nV 12)) (aCons (.e (nV 11)) (aCons (.e (nV 13)) (aNil))))))) (aNil))))))) (sRet (nC (.bool false))) (sNil)
def lw10 : NStm := sAsg (nCall D_48 (aCons (.e (nC (.int 0))) (aCons (.o 5) (aCons (.e (nCB bMin (aCons (.e (nOp2 oPow (.e (nC (.int 10))) (.e (nC (.int 7))))) (aCons (.e (nOp2 oAdd (.o 10) (.e (nCall D_41 (aCons (.o 1) (aCons (.e (nC (.int 3000))) (aNil))))))) (aNil))))) (aCons (.e (nL (nListO (.o 7)))) (aNil)))))) (gN 15)
def lw11 : NStm := sIf (tOr' (tAnd' (asB (nOp2 oIs (.o 12) (.e (nC .none)))) (asB (nOp2 oIsNot (.o 15) (.e (nC .none))))) (tAnd' (asB (nOp2 oIsNot (.o 12) (.e (nC .none)))) (tAnd' (asB (nOp2 oIsNot (.o 15) (.e (nC .none)))) (asB (nOp2 oLt (.o 15) (.o 12)))))) (sRet (nC (.bool false))) (sNil)
def lwB12 : NStm := sSeq lw5 (sSeq lw6 (sSeq lw7 (sSeq lw8 (sSeq lw9 (sSeq lw10 lw11)))))
def lw13 : NStm := sFor (iRg1 (aCons (.e (nC (.int 3))) (aNil))) (gN 9) lwB12
def lw14 : NStm := sAsg (nCall D_42 (aCons (.o 1) (aCons (.e (nL (nLstO (aCons (.e (nC (.int 0))) (aCons (.e (nCall D_41 (aCons (.o 1) (aCons (.e (nC (.int 9000))) (aNil))))) (aCons (.e (nOp2 oAdd (.e (nC (.int 9000))) (.e (nCall D_41 (aCons (.o 1) (aCons (.e (nC (.int 30000))) (aNil))))))) (aCons (.e (nOp2 oPow (.e (nC (.int 10))) (.e (nC (.int 7))))) (aNil)))))))) (aNil)))) (gN 16)
def lw15 : NStm := sAsg (nCall D_48 (aCons (.e (nC (.int 3))) (aCons (.o 5) (aCons (.e (nL (nListO (.o 7)))) (aCons (.o 16) (aNil)))))) (gN 17)
def lw16 : NStm := sIf (asB (nOp2 oIs (.o 17) (.e (nC .none)))) (sIf (asT (.e (nCall D_51 (aCons (.o 5) (aCons (.e (nC (.int 0))) (aCons (.o 7) (aCons (.o 16) (aNil)))))))) (sRet (nC (.bool false))) (sNil)) (sIf (tOr' (tNot' (asT (.e (nIsi "int" (.o 17))))) (tOr' (asT (.e (nIsi "bool" (.o 17)))) (tOr' (tNot' (asB (nChain oLe oLe (.e (nC (.int 0))) (.o 17) (.o 16)))) (tNot' (asT (.e (nCall D_51 (aCons (.o 5) (aCons (.o 17) (aCons (.o 7) (aCons (.o 16) (aNil)))))))))))) (sRet (nC (.bool false))) (sSeq (sSetL 18 (nLc (iV (nL (nLstO (aCons (.e (nOp2 oAdd (.o 17) (.e (nC (.int 1))))) (aCons (.e (nOp2 oAdd (.o 17) (.e (nC (.int 2))))) (aCons (.e (nOp2 oAdd (.e (nOp2 oAdd (.o 17) (.e (nC (.int 1))))) (.e (nCall D_41 (aCons (.o 1) (aCons (.e (nC (.int 997))) (aNil))))))) (aCons (.e (nV 16)) (aNil)))))))) (gN 19) (asB (nChain oLt oLe (.o 17) (.o 19) (.o 16))) (nV 19) [19])) (sIf (asB (nOp2 oNe (.e (nL (nLc (iV (nV 18)) (gN 19) (asT (.e (nCall D_51 (aCons (.o 5) (aCons (.o 19) (aCons (.o 7) (aCons (.o 16) (aNil)))))))) (nV 19) [19]))) (.e (nL (nLstO (aNil)))))) (sRet (nC (.bool false))) (sNil))))
def lw17 : NStm := sAsg (nCall D_42 (aCons (.o 1) (aCons (.e (nL (nLstO (aCons (.e (nC .none)) (aCons (.e (nL (nLstO (aNil)))) (aCons (.e (nDisp ["P"] (aCons (.e (nOp2 oDix (.o 5) (.e (nC (.str "p"))))) (aNil)))) (aCons (.e (nDisp ["p"] (aCons (.e (nOp2 oAdd (.e (nOp2 oDix (.o 5) (.e (nC (.str "p"))))) (.e (nTup (aCons (.e (nC (.int 0))) (aNil)))))) (aNil)))) (aCons (.e (nDisp ["p"] (aCons (.e (nTup (aCons (.e (nSl (.e (nOp2 oIx (.e (nOp2 oDix (.o 5) (.e (nC (.str "p"))))) (.e (nC (.int 0))))) (pNone) (pSome (nC (.int 6))))) (aCons (.e (nTup (aNil))) (aNil))))) (aNil)))) (aCons (.e (nDisp ["p"] (aCons (.e (nTup (aCons (.e (nOp2 oIx (.e (nOp2 oDix (.o 5) (.e (nC (.str "p"))))) (.e (nC (.int 0))))) (aCons (.e (nTup (aCons (.e (nC (.int 2))) (aCons (.e (nC (.int 1))) (aNil))))) (aNil))))) (aNil)))) (aCons (.e (nDisp ["p"] (aCons (.e (nC .none)) (aNil)))) (aNil))))))))))) (aNil)))) (gN 20)
def lw18 : NStm := sAsg (nCall D_42 (aCons (.o 1) (aCons (.e (nL (nLstO (aCons (.e (nC .none)) (aCons (.e (nTup (aNil))) (aCons (.e (nL (nLstO (aCons (.e (nTup (aCons (.e (nC (.int 1))) (aNil)))) (aNil))))) (aCons (.e (nL (nLstO (aCons (.e (nTup (aCons (.e (nNeg (nC (.int 1)))) (aCons (.e (nC (.str "p"))) (aNil))))) (aNil))))) (aCons (.e (nL (nLstO (aCons (.e (nTup (aCons (.e (nC (.int 5001))) (aCons (.e (nC (.str "p"))) (aNil))))) (aNil))))) (aCons (.e (nL (nLstO (aCons (.e (nTup (aCons (.e (nC (.bool true))) (aCons (.e (nC (.str "p"))) (aNil))))) (aNil))))) (aCons (.e (nL (nLstO (aCons (.e (nTup (aCons (.e (nC (.int 1))) (aCons (.e (nC (.str "P"))) (aNil))))) (aNil))))) (aCons (.e (nL (nLstO (aCons (.e (nL (nLstO (aCons (.e (nC (.int 1))) (aCons (.e (nC (.str "p"))) (aNil)))))) (aNil))))) (aCons (.e (nOp2 oMul (.e (nL (nLstO (aCons (.e (nTup (aCons (.e (nC (.int 1))) (aCons (.e (nC (.str "p"))) (aNil))))) (aNil))))) (.e (nC (.int 13))))) (aNil))))))))))))) (aNil)))) (gN 21)
def lw19 : NStm := sAsg (nCall D_42 (aCons (.o 1) (aCons (.e (nL (nLstO (aCons (.e (nNeg (nC (.int 1)))) (aCons (.e (nOp2 oAdd (.e (nOp2 oPow (.e (nC (.int 10))) (.e (nC (.int 7))))) (.e (nC (.int 1))))) (aCons (.e (nC .none)) (aCons (.e (nC (.bool true))) (aNil)))))))) (aNil)))) (gN 22)
def lw20 : NStm := sAsg (nOp2 oAdd (.e (nOp2 oAdd (.e (nL (nLc (iRg1 (aCons (.e (nC (.int 3))) (aNil))) (gN 24) (tYesN) (nCall D_48 (aCons (.o 24) (aCons (.o 20) (aCons (.e (nC (.int 0))) (aCons (.e (nL (nLstO (aNil)))) (aNil)))))) [24]))) (.e (nL (nLc (iRg1 (aCons (.e (nC (.int 3))) (aNil))) (gN 24) (tYesN) (nCall D_48 (aCons (.o 24) (aCons (.o 5) (aCons (.o 22) (aCons (.e (nL (nLstO (aNil)))) (aNil)))))) [24]))))) (.e (nL (nLc (iRg1 (aCons (.e (nC (.int 3))) (aNil))) (gN 24) (tYesN) (nCall D_48 (aCons (.o 24) (aCons (.o 5) (aCons (.e (nC (.int 0))) (aCons (.o 21) (aNil)))))) [24])))) (gN 23)
def lw21 : NStm := sAsg (nOp2 oAdd (.o 23) (.e (nL (nLstO (aCons (.e (nCall D_48 (aCons (.e (nC (.int 3))) (aCons (.o 20) (aCons (.e (nL (nLstO (aNil)))) (aCons (.e (nC (.int 0))) (aNil))))))) (aCons (.e (nCall D_48 (aCons (.e (nC (.int 3))) (aCons (.o 5) (aCons (.o 21) (aCons (.e (nC (.int 0))) (aNil))))))) (aCons (.e (nCall D_48 (aCons (.e (nC (.int 3))) (aCons (.o 5) (aCons (.e (nL (nLstO (aNil)))) (aCons (.o 22) (aNil))))))) (aNil)))))))) (gN 23)
def lw22 : NStm := sAsg (nL (nLstO (aCons (.e (nTup (aCons (.e (nC (.int 1))) (aCons (.e (nC (.str "p"))) (aNil))))) (aCons (.e (nTup (aCons (.e (nC (.int 1))) (aCons (.e (nC (.str "no"))) (aNil))))) (aNil))))) (gN 25)
def lw23 : NStm := sAsg (nOp2 oAdd (.e (nL (nLc (iRg1 (aCons (.e (nC (.int 3))) (aNil))) (gN 24) (tYesN) (nCall D_48 (aCons (.o 24) (aCons (.o 5) (aCons (.e (nC (.int 0))) (aCons (.o 25) (aNil)))))) [24]))) (.e (nL (nLstO (aCons (.e (nCall D_48 (aCons (.e (nC (.int 3))) (aCons (.o 5) (aCons (.o 25) (aCons (.e (nC (.int 0))) (aNil))))))) (aNil)))))) (gN 26)
def lw24 : NStm := sIf (tOr' (tNot' (asT (.e (nCall (D_43 12) (aCons (.o 23) (aCons (.e (nOp2 oMul (.e (nL (nLstO (aCons (.e (nV 2)) (aNil))))) (.e (nC (.int 12))))) (aNil))))))) (tNot' (asT (.e (nCall (D_43 12) (aCons (.o 26) (aCons (.e (nOp2 oMul (.e (nL (nLstO (aCons (.e (nV 3)) (aNil))))) (.e (nC (.int 4))))) (aNil)))))))) (sRet (nC (.bool false))) (sNil)
def lwB25 : NStm := sSeq lw3 (sSeq lw4 (sSeq lw13 (sSeq lw14 (sSeq lw15 (sSeq lw16 (sSeq lw17 (sSeq lw18 (sSeq lw19 (sSeq lw20 (sSeq lw21 (sSeq lw22 (sSeq lw23 lw24))))))))))))
def lw26 : NStm := sFor (iRg1 (aCons (.e (nC (.int 4))) (aNil))) (gN 4) lwB25
def lw27 : NStm := sAsg (nOp2 oAdd (.e (nOp2 oMul (.e (nTup (aCons (.e (nTup (aCons (.e (nTup (aCons (.e (nC (.int 480))) (aCons (.e (nC (.int 720))) (aNil))))) (aNil)))) (aNil)))) (.e (nC (.int 6))))) (.e (nTup (aCons (.e (nTup (aNil))) (aNil))))) (gN 27)
def lw28 : NStm := sAsg (nDisp ["p", "q"] (aCons (.e (nTup (aCons (.e (nV 27)) (aCons (.e (nTup (aNil))) (aNil))))) (aCons (.e (nTup (aCons (.e (nV 27)) (aCons (.e (nTup (aNil))) (aNil))))) (aNil)))) (gN 5)
def lw29 : NStm := sAsg (nL (nLstO (aCons (.e (nCall D_35 (aCons (.o 5) (aCons (.e (nC (.int 0))) (aCons (.e (nL (nLstO (aCons (.e (nTup (aCons (.e (nC (.int 100))) (aCons (.e (nC (.str "p"))) (aNil))))) (aCons (.e (nTup (aCons (.e (nC (.int 300))) (aCons (.e (nC (.str "q"))) (aNil))))) (aNil)))))) (aNil)))))) (aCons (.e (nCall D_33 (aCons (.o 5) (aCons (.e (nC (.int 0))) (aCons (.e (nL (nLstO (aCons (.e (nTup (aCons (.e (nC (.int 100))) (aCons (.e (nC (.str "p"))) (aNil))))) (aCons (.e (nTup (aCons (.e (nC (.int 300))) (aCons (.e (nC (.str "q"))) (aNil))))) (aNil)))))) (aNil)))))) (aCons (.e (nCall D_37 (aCons (.o 5) (aCons (.e (nL (nLstO (aCons (.e (nTup (aCons (.e (nC (.int 100))) (aCons (.e (nC (.str "p"))) (aNil))))) (aNil))))) (aCons (.e (nC (.int 1000))) (aNil)))))) (aNil)))))) (gN 17)
def lw30 : NStm := sAsg (nOp2 oAdd (.o 17) (.e (nL (nLstO (aCons (.e (nCall D_38 (aCons (.o 5) (aCons (.e (nC (.int 0))) (aCons (.e (nL (nLstO (aCons (.e (nTup (aCons (.e (nC (.int 100))) (aCons (.e (nC (.str "p"))) (aNil))))) (aNil))))) (aNil)))))) (aCons (.e (nCall D_35 (aCons (.o 5) (aCons (.e (nC (.int 7))) (aCons (.e (nL (nLstO (aNil)))) (aNil)))))) (aCons (.e (nCall D_37 (aCons (.o 5) (aCons (.e (nL (nLstO (aNil)))) (aCons (.e (nC (.int 55))) (aNil)))))) (aNil)))))))) (gN 17)
def lw31 : NStm := sRet (nCall (D_43 12) (aCons (.o 17) (aCons (.e (nL (nLstO (aCons (.e (nC (.int 1920))) (aCons (.e (nL (nLstO (aCons (.e (nC (.int 480))) (aCons (.e (nC (.int 1920))) (aNil)))))) (aCons (.e (nC (.int 619))) (aCons (.e (nC (.int 380))) (aCons (.e (nC (.int 7))) (aCons (.e (nC (.int 55))) (aNil)))))))))) (aNil))))
theorem B_52_eq : B_52 = sSeq lw1 (sSeq lw2 (sSeq lw26 (sSeq lw27 (sSeq lw28 (sSeq lw29 (sSeq lw30 lw31)))))) := rfl
def hs0 : List Rw := [[], [], [], [], [], [], []]
theorem g0 : GH hs0 := ⟨rfl, fun q hq => by
  unfold hs0 at hq
  simp only [List.mem_cons, List.not_mem_nil, or_false] at hq
  rcases hq with rfl | rfl | rfl | rfl | rfl | rfl | rfl <;> exact GR.nil⟩
theorem c0 : GC [] := ⟨by simp, (fun _ h => by cases h), List.Pairwise.nil⟩
theorem m07 : oMul (.tuple [.tuple []]) (.int 7) = some (dH hs0) := by kernel_rfl
def k3 (a b c : Po) : List (Str × Po) := [("p", a), ("q", b), ("r1", c)]
structure G3 (a b c : Po) : Prop where
  a : GP a
  b : GP b
  c : GP c
variable {S x2 x3 x4 x5 x7 x9 x10 x11 x12 x13 x15 x16 x17 x18 x20 x21 x22 x23 x25 x26 x27 : Option Sl} {l : List PyData}
theorem dict3 {a b c : Po} : dictOf (.list [.tuple [.str "p", dPo a], .tuple [.str "q", dPo b], .tuple [.str "r1", dPo c]]) = some (dPs (k3 a b c)) := rfl
theorem partA (hd : Dr l) (v5 : Vl x5) {Nx : NSt → Prop} {Rt : PyData → NSt → Prop} {Bk Ct : NSt → Prop}
    (hN : ∀ l' a b c, Dr l' → G3 a b c → Nx [S, some (.own l'), x2, x3, x4, some (.val (dPs (k3 a b c))), none, x7, none, x9, x10, x11, x12, x13, none, x15, x16, x17, x18, none, x20, x21, x22, x23, none, x25, x26, x27]) :
    WpS (lw3 [S, some (.own l), x2, x3, x4, x5, none, x7, none, x9, x10, x11, x12, x13, none, x15, x16, x17, x18, none, x20, x21, x22, x23, none, x25, x26, x27]) Nx Rt Bk Ct := by
  have sz := sizeBig
  unfold lw3
  simp -dsimp only [wps_dictSet, wp_dictOf, wp_oe, wp_nL, wp_lc, wp_iV]
  simp -dsimp [szn]
  refine ⟨rfl, ?_⟩
  refine wp_lcL (fun rem acc n => ∃ (l' : List PyData) (done : List (Str × Po)) (todo : List Str), n = [S, some (.own l'), x2, x3, x4, x5, none, x7, none, x9, x10, x11, x12, x13, none, x15, x16, x17, x18, none, x20, x21, x22, x23, none, x25, x26, x27] ∧ Dr l' ∧ acc = (done.map fun kv => .tuple [.str kv.1, dPo kv.2]) ∧ rem = todo.map .str ∧ done.map (·.1) ++ todo = ([("p" : Str), "q", "r1"] : List Str) ∧ ∀ kv ∈ done, GP kv.2) ?_ ?_ _ _ _ ⟨l, [], [("p" : Str), "q", "r1"], rfl, hd, rfl, rfl, rfl, fun _ h => by cases h⟩
  · rintro d rem acc n ⟨l', done, todo, rfl, d', rfl, ht, hk, hg⟩
    cases todo with
    | nil => cases ht
    | cons k todo =>
      cases ht
      refine ⟨_, rfl, ?_⟩
      simp -dsimp
      refine s36 d' fun hs l1 d1 h => ?_
      simp -dsimp
      refine s37 d1 fun cs l2 d2 hc => ?_
      have hlen : done.length ≤ 3 := by
        have := congrArg List.length hk
        rw [List.length_append, List.length_map] at this
        have e3 : ([("p" : Str), "q", "r1"] : List Str).length = 3 := rfl
        rw [e3] at this
        omega
      simp -dsimp
      refine ⟨by omega, by omega, d2, done ++ [(k, (hs, cs))], by simp [dPo], todo, rfl, by simpa using hk, fun a r b hm => ?_⟩
      rcases List.mem_append.mp hm with hm | hm
      · exact hg _ hm
      · simp only [List.mem_cons, List.not_mem_nil, or_false, Prod.mk.injEq] at hm
        obtain ⟨_, rfl, rfl⟩ := hm
        exact ⟨h, hc⟩
  · rintro acc n ⟨l', done, todo, rfl, d', rfl, ht, hk, hg⟩
    cases todo with
    | cons k todo => cases ht
    | nil =>
      rw [List.append_nil] at hk
      obtain ⟨a, b, c, rfl⟩ : ∃ a b c : Po, done = [(("p" : Str), a), (("q" : Str), b), (("r1" : Str), c)] := by
        match done, hk with
        | [(k1, a), (k2, b), (k3, c)], hk =>
          simp only [List.map_cons, List.map_nil, List.cons.injEq, and_true] at hk
          obtain ⟨rfl, rfl, rfl⟩ := hk
          exact ⟨a, b, c, rfl⟩
      have ga : GP a := hg ("p", a) (by simp)
      have gb : GP b := hg ("q", b) (by simp)
      have gc : GP c := hg ("r1", c) (by simp)
      have e0 := dict3 (a := a) (b := b) (c := c)
      have en : notLent [S, some (.own l'), x2, x3, x4, x5, none, x7, none, x9, x10, x11, x12, x13, none, x15, x16, x17, x18, none, x20, x21, x22, x23, none, x25, x26, x27] 5 = true := nl_vl (x := x5) rfl v5
      simp -dsimp [e0]
      rw [show kvOf (dPs (k3 a b c)) = some [(.str "p", dPo a), (.str "q", dPo b), (.str "r1", dPo c)] from rfl, onO_some]
      refine ⟨en, by simp, ?_⟩
      show Wp (asB (nOp2 oEq (.e (nCall D_41 (aCons (.o 1) (aCons (.e (nC (.int 5))) (aNil))))) (.e (nC (.int 0)))) [S, some (.own l'), x2, x3, x4, none, none, x7, none, x9, x10, x11, x12, x13, none, x15, x16, x17, x18, none, x20, x21, x22, x23, none, x25, x26, x27]) _
      simp -dsimp [e32]
      refine take_spec d' (by omega) fun r l1 d1 r0 r1 => ?_
      simp -dsimp
      refine Br_mk (fun _ => ?_) fun _ => ?_
      · simp -dsimp [szn, m07]
        refine ⟨rfl, ?_⟩
        exact hN l1 a (hs0, []) c d1 ⟨ga, ⟨g0, c0⟩, gc⟩
      · exact ⟨rfl, hN l1 a b c d1 ⟨ga, gb, gc⟩⟩
end Wlaw_k12
end NL
end L2
namespace L2
namespace NL
open PySem PySem.Spec PyProof.Rows
namespace Wlaw_k12
variable {S x2 x3 x4 x5 x7 x9 x10 x11 x12 x13 x15 x16 x17 x18 x20 x21 x22 x23 x25 x26 x27 : Option Sl} {l : List PyData}
theorem look3 {a b c : Po} {k : Str} (h : k = "p" ∨ k = "q" ∨ k = "r1") : ∃ p, pLook (k3 a b c) k = some p := by
  rcases h with rfl | rfl | rfl
  · exact ⟨a, rfl⟩
  · exact ⟨b, rfl⟩
  · exact ⟨c, rfl⟩
theorem partB (hd : Dr l) (a b c : Po) (v7 : Vl x7) {Nx : NSt → Prop} {Rt : PyData → NSt → Prop} {Bk Ct : NSt → Prop}
    (hN : ∀ (l' : List PyData) (ls : List Lg), Dr l' → ls.length ≤ 6 → (∀ e ∈ ls, GL (k3 a b c) e) → Nx [S, some (.own l'), x2, x3, x4, x5, none, some (.val (.list (ls.map dLg))), none, x9, x10, x11, x12, x13, none, x15, x16, x17, x18, none, x20, x21, x22, x23, none, x25, x26, x27]) :
    WpS (lw4 [S, some (.own l), x2, x3, x4, x5, none, x7, none, x9, x10, x11, x12, x13, none, x15, x16, x17, x18, none, x20, x21, x22, x23, none, x25, x26, x27]) Nx Rt Bk Ct := by
  have sz := sizeBig
  unfold lw4
  rw [wps_sAsg]
  simp -dsimp only [wp_oe, wp_nL, wp_lc, wp_iRg1, wp_aCons, wp_call, wp_oo, wp_nC, wp_aNil]
  simp -dsimp [e32]
  refine take_spec hd (by omega) fun r l1 d1 r0 r1 => ?_
  have hr : rgOk r = true := by unfold rgOk; rw [Bool.and_eq_true]; exact ⟨decide_eq_true (by omega), decide_eq_true (by omega)⟩
  simp -dsimp [hr]
  refine ⟨rfl, ?_⟩
  refine wp_lcL (fun rem acc n => ∃ (l' : List PyData) (ls : List Lg), n = [S, some (.own l'), x2, x3, x4, x5, none, x7, none, x9, x10, x11, x12, x13, none, x15, x16, x17, x18, none, x20, x21, x22, x23, none, x25, x26, x27] ∧ Dr l' ∧ acc = ls.map dLg ∧ (∀ e ∈ ls, GL (k3 a b c) e) ∧ ls.length + rem.length ≤ 6) ?_ ?_ _ _ _ ⟨l1, [], rfl, d1, rfl, (fun _ h => by cases h), by rw [rgD_len]; simp; omega⟩
  · rintro d rem acc n ⟨l', ls, rfl, d', rfl, hg, hl⟩
    have hl : ls.length + (rem.length + 1) ≤ 6 := hl
    refine ⟨_, rfl, ?_⟩
    simp -dsimp [e32]
    refine take_spec d' (by omega) fun r l2 d2 r0 r1 => ?_
    simp -dsimp [szn, e33]
    refine pick_spec d2 (by simp) fun m l3 d3 hm => ?_
    simp -dsimp [szn, e33]
    refine pick_spec d3 (by simp) fun k l4 d4 hk => ?_
    have hm' : ∃ i : Int, m = .int i ∧ 0 ≤ i ∧ i ≤ 5000 := by
      simp only [List.mem_cons, List.not_mem_nil, or_false] at hm
      rcases hm with rfl | rfl | rfl
      · exact ⟨0, rfl, by omega, by omega⟩
      · exact ⟨100, rfl, by omega, by omega⟩
      · exact ⟨r, rfl, by omega, by omega⟩
    have hk' : ∃ s : Str, k = .str s ∧ (s = "p" ∨ s = "q" ∨ s = "r1") := by
      simp only [List.mem_cons, List.not_mem_nil, or_false] at hk
      rcases hk with rfl | rfl | rfl
      · exact ⟨"p", rfl, .inl rfl⟩
      · exact ⟨"q", rfl, .inr (.inl rfl)⟩
      · exact ⟨"r1", rfl, .inr (.inr rfl)⟩
    obtain ⟨i, rfl, i0, i1⟩ := hm'
    obtain ⟨s, rfl, hs⟩ := hk'
    simp -dsimp
    refine ⟨by omega, by omega, d4, ls ++ [(i, s)], by simp [dLg], fun a1 b1 he => ?_, by simp; omega⟩
    rcases List.mem_append.mp he with he | he
    · exact hg _ he
    · simp only [List.mem_cons, List.not_mem_nil, or_false, Prod.mk.injEq] at he
      obtain ⟨rfl, rfl⟩ := he
      exact ⟨i0, i1, look3 hs⟩
  · rintro acc n ⟨l', ls, rfl, d', rfl, hg, hl⟩
    have hl : ls.length + 0 ≤ 6 := hl
    have e7 : ∀ y : PyData, gN 7 y [S, some (.own l'), x2, x3, x4, x5, none, x7, none, x9, x10, x11, x12, x13, none, x15, x16, x17, x18, none, x20, x21, x22, x23, none, x25, x26, x27] = some [S, some (.own l'), x2, x3, x4, x5, none, some (.val y), none, x9, x10, x11, x12, x13, none, x15, x16, x17, x18, none, x20, x21, x22, x23, none, x25, x26, x27] := fun y => gN_vl (x := x7) rfl v7
    show onO (gN 7 (.list (ls.map dLg)) [S, some (.own l'), x2, x3, x4, x5, none, x7, none, x9, x10, x11, x12, x13, none, x15, x16, x17, x18, none, x20, x21, x22, x23, none, x25, x26, x27]) _
    rw [e7, onO_some]
    exact hN l' ls d' (by omega) hg
end Wlaw_k12
end NL
end L2
namespace L2
namespace NL
open PySem PySem.Spec PyProof.Rows
theorem sSeq_assoc {a b c : NStm} : sSeq (sSeq a b) c = sSeq a (sSeq b c) := by
  funext n
  unfold sSeq
  cases a n <;> rfl
theorem wps_cut2 {a b e : NStm} {n : NSt} {Nx : NSt → Prop} {Rt : PyData → NSt → Prop} {Bk Ct : NSt → Prop} (h : WpS (sSeq a b n) (fun n' => WpS (e n') Nx Rt Bk Ct) Rt Bk Ct) : WpS (sSeq a (sSeq b e) n) Nx Rt Bk Ct := by
  rw [show sSeq a (sSeq b e) = sSeq (sSeq a b) e by simp only [sSeq_assoc], wps_seq]
  exact h
theorem wps_cut3 {a b c e : NStm} {n : NSt} {Nx : NSt → Prop} {Rt : PyData → NSt → Prop} {Bk Ct : NSt → Prop} (h : WpS (sSeq a (sSeq b c) n) (fun n' => WpS (e n') Nx Rt Bk Ct) Rt Bk Ct) : WpS (sSeq a (sSeq b (sSeq c e)) n) Nx Rt Bk Ct := by
  rw [show sSeq a (sSeq b (sSeq c e)) = sSeq (sSeq a (sSeq b c)) e by simp only [sSeq_assoc], wps_seq]
  exact h
theorem wp_ex {α : Type} {r : R α} {a : α} (h : Wp r fun d _ => d = a) : ∃ n', r = .ok a n' := by
  cases r with
  | ok d n => exact ⟨n, by rw [show d = a from h]⟩
  | err x n => exact h.elim
  | bad => exact h.elim
namespace Wlaw_k12
variable {S x2 x3 x4 x5 x7 x9 x10 x11 x12 x13 x15 x16 x17 x18 x20 x21 x22 x23 x25 x26 x27 : Option Sl} {l : List PyData}
variable {kvs : List (Str × Po)} {ls : List Lg}
theorem vlm {x : Option Sl} (v : Vl x) : (match some x with
    | some (some (Sl.lent _)) => false
    | some _ => true
    | none => false) = true := by rcases v with rfl | ⟨d, rfl⟩ <;> rfl
theorem oI_sOk {k : Nat} {o : Option Int} : sOk (k + 1) (oI o) := by cases o <;> exact True.intro
theorem oL_sOk {k : Nat} {o : Option (List Int)} (h : ∀ fs, o = some fs → fs.length ≤ 1000) : sOk (k + 2) (oL o) := by
  cases o with
  | none => exact True.intro
  | some fs =>
    refine sOk_list (by rw [List.length_map]; have := h fs rfl; omega) fun x hx => ?_
    obtain ⟨i, _, rfl⟩ := List.mem_map.mp hx
    exact True.intro
theorem three_sOk (t : GT kvs ls) {s : Int} : sOk 12 (.list [oI (arr kvs s ls), oL (passB kvs s ls), oI (wait kvs s ls)]) := by
  refine sOk_list (by simp) fun x hx => ?_
  simp only [List.mem_cons, List.not_mem_nil, or_false] at hx
  rcases hx with rfl | rfl | rfl
  · exact oI_sOk
  · exact oL_sOk fun fs hf => by have := pass_len hf; have := t.hl; omega
  · exact oI_sOk
theorem told0 (t : GT kvs ls) {s : Int} (h0 : 0 ≤ s) (h1 : s ≤ 10000000) : D_48 (a4 0 (dPs kvs) (.int s) (.list (ls.map dLg))) = .ok (oI (arr kvs s ls)) (a4 0 (dPs kvs) (.int s) (.list (ls.map dLg))) := told_ok (by omega) rfl (u35 t h0 h1)
theorem told1 (t : GT kvs ls) {s : Int} (h0 : 0 ≤ s) (h1 : s ≤ 10000000) : D_48 (a4 1 (dPs kvs) (.int s) (.list (ls.map dLg))) = .ok (oL (passB kvs s ls)) (a4 1 (dPs kvs) (.int s) (.list (ls.map dLg))) := told_ok (by omega) rfl (u33 t h0 h1)
theorem told2 (t : GT kvs ls) {s : Int} (h0 : 0 ≤ s) (h1 : s ≤ 10000000) : D_48 (a4 2 (dPs kvs) (.int s) (.list (ls.map dLg))) = .ok (oI (wait kvs s ls)) (a4 2 (dPs kvs) (.int s) (.list (ls.map dLg))) := told_ok (by omega) rfl (u38 t h0 h1)
theorem lw5_spec (hd : Dr l) (v10 : Vl x10) {Nx : NSt → Prop} {Rt : PyData → NSt → Prop} {Bk Ct : NSt → Prop}
    (hN : ∀ (l' : List PyData) (s : Int), Dr l' → 0 ≤ s → s ≤ 10000000 → Nx [S, some (.own l'), x2, x3, x4, x5, none, x7, none, x9, some (.val (.int s)), x11, x12, x13, none, x15, x16, x17, x18, none, x20, x21, x22, x23, none, x25, x26, x27]) : WpS (lw5 [S, some (.own l), x2, x3, x4, x5, none, x7, none, x9, x10, x11, x12, x13, none, x15, x16, x17, x18, none, x20, x21, x22, x23, none, x25, x26, x27]) Nx Rt Bk Ct := by
  have sz := sizeBig
  unfold lw5
  rw [wps_sAsg]
  simp -dsimp [e33, e32, szn, pow7]
  refine take_spec hd (by omega) fun r l1 d1 r0 r1 => ?_
  simp -dsimp [e33, e32, szn, pow7]
  refine take_spec d1 (by omega) fun q l2 d2 q0 q1 => ?_
  simp -dsimp [e33, e32, szn, pow7]
  refine pick_spec d2 (by simp) fun m l3 d3 hm => ?_
  have hm' : ∃ i : Int, m = .int i ∧ 0 ≤ i ∧ i ≤ 10000000 := by
    simp only [List.mem_cons, List.not_mem_nil, or_false] at hm
    rcases hm with rfl | rfl | rfl
    · exact ⟨0, rfl, by omega, by omega⟩
    · exact ⟨r, rfl, by omega, by omega⟩
    · exact ⟨_, rfl, by omega, by omega⟩
  obtain ⟨i, rfl, i0, i1⟩ := hm'
  have e10 : ∀ y : PyData, gN 10 y [S, some (.own l3), x2, x3, x4, x5, none, x7, none, x9, x10, x11, x12, x13, none, x15, x16, x17, x18, none, x20, x21, x22, x23, none, x25, x26, x27] = some [S, some (.own l3), x2, x3, x4, x5, none, x7, none, x9, some (.val y), x11, x12, x13, none, x15, x16, x17, x18, none, x20, x21, x22, x23, none, x25, x26, x27] := fun y => gN_vl (x := x10) rfl v10
  show onO (gN 10 (.int i) [S, some (.own l3), x2, x3, x4, x5, none, x7, none, x9, x10, x11, x12, x13, none, x15, x16, x17, x18, none, x20, x21, x22, x23, none, x25, x26, x27]) _
  rw [e10, onO_some]
  exact hN l3 i d3 i0 i1
theorem lw678_spec (t : GT kvs ls) {s : Int} (h0 : 0 ≤ s) (h1 : s ≤ 10000000) (v11 : Vl x11) (v12 : Vl x12) (v13 : Vl x13) {Nx : NSt → Prop} {Rt : PyData → NSt → Prop} {Bk Ct : NSt → Prop}
    (hN : Nx [S, some (.own l), x2, x3, x4, some (.val (dPs kvs)), none, some (.val (.list (ls.map dLg))), none, x9, some (.val (.int s)), some (.val (oL (passB kvs s ls))), some (.val (oI (arr kvs s ls))), some (.val (oI (wait kvs s ls))), none, x15, x16, x17, x18, none, x20, x21, x22, x23, none, x25, x26, x27]) :
    WpS (sSeq lw6 (sSeq lw7 lw8) [S, some (.own l), x2, x3, x4, some (.val (dPs kvs)), none, some (.val (.list (ls.map dLg))), none, x9, some (.val (.int s)), x11, x12, x13, none, x15, x16, x17, x18, none, x20, x21, x22, x23, none, x25, x26, x27]) Nx Rt Bk Ct := by
  have sz := sizeBig
  have e1 := u49 t.g h0 h1 t.hl t.gl
  have e2 := u50 t.g h0 h1 t.hl t.gl
  refine wps_sq ?_
  unfold lw6
  rw [wps_sPar]
  simp -dsimp [e1, e2]
  refine ⟨vlm v11, vlm v12, ?_⟩
  unfold lw7
  rw [wps_sAsg]
  have e13 : ∀ y : PyData, gN 13 y [S, some (.own l), x2, x3, x4, some (.val (dPs kvs)), none, some (.val (.list (ls.map dLg))), none, x9, some (.val (.int s)), some (.val (oL (passB kvs s ls))), some (.val (oI (arr kvs s ls))), x13, none, x15, x16, x17, x18, none, x20, x21, x22, x23, none, x25, x26, x27] = some [S, some (.own l), x2, x3, x4, some (.val (dPs kvs)), none, some (.val (.list (ls.map dLg))), none, x9, some (.val (.int s)), some (.val (oL (passB kvs s ls))), some (.val (oI (arr kvs s ls))), some (.val y), none, x15, x16, x17, x18, none, x20, x21, x22, x23, none, x25, x26, x27] := fun y => gN_vl (x := x13) rfl v13
  rw [wp_nC, e13, onO_some]
  unfold lw8
  rw [wps_sIf]
  cases ea : arr kvs s ls with
  | none =>
    unfold wait at hN
    rw [ea] at hN
    simp -dsimp [oI]
    exact hN
  | some f =>
    unfold wait at hN
    rw [ea] at hN
    have c1 := lc_pure (fi := iV (nV 7)) (g := gN 14) (t := tYesN) (f := nOp2 oIx (.o 14) (.e (nC (.int 0)))) (vs := [14]) (n := [S, some (.own l), x2, x3, x4, some (.val (dPs kvs)), none, some (.val (.list (ls.map dLg))), none, x9, some (.val (.int s)), some (.val (oL (passB kvs s ls))), some (.val (.int f)), some (.val .none), none, x15, x16, x17, x18, none, x20, x21, x22, x23, none, x25, x26, x27])
      (ds := ls.map dLg) (fun _ => true) fstD rfl rfl
      (fun d hd => by
        obtain ⟨l, hk, rfl⟩ := List.mem_map.mp hd
        refine ⟨_, rfl, rfl, fun _ => ?_, rfl⟩
        apply wp_eq
        unfold dLg
        simp -dsimp [atI_0]
        rfl) (szn _ (by rw [List.length_map]; have := t.hl; omega)) rfl
    rw [fstD_map] at c1
    have c2 := sum_map_int (ls.map (·.1))
    generalize hS : ((ls.map (·.1)).map PyData.int) = sl at c1 c2
    simp -dsimp [oI, c1, c2]
    exact hN
theorem lw9_spec (t : GT kvs ls) {s : Int} (h0 : 0 ≤ s) (h1 : s ≤ 10000000) {Nx : NSt → Prop} {Rt : PyData → NSt → Prop} {Bk Ct : NSt → Prop}
    (hN : Nx [S, some (.own l), x2, x3, x4, some (.val (dPs kvs)), none, some (.val (.list (ls.map dLg))), none, x9, some (.val (.int s)), some (.val (oL (passB kvs s ls))), some (.val (oI (arr kvs s ls))), some (.val (oI (wait kvs s ls))), none, x15, x16, x17, x18, none, x20, x21, x22, x23, none, x25, x26, x27]) :
    WpS (lw9 [S, some (.own l), x2, x3, x4, some (.val (dPs kvs)), none, some (.val (.list (ls.map dLg))), none, x9, some (.val (.int s)), some (.val (oL (passB kvs s ls))), some (.val (oI (arr kvs s ls))), some (.val (oI (wait kvs s ls))), none, x15, x16, x17, x18, none, x20, x21, x22, x23, none, x25, x26, x27]) Nx Rt Bk Ct := by
  have sz := sizeBig
  have t0 := told0 t h0 h1
  have t1 := told1 t h0 h1
  have t2 := told2 t h0 h1
  have sr := same_refl 12 _ (three_sOk t (s := s))
  unfold lw9
  rw [wps_sIf]
  simp -dsimp [t0, t1, t2, szn, e34, sr]
  exact hN
theorem lw1011_spec (hd : Dr l) (t : GT kvs ls) {s : Int} (h0 : 0 ≤ s) (h1 : s ≤ 10000000) (v15 : Vl x15) {Nx : NSt → Prop} {Rt : PyData → NSt → Prop} {Bk Ct : NSt → Prop}
    (hN : ∀ (l' : List PyData) (y : PyData), Dr l' → Nx [S, some (.own l'), x2, x3, x4, some (.val (dPs kvs)), none, some (.val (.list (ls.map dLg))), none, x9, some (.val (.int s)), x11, some (.val (oI (arr kvs s ls))), x13, none, some (.val y), x16, x17, x18, none, x20, x21, x22, x23, none, x25, x26, x27]) :
    WpS (sSeq lw10 lw11 [S, some (.own l), x2, x3, x4, some (.val (dPs kvs)), none, some (.val (.list (ls.map dLg))), none, x9, some (.val (.int s)), x11, some (.val (oI (arr kvs s ls))), x13, none, x15, x16, x17, x18, none, x20, x21, x22, x23, none, x25, x26, x27]) Nx Rt Bk Ct := by
  have sz := sizeBig
  refine wps_sq ?_
  unfold lw10
  rw [wps_sAsg]
  simp -dsimp [e32, pow7]
  refine take_spec hd (by omega) fun r l1 d1 r0 r1 => ?_
  have t0 := told0 t (s := min 10000000 (s + r)) (by omega) (by omega)
  simp -dsimp [t0]
  refine ⟨vlm v15, ?_⟩
  unfold lw11
  rw [wps_sIf]
  cases ea : arr kvs s ls with
  | none =>
    have en : arr kvs (min 10000000 (s + r)) ls = none := by
      cases eb : arr kvs (min 10000000 (s + r)) ls with
      | none => rfl
      | some f =>
        obtain ⟨f2, e2, _⟩ := arr_mono t.g (a := s) (by omega) eb
        rw [ea] at e2
        cases e2
    have h2 := hN l1 .none d1
    rw [ea] at h2
    rw [en]
    simp -dsimp [oI]
    exact h2
  | some f =>
    cases eb : arr kvs (min 10000000 (s + r)) ls with
    | none =>
      have h2 := hN l1 .none d1
      rw [ea] at h2
      simp -dsimp [oI]
      exact h2
    | some f2 =>
      obtain ⟨f3, e3, hle⟩ := arr_mono t.g (a := s) (by omega) eb
      rw [ea] at e3
      cases e3
      have h2 := hN l1 (.int f2) d1
      rw [ea] at h2
      have hz : ¬ f2 < f := by omega
      simp -dsimp [oI, hz]
      exact h2
theorem partC1 (hd : Dr l) (t : GT kvs ls) (v10 : Vl x10) (v11 : Vl x11) (v12 : Vl x12) (v13 : Vl x13) (v15 : Vl x15) {Nx : NSt → Prop} {Rt : PyData → NSt → Prop} {Bk Ct : NSt → Prop}
    (hN : ∀ (l' : List PyData) (y10 y11 y12 y13 y15 : Option Sl), Dr l' → Vl y10 → Vl y11 → Vl y12 → Vl y13 → Vl y15 → Nx [S, some (.own l'), x2, x3, x4, some (.val (dPs kvs)), none, some (.val (.list (ls.map dLg))), none, x9, y10, y11, y12, y13, none, y15, x16, x17, x18, none, x20, x21, x22, x23, none, x25, x26, x27]) :
    WpS (lwB12 [S, some (.own l), x2, x3, x4, some (.val (dPs kvs)), none, some (.val (.list (ls.map dLg))), none, x9, x10, x11, x12, x13, none, x15, x16, x17, x18, none, x20, x21, x22, x23, none, x25, x26, x27]) Nx Rt Bk Ct := by
  unfold lwB12
  refine wps_sq (lw5_spec hd v10 fun l1 s d1 s0 s1 => ?_)
  refine wps_cut3 (lw678_spec t s0 s1 v11 v12 v13 ?_)
  refine wps_sq (lw9_spec t s0 s1 ?_)
  refine lw1011_spec d1 t s0 s1 v15 fun l2 y d2 => ?_
  exact hN l2 _ _ _ _ _ d2 Vl.val Vl.val Vl.val Vl.val Vl.val
theorem partC (hd : Dr l) (t : GT kvs ls) (v9 : Vl x9) (v10 : Vl x10) (v11 : Vl x11) (v12 : Vl x12) (v13 : Vl x13) (v15 : Vl x15) {Nx : NSt → Prop} {Rt : PyData → NSt → Prop} {Bk Ct : NSt → Prop}
    (hN : ∀ (l' : List PyData) (y9 y10 y11 y12 y13 y15 : Option Sl), Dr l' → Vl y9 → Vl y10 → Vl y11 → Vl y12 → Vl y13 → Vl y15 → Nx [S, some (.own l'), x2, x3, x4, some (.val (dPs kvs)), none, some (.val (.list (ls.map dLg))), none, y9, y10, y11, y12, y13, none, y15, x16, x17, x18, none, x20, x21, x22, x23, none, x25, x26, x27]) :
    WpS (lw13 [S, some (.own l), x2, x3, x4, some (.val (dPs kvs)), none, some (.val (.list (ls.map dLg))), none, x9, x10, x11, x12, x13, none, x15, x16, x17, x18, none, x20, x21, x22, x23, none, x25, x26, x27]) Nx Rt Bk Ct := by
  unfold lw13
  rw [wps_for]
  simp -dsimp only [wp_iRg1, wp_aCons, wp_oe, wp_nC, wp_aNil, rg1_at (show rgOk 3 = true by decide), onO_some]
  refine wps_forL (fun _ n => ∃ (l' : List PyData) (y9 y10 y11 y12 y13 y15 : Option Sl), n = [S, some (.own l'), x2, x3, x4, some (.val (dPs kvs)), none, some (.val (.list (ls.map dLg))), none, y9, y10, y11, y12, y13, none, y15, x16, x17, x18, none, x20, x21, x22, x23, none, x25, x26, x27] ∧ Dr l' ∧ Vl y9 ∧ Vl y10 ∧ Vl y11 ∧ Vl y12 ∧ Vl y13 ∧ Vl y15) ?_ ?_ _ _ ⟨l, _, _, _, _, _, _, rfl, hd, v9, v10, v11, v12, v13, v15⟩
  · rintro d ds n ⟨l', y9, y10, y11, y12, y13, y15, rfl, d', w9, w10, w11, w12, w13, w15⟩
    refine ⟨_, gN_vl (x := y9) rfl w9, ?_⟩
    exact partC1 d' t w10 w11 w12 w13 w15 fun l2 z10 z11 z12 z13 z15 d2 u10 u11 u12 u13 u15 => ⟨l2, _, _, _, _, _, _, rfl, d2, Vl.val, u10, u11, u12, u13, u15⟩
  · rintro n ⟨l', y9, y10, y11, y12, y13, y15, rfl, d', w9, w10, w11, w12, w13, w15⟩
    exact hN _ _ _ _ _ _ _ d' w9 w10 w11 w12 w13 w15
end Wlaw_k12
end NL
end L2
namespace L2
namespace NL
open PySem PySem.Spec PyProof.Rows
namespace Wlaw_k12
variable {S x2 x3 x4 x5 x7 x9 x10 x11 x12 x13 x15 x16 x17 x18 x20 x21 x22 x23 x25 x26 x27 : Option Sl} {l : List PyData}
variable {kvs : List (Str × Po)} {ls : List Lg}
theorem lw14_spec (hd : Dr l) (v16 : Vl x16) {Nx : NSt → Prop} {Rt : PyData → NSt → Prop} {Bk Ct : NSt → Prop}
    (hN : ∀ (l' : List PyData) (b : Int), Dr l' → 0 ≤ b → b ≤ 10000000 → Nx [S, some (.own l'), x2, x3, x4, x5, none, x7, none, x9, x10, x11, x12, x13, none, x15, some (.val (.int b)), x17, x18, none, x20, x21, x22, x23, none, x25, x26, x27]) : WpS (lw14 [S, some (.own l), x2, x3, x4, x5, none, x7, none, x9, x10, x11, x12, x13, none, x15, x16, x17, x18, none, x20, x21, x22, x23, none, x25, x26, x27]) Nx Rt Bk Ct := by
  have sz := sizeBig
  unfold lw14
  rw [wps_sAsg]
  simp -dsimp [e33, e32, szn, pow7]
  refine take_spec hd (by omega) fun r l1 d1 r0 r1 => ?_
  simp -dsimp [e33, e32, szn, pow7]
  refine take_spec d1 (by omega) fun q l2 d2 q0 q1 => ?_
  simp -dsimp [e33, e32, szn, pow7]
  refine pick_spec d2 (by simp) fun m l3 d3 hm => ?_
  have hm' : ∃ i : Int, m = .int i ∧ 0 ≤ i ∧ i ≤ 10000000 := by
    simp only [List.mem_cons, List.not_mem_nil, or_false] at hm
    rcases hm with rfl | rfl | rfl | rfl
    · exact ⟨0, rfl, by omega, by omega⟩
    · exact ⟨r, rfl, by omega, by omega⟩
    · exact ⟨_, rfl, by omega, by omega⟩
    · exact ⟨_, rfl, by omega, by omega⟩
  obtain ⟨i, rfl, i0, i1⟩ := hm'
  have e16 : ∀ y : PyData, gN 16 y [S, some (.own l3), x2, x3, x4, x5, none, x7, none, x9, x10, x11, x12, x13, none, x15, x16, x17, x18, none, x20, x21, x22, x23, none, x25, x26, x27] = some [S, some (.own l3), x2, x3, x4, x5, none, x7, none, x9, x10, x11, x12, x13, none, x15, some (.val y), x17, x18, none, x20, x21, x22, x23, none, x25, x26, x27] := fun y => gN_vl (x := x16) rfl v16
  show onO (gN 16 (.int i) [S, some (.own l3), x2, x3, x4, x5, none, x7, none, x9, x10, x11, x12, x13, none, x15, x16, x17, x18, none, x20, x21, x22, x23, none, x25, x26, x27]) _
  rw [e16, onO_some]
  exact hN l3 i d3 i0 i1
def trP (got b : Int) (d : PyData) : Bool := match d with
  | .int i => decide (got < i) && decide (i ≤ b)
  | _ => false
theorem map_id2 {xs : List PyData} : xs.map (fun d => d) = xs := List.map_id' xs
theorem tries_ok {got b : Int} {ns : List Int} (hl : ns.length ≤ 1000) :
    nLcL (gN 19) (asB (nChain oLt oLe (.o 17) (.o 19) (.o 16))) (nV 19) [19] (ns.map .int) [] [S, some (.own l), x2, x3, x4, x5, none, x7, none, x9, x10, x11, x12, x13, none, x15, some (.val (.int b)), some (.val (.int got)), x18, none, x20, x21, x22, x23, none, x25, x26, x27] = .ok ((ns.map .int).filter (trP got b)) [S, some (.own l), x2, x3, x4, x5, none, x7, none, x9, x10, x11, x12, x13, none, x15, some (.val (.int b)), some (.val (.int got)), x18, none, x20, x21, x22, x23, none, x25, x26, x27] := by
  have c1 := lcL_pure (g := gN 19) (t := asB (nChain oLt oLe (.o 17) (.o 19) (.o 16))) (f := nV 19) (vs := [19]) (n := [S, some (.own l), x2, x3, x4, x5, none, x7, none, x9, x10, x11, x12, x13, none, x15, some (.val (.int b)), some (.val (.int got)), x18, none, x20, x21, x22, x23, none, x25, x26, x27]) (trP got b) (fun d => d) (ns.map .int) [] (fun d hd => by
    obtain ⟨i, _, rfl⟩ := List.mem_map.mp hd
    have e : trP got b (.int i) = (decide (got < i) && decide (i ≤ b)) := rfl
    refine ⟨_, rfl, ?_, fun _ => rfl, rfl⟩
    rw [e]
    apply wp_eq
    by_cases h1 : got < i
    · simp -dsimp [h1]
    · simp -dsimp [h1]) (szn _ (by rw [List.length_map]; simp; omega))
  rw [map_id2, List.nil_append] at c1
  exact c1
theorem lw16_spec (hd : Dr l) (t : GT kvs ls) {b : Int} (h0 : 0 ≤ b) (h1 : b ≤ 10000000) (v17 : Vl x17) (v18 : Vl x18) {Nx : NSt → Prop} {Rt : PyData → NSt → Prop} {Bk Ct : NSt → Prop}
    (hN : ∀ (l' : List PyData) (y17 y18 : Option Sl), Dr l' → Vl y17 → Vl y18 → Nx [S, some (.own l'), x2, x3, x4, some (.val (dPs kvs)), none, some (.val (.list (ls.map dLg))), none, x9, x10, x11, x12, x13, none, x15, some (.val (.int b)), y17, y18, none, x20, x21, x22, x23, none, x25, x26, x27]) :
    WpS (sSeq lw15 lw16 [S, some (.own l), x2, x3, x4, some (.val (dPs kvs)), none, some (.val (.list (ls.map dLg))), none, x9, x10, x11, x12, x13, none, x15, some (.val (.int b)), x17, x18, none, x20, x21, x22, x23, none, x25, x26, x27]) Nx Rt Bk Ct := by
  have sz := sizeBig
  refine wps_sq ?_
  unfold lw15
  rw [wps_sAsg]
  have e17 : ∀ y : PyData, gN 17 y [S, some (.own l), x2, x3, x4, some (.val (dPs kvs)), none, some (.val (.list (ls.map dLg))), none, x9, x10, x11, x12, x13, none, x15, some (.val (.int b)), x17, x18, none, x20, x21, x22, x23, none, x25, x26, x27] = some [S, some (.own l), x2, x3, x4, some (.val (dPs kvs)), none, some (.val (.list (ls.map dLg))), none, x9, x10, x11, x12, x13, none, x15, some (.val (.int b)), some (.val y), x18, none, x20, x21, x22, x23, none, x25, x26, x27] := fun y => gN_vl (x := x17) rfl v17
  cases hi : inT kvs 0 ls b with
  | false =>
    have t3 := told_ok (i := 3) (by omega) rfl (u37n t h0 h1 hi)
    have e0 := u51 t.g (s := 0) (b := b) (by omega) (by omega) t.hl t.gl
    rw [hi] at e0
    simp -dsimp [t3, e17, -gN_eq]
    unfold lw16
    rw [wps_sIf]
    simp -dsimp [e0]
    exact hN l _ _ hd Vl.val v18
  | true =>
    obtain ⟨got, eg, g0, g1, g2, g3⟩ := u37s t h0 h1 hi
    have t3 := told_ok (i := 3) (by omega) rfl eg
    have eg2 := u51 t.g (s := got) (b := b) (by omega) (by omega) t.hl t.gl
    rw [g2] at eg2
    simp -dsimp [t3, e17, -gN_eq]
    unfold lw16
    rw [wps_sIf]
    have ty1 : isTy "int" (.int got) = true := rfl
    have ty2 : isTy "bool" (.int got) = false := rfl
    simp -dsimp [ty1, ty2, g0, g1, eg2, e32]
    rw [wp_lc]
    simp -dsimp
    refine take_spec hd (by omega) fun r l1 d1 r0 r1 => ?_
    simp -dsimp [szn]
    refine ⟨rfl, ?_⟩
    have c1 := tries_ok (S := S) (x2 := x2) (x3 := x3) (x4 := x4) (x5 := some (.val (dPs kvs))) (x7 := some (.val (.list (ls.map dLg)))) (x9 := x9) (x10 := x10) (x11 := x11) (x12 := x12) (x13 := x13) (x15 := x15) (x18 := x18) (x20 := x20) (x21 := x21) (x22 := x22) (x23 := x23) (x25 := x25) (x26 := x26) (x27 := x27) (l := l1) (got := got) (b := b) (ns := [got + 1, got + 2, got + 1 + r, b]) (by simp)
    refine wp_of c1 ?_
    have hT : ∀ d ∈ ([got + 1, got + 2, got + 1 + r, b].map PyData.int).filter (trP got b), ∃ i : Int, d = .int i ∧ got < i ∧ i ≤ b := fun d hd => by
      obtain ⟨h1, h2⟩ := List.mem_filter.mp hd
      obtain ⟨i, _, rfl⟩ := List.mem_map.mp h1
      have e : trP got b (.int i) = (decide (got < i) && decide (i ≤ b)) := rfl
      rw [e, Bool.and_eq_true] at h2
      exact ⟨i, rfl, of_decide_eq_true h2.1, of_decide_eq_true h2.2⟩
    have hTl : (([got + 1, got + 2, got + 1 + r, b].map PyData.int).filter (trP got b)).length ≤ 4 := List.length_filter_le _ _
    generalize ([got + 1, got + 2, got + 1 + r, b].map PyData.int).filter (trP got b) = T at hT hTl
    have c2 := lc_pure (fi := iV (nV 18)) (g := gN 19) (t := asT (.e (nCall D_51 (aCons (.o 5) (aCons (.o 19) (aCons (.o 7) (aCons (.o 16) (aNil)))))))) (f := nV 19) (vs := [19]) (n := [S, some (.own l1), x2, x3, x4, some (.val (dPs kvs)), none, some (.val (.list (ls.map dLg))), none, x9, x10, x11, x12, x13, none, x15, some (.val (.int b)), some (.val (.int got)), some (.val (.list T)), none, x20, x21, x22, x23, none, x25, x26, x27])
      (ds := T) (fun _ => false) (fun d => d) rfl rfl (fun d hd => by
        obtain ⟨i, rfl, i0, i1⟩ := hT d hd
        have e0 := u51 t.g (s := i) (b := b) (by omega) (by omega) t.hl t.gl
        rw [g3 i i0 i1] at e0
        refine ⟨_, rfl, ?_, (fun h => by cases h), rfl⟩
        apply wp_eq
        simp -dsimp [e0]) (szn _ (by omega)) rfl
    rw [show T.filter (fun _ => false) = [] by simp] at c2
    have c2 : nLc _ _ _ _ _ _ = R.ok [] _ := c2
    have oe := oNe_nil (l := []) (k := 1) (fun x hx => by cases hx) (by omega)
    rw [show (!([] : List PyData).isEmpty) = false from rfl] at oe
    refine ⟨vlm v18, ?_⟩
    rw [wps_sIf]
    show Wp (asB (nOp2 oNe (.e (nL (nLc (iV (nV 18)) (gN 19) (asT (.e (nCall D_51 (aCons (.o 5) (aCons (.o 19) (aCons (.o 7) (aCons (.o 16) (aNil)))))))) (nV 19) [19]))) (.e (nL (nLstO (aNil))))) [S, some (.own l1), x2, x3, x4, some (.val (dPs kvs)), none, some (.val (.list (ls.map dLg))), none, x9, x10, x11, x12, x13, none, x15, some (.val (.int b)), some (.val (.int got)), some (.val (.list T)), none, x20, x21, x22, x23, none, x25, x26, x27]) _
    simp -dsimp [c2, oe]
    exact hN l1 _ _ d1 Vl.val Vl.val
theorem partD (hd : Dr l) (t : GT kvs ls) (v16 : Vl x16) (v17 : Vl x17) (v18 : Vl x18) {Nx : NSt → Prop} {Rt : PyData → NSt → Prop} {Bk Ct : NSt → Prop}
    (hN : ∀ (l' : List PyData) (y16 y17 y18 : Option Sl), Dr l' → Vl y16 → Vl y17 → Vl y18 → Nx [S, some (.own l'), x2, x3, x4, some (.val (dPs kvs)), none, some (.val (.list (ls.map dLg))), none, x9, x10, x11, x12, x13, none, x15, y16, y17, y18, none, x20, x21, x22, x23, none, x25, x26, x27]) :
    WpS (sSeq lw14 (sSeq lw15 lw16) [S, some (.own l), x2, x3, x4, some (.val (dPs kvs)), none, some (.val (.list (ls.map dLg))), none, x9, x10, x11, x12, x13, none, x15, x16, x17, x18, none, x20, x21, x22, x23, none, x25, x26, x27]) Nx Rt Bk Ct := by
  refine wps_sq (lw14_spec hd v16 fun l1 b d1 b0 b1 => ?_)
  exact lw16_spec d1 t b0 b1 v17 v18 fun l2 y17 y18 d2 w17 w18 => hN l2 _ _ _ d2 Vl.val w17 w18
end Wlaw_k12
end NL
end L2
namespace L2
namespace NL
open PySem PySem.Spec PyProof.Rows
namespace Wlaw_k12
variable {S x2 x3 x4 x5 x7 x9 x10 x11 x12 x13 x15 x16 x17 x18 x20 x21 x22 x23 x25 x26 x27 : Option Sl} {l : List PyData}
theorem disp1 {k : Str} {v : PyData} : dispOf [k] [.v v] = some (.dict [(.str k, v)]) := rfl
theorem cut6 {xs : List PyData} : cutP xs none (some 6) = xs.take 6 := by
  unfold cutP
  have e : HT.sIx xs.length xs.length (some 6) = min 6 xs.length := HT.sIx_nat xs.length xs.length 6
  rw [HT.sIx_none, e, List.drop_zero, Nat.sub_zero, ← List.take_eq_take_min]
def PB (d : PyData) : Prop := PV d false
theorem lw17_spec (hd : Dr l) {a b c : Po} (g : G3 a b c) (v20 : Vl x20) {Nx : NSt → Prop} {Rt : PyData → NSt → Prop} {Bk Ct : NSt → Prop}
    (hN : ∀ (l' : List PyData) (y : PyData), Dr l' → PV y false → Nx [S, some (.own l'), x2, x3, x4, some (.val (dPs (k3 a b c))), none, x7, none, x9, x10, x11, x12, x13, none, x15, x16, x17, x18, none, some (.val y), x21, x22, x23, none, x25, x26, x27]) : WpS (lw17 [S, some (.own l), x2, x3, x4, some (.val (dPs (k3 a b c))), none, x7, none, x9, x10, x11, x12, x13, none, x15, x16, x17, x18, none, x20, x21, x22, x23, none, x25, x26, x27]) Nx Rt Bk Ct := by
  have sz := sizeBig
  have e1 := dix_ps (show pLook (k3 a b c) "p" = some a from rfl)
  have e2 : oAdd (dPo a) (.tuple [.int 0]) = some (.tuple [dH a.1, dC a.2, .int 0]) := by
    unfold dPo
    rw [oAdd_tup (by simp)]
    rfl
  have e3 : oIx (dPo a) (.int 0) = some (dH a.1) := rfl
  have e4 : oSl (dH a.1) none (some 6) = some (.tuple ((a.1.map dR).take 6)) := by
    unfold dH
    rw [oSl_tuple, cut6]
  unfold lw17
  rw [wps_sAsg]
  simp -dsimp [e1, e2, e3, e4, disp1, e33, szn]
  refine pick_spec hd (by simp) fun m l3 d3 hm => ?_
  have hm' : PV m false := by
    simp only [List.mem_cons, List.not_mem_nil, or_false] at hm
    rcases hm with rfl | rfl | rfl | rfl | rfl | rfl | rfl
    · exact pb_none
    · exact pb_nil
    · exact pb_P
    · exact pb_p b29_3
    · exact pb_p (b29_h (h6 g.a.h))
    · exact pb_p (b29_c g.a.h c21)
    · exact pb_p b29_n
  have e20 : ∀ y : PyData, gN 20 y [S, some (.own l3), x2, x3, x4, some (.val (dPs (k3 a b c))), none, x7, none, x9, x10, x11, x12, x13, none, x15, x16, x17, x18, none, x20, x21, x22, x23, none, x25, x26, x27] = some [S, some (.own l3), x2, x3, x4, some (.val (dPs (k3 a b c))), none, x7, none, x9, x10, x11, x12, x13, none, x15, x16, x17, x18, none, some (.val y), x21, x22, x23, none, x25, x26, x27] := fun y => gN_vl (x := x20) rfl v20
  show onO (gN 20 m [S, some (.own l3), x2, x3, x4, some (.val (dPs (k3 a b c))), none, x7, none, x9, x10, x11, x12, x13, none, x15, x16, x17, x18, none, x20, x21, x22, x23, none, x25, x26, x27]) _
  rw [e20, onO_some]
  exact hN l3 m d3 hm'
theorem mul13 : oMul (.list [.tuple [.int 1, .str "p"]]) (.int 13) = some (.list (List.replicate 13 (.tuple [.int 1, .str "p"]))) := by kernel_rfl
theorem lw18_spec (hd : Dr l) (v21 : Vl x21) {Nx : NSt → Prop} {Rt : PyData → NSt → Prop} {Bk Ct : NSt → Prop}
    (hN : ∀ (l' : List PyData) (y : PyData), Dr l' → LV y false → Nx [S, some (.own l'), x2, x3, x4, x5, none, x7, none, x9, x10, x11, x12, x13, none, x15, x16, x17, x18, none, x20, some (.val y), x22, x23, none, x25, x26, x27]) : WpS (lw18 [S, some (.own l), x2, x3, x4, x5, none, x7, none, x9, x10, x11, x12, x13, none, x15, x16, x17, x18, none, x20, x21, x22, x23, none, x25, x26, x27]) Nx Rt Bk Ct := by
  have sz := sizeBig
  unfold lw18
  rw [wps_sAsg]
  simp -dsimp [mul13, e33, szn]
  refine pick_spec hd (by simp) fun m l3 d3 hm => ?_
  have hm' : LV m false := oddAll m (show m ∈ oddLegs from hm)
  have e21 : ∀ y : PyData, gN 21 y [S, some (.own l3), x2, x3, x4, x5, none, x7, none, x9, x10, x11, x12, x13, none, x15, x16, x17, x18, none, x20, x21, x22, x23, none, x25, x26, x27] = some [S, some (.own l3), x2, x3, x4, x5, none, x7, none, x9, x10, x11, x12, x13, none, x15, x16, x17, x18, none, x20, some (.val y), x22, x23, none, x25, x26, x27] := fun y => gN_vl (x := x21) rfl v21
  show onO (gN 21 m [S, some (.own l3), x2, x3, x4, x5, none, x7, none, x9, x10, x11, x12, x13, none, x15, x16, x17, x18, none, x20, x21, x22, x23, none, x25, x26, x27]) _
  rw [e21, onO_some]
  exact hN l3 m d3 hm'
theorem lw19_spec (hd : Dr l) (v22 : Vl x22) {Nx : NSt → Prop} {Rt : PyData → NSt → Prop} {Bk Ct : NSt → Prop}
    (hN : ∀ (l' : List PyData) (y : PyData), Dr l' → MV y false → Nx [S, some (.own l'), x2, x3, x4, x5, none, x7, none, x9, x10, x11, x12, x13, none, x15, x16, x17, x18, none, x20, x21, some (.val y), x23, none, x25, x26, x27]) : WpS (lw19 [S, some (.own l), x2, x3, x4, x5, none, x7, none, x9, x10, x11, x12, x13, none, x15, x16, x17, x18, none, x20, x21, x22, x23, none, x25, x26, x27]) Nx Rt Bk Ct := by
  have sz := sizeBig
  unfold lw19
  rw [wps_sAsg]
  simp -dsimp [pow7, e33, szn]
  refine pick_spec hd (by simp) fun m l3 d3 hm => ?_
  have hm' : MV m false := minAll m (show m ∈ minL' from hm)
  have e22 : ∀ y : PyData, gN 22 y [S, some (.own l3), x2, x3, x4, x5, none, x7, none, x9, x10, x11, x12, x13, none, x15, x16, x17, x18, none, x20, x21, x22, x23, none, x25, x26, x27] = some [S, some (.own l3), x2, x3, x4, x5, none, x7, none, x9, x10, x11, x12, x13, none, x15, x16, x17, x18, none, x20, x21, some (.val y), x23, none, x25, x26, x27] := fun y => gN_vl (x := x22) rfl v22
  show onO (gN 22 m [S, some (.own l3), x2, x3, x4, x5, none, x7, none, x9, x10, x11, x12, x13, none, x15, x16, x17, x18, none, x20, x21, x22, x23, none, x25, x26, x27]) _
  rw [e22, onO_some]
  exact hN l3 m d3 hm'
theorem cmp3 {f : NExp} {n : NSt} {v : PyData} (hn : noHeld n [24] = true) (hr : restoreN (wipeN n [24]) n [24] = n)
    (h : ∀ i : Int, 0 ≤ i → i < 3 → ∃ n1, gN 24 (.int i) (wipeN n [24]) = some n1 ∧ f n1 = .ok v n1 ∧ wipeN n1 [24] = wipeN n [24]) : nLc (iRg1 (aCons (.e (nC (.int 3))) (aNil))) (gN 24) (tYesN) f [24] n = .ok [v, v, v] n :=
  lc_pure (ds := rgD 0 3) (fun _ => true) (fun _ => v) rfl hn (fun d hd => by
    obtain ⟨i, rfl, i0, i1⟩ := rgD_mem hd
    obtain ⟨n1, h1, h2, h3⟩ := h i i0 i1
    exact ⟨n1, h1, rfl, fun _ => h2, h3⟩) (szn _ (by rw [rgD_len]; decide)) hr
theorem oAdd_ls {a b : List PyData} (h : a.length + b.length ≤ 1000) : oAdd (.list a) (.list b) = some (.list (a ++ b)) := by
  have sz := sizeBig
  rw [oAdd_list, if_pos (by omega)]
theorem m12 : oMul (.list [flg]) (.int 12) = some (.list (List.replicate 12 flg)) := by kernel_rfl
theorem m4 : oMul (.list [flgT]) (.int 4) = some (.list (List.replicate 4 flgT)) := by kernel_rfl
theorem flg_sOk {j : Nat} (hj : j ≤ 1000) : sOk 12 (.list (List.replicate j flg)) := by
  refine sOk_list (by simp; omega) fun x hx => ?_
  rw [List.eq_of_mem_replicate hx]
  refine sOk_list (by simp) fun y hy => ?_
  simp only [List.mem_cons, List.not_mem_nil, or_false] at hy
  rcases hy with rfl | rfl | rfl | rfl | rfl <;> exact True.intro
theorem flgT_sOk {j : Nat} (hj : j ≤ 1000) : sOk 12 (.list (List.replicate j flgT)) := by
  refine sOk_list (by simp; omega) fun x hx => ?_
  rw [List.eq_of_mem_replicate hx]
  refine sOk_list (by simp) fun y hy => ?_
  simp only [List.mem_cons, List.not_mem_nil, or_false] at hy
  rcases hy with rfl | rfl | rfl | rfl | rfl <;> exact True.intro
theorem gt0 {kvs : List (Str × Po)} (g : GPs kvs) (nm : ∀ kv ∈ kvs, NameOk kv.1) : GT kvs [] := ⟨g, nm, by simp, fun _ h => by cases h⟩
theorem lw2021_spec {kvs : List (Str × Po)} (g : GPs kvs) (nm : ∀ kv ∈ kvs, NameOk kv.1) {bad odd mn : PyData} (hb : PV bad false) (ho : LV odd false) (hm : MV mn false) (v23 : Vl x23) {Nx : NSt → Prop} {Rt : PyData → NSt → Prop} {Bk Ct : NSt → Prop}
    (hN : Nx [S, some (.own l), x2, x3, x4, some (.val (dPs kvs)), none, x7, none, x9, x10, x11, x12, x13, none, x15, x16, x17, x18, none, some (.val bad), some (.val odd), some (.val mn), some (.val (.list (List.replicate 12 flg))), none, x25, x26, x27]) : WpS (sSeq lw20 lw21 [S, some (.own l), x2, x3, x4, some (.val (dPs kvs)), none, x7, none, x9, x10, x11, x12, x13, none, x15, x16, x17, x18, none, some (.val bad), some (.val odd), some (.val mn), x23, none, x25, x26, x27]) Nx Rt Bk Ct := by
  have sz := sizeBig
  have pv := pv_ok g nm
  have mv0 := mv_ok (m := 0) (by omega) (by omega)
  have c1 := cmp3 (f := nCall D_48 (aCons (.o 24) (aCons (.o 20) (aCons (.e (nC (.int 0))) (aCons (.e (nL (nLstO (aNil)))) (aNil)))))) (v := flg) (n := [S, some (.own l), x2, x3, x4, some (.val (dPs kvs)), none, x7, none, x9, x10, x11, x12, x13, none, x15, x16, x17, x18, none, some (.val bad), some (.val odd), some (.val mn), x23, none, x25, x26, x27]) rfl rfl (fun i i0 i1 => by
    have t := told3_nr (a := bad) (b := .int 0) (c := .list []) (badP hb) i0 i1
    refine ⟨_, rfl, ?_, rfl⟩
    apply wp_eq
    simp -dsimp [t])
  have c2 := cmp3 (f := nCall D_48 (aCons (.o 24) (aCons (.o 5) (aCons (.o 22) (aCons (.e (nL (nLstO (aNil)))) (aNil)))))) (v := flg) (n := [S, some (.own l), x2, x3, x4, some (.val (dPs kvs)), none, x7, none, x9, x10, x11, x12, x13, none, x15, x16, x17, x18, none, some (.val bad), some (.val odd), some (.val mn), x23, none, x25, x26, x27]) rfl rfl (fun i i0 i1 => by
    have t := told3_nr (a := dPs kvs) (b := mn) (c := .list []) (badM pv hm) i0 i1
    refine ⟨_, rfl, ?_, rfl⟩
    apply wp_eq
    simp -dsimp [t])
  have c3 := cmp3 (f := nCall D_48 (aCons (.o 24) (aCons (.o 5) (aCons (.e (nC (.int 0))) (aCons (.o 21) (aNil)))))) (v := flg) (n := [S, some (.own l), x2, x3, x4, some (.val (dPs kvs)), none, x7, none, x9, x10, x11, x12, x13, none, x15, x16, x17, x18, none, some (.val bad), some (.val odd), some (.val mn), x23, none, x25, x26, x27]) rfl rfl (fun i i0 i1 => by
    have t := told3_nr (a := dPs kvs) (b := .int 0) (c := odd) (badL pv mv0 ho) i0 i1
    refine ⟨_, rfl, ?_, rfl⟩
    apply wp_eq
    simp -dsimp [t])
  have t1 := toldL_nr (a := bad) (b := .list []) (c := .int 0) (badP hb)
  have t2 := toldL_nr (a := dPs kvs) (b := odd) (c := .int 0) (badL pv mv0 ho)
  have t3 := toldL_nr (a := dPs kvs) (b := .list []) (c := mn) (badM pv hm)
  have a1 : oAdd (.list [flg, flg, flg]) (.list [flg, flg, flg]) = some (.list (List.replicate 6 flg)) := oAdd_ls (by simp)
  have a2 : oAdd (.list (List.replicate 6 flg)) (.list [flg, flg, flg]) = some (.list (List.replicate 9 flg)) := oAdd_ls (by simp)
  have a3 : oAdd (.list (List.replicate 9 flg)) (.list [flg, flg, flg]) = some (.list (List.replicate 12 flg)) := oAdd_ls (by simp)
  generalize List.replicate 6 flg = f6 at a1 a2
  generalize List.replicate 9 flg = f9 at a2 a3
  generalize List.replicate 12 flg = f12 at a3 hN
  have e23 : ∀ (x23 : Option Sl) (v23 : Vl x23) (y : PyData), gN 23 y [S, some (.own l), x2, x3, x4, some (.val (dPs kvs)), none, x7, none, x9, x10, x11, x12, x13, none, x15, x16, x17, x18, none, some (.val bad), some (.val odd), some (.val mn), x23, none, x25, x26, x27] = some [S, some (.own l), x2, x3, x4, some (.val (dPs kvs)), none, x7, none, x9, x10, x11, x12, x13, none, x15, x16, x17, x18, none, some (.val bad), some (.val odd), some (.val mn), some (.val y), none, x25, x26, x27] := fun x23 v23 y => gN_vl (x := x23) rfl v23
  refine wps_sq ?_
  unfold lw20
  rw [wps_sAsg]
  simp -dsimp [c1, c2, c3, a1, a2, e23 x23 v23, -gN_eq, -oAdd_list]
  unfold lw21
  rw [wps_sAsg]
  simp -dsimp [t1, t2, t3, a3, szn, e23 _ Vl.val, -gN_eq, -oAdd_list]
  exact hN
end Wlaw_k12
end NL
end L2
namespace L2
namespace NL
open PySem PySem.Spec PyProof.Rows
namespace Wlaw_k12
variable {S x2 x3 x4 x5 x7 x9 x10 x11 x12 x13 x15 x16 x17 x18 x20 x21 x22 x23 x25 x26 x27 : Option Sl} {l : List PyData}
def lostL : List Lg := [(1, "p"), (1, "no")]
theorem lv_lost : LV (.list (lostL.map dLg)) true := lv_ok (ls := lostL) (by decide) fun l hl => by
  unfold lostL at hl
  simp only [List.mem_cons, List.not_mem_nil, or_false] at hl
  rcases hl with rfl | rfl
  · exact ⟨by decide, by decide, nm_p⟩
  · exact ⟨by decide, by decide, nm_no⟩
theorem tv_lost {a b c : Po} : TV (dPs (k3 a b c)) (.list (lostL.map dLg)) false := tv (kvs := k3 a b c) (ls := lostL) (by decide)
theorem g3s {a b c : Po} (g : G3 a b c) : GPs (k3 a b c) := ⟨by unfold k3; simp, fun kv hk => by
  unfold k3 at hk
  simp only [List.mem_cons, List.not_mem_nil, or_false] at hk
  rcases hk with rfl | rfl | rfl
  · exact g.a
  · exact g.b
  · exact g.c⟩
theorem nm3 {a b c : Po} : ∀ kv ∈ k3 a b c, NameOk kv.1 := fun kv hk => by
  unfold k3 at hk
  simp only [List.mem_cons, List.not_mem_nil, or_false] at hk
  rcases hk with rfl | rfl | rfl
  · exact nm_p
  · exact nm_q
  · exact nm_r
theorem lw222324_spec {a b c : Po} (g : G3 a b c) (v25 : Vl x25) (v26 : Vl x26) {Nx : NSt → Prop} {Rt : PyData → NSt → Prop} {Bk Ct : NSt → Prop}
    (hN : ∀ y25 y26 : PyData, Nx [S, some (.own l), some (.val flg), some (.val flgT), x4, some (.val (dPs (k3 a b c))), none, x7, none, x9, x10, x11, x12, x13, none, x15, x16, x17, x18, none, x20, x21, x22, some (.val (.list (List.replicate 12 flg))), none, some (.val y25), some (.val y26), x27]) :
    WpS (sSeq lw22 (sSeq lw23 lw24) [S, some (.own l), some (.val flg), some (.val flgT), x4, some (.val (dPs (k3 a b c))), none, x7, none, x9, x10, x11, x12, x13, none, x15, x16, x17, x18, none, x20, x21, x22, some (.val (.list (List.replicate 12 flg))), none, x25, x26, x27]) Nx Rt Bk Ct := by
  have sz := sizeBig
  have pv := pv_ok (g3s g) nm3
  have mv0 := mv_ok (m := 0) (by omega) (by omega)
  have el : (PyData.list [.tuple [.int 1, .str "p"], .tuple [.int 1, .str "no"]]) = .list (lostL.map dLg) := rfl
  have lv := lv_lost
  have tv := tv_lost (a := a) (b := b) (c := c)
  have bt := badT pv mv0 lv tv
  have s1 := same_refl 12 _ (flg_sOk (j := 12) (by omega))
  have s2 := same_refl 12 _ (flgT_sOk (j := 4) (by omega))
  have hm12 := m12
  have hm4 := m4
  have a1 : oAdd (.list [flgT, flgT, flgT]) (.list [flgT]) = some (.list (List.replicate 4 flgT)) := oAdd_ls (by simp)
  generalize List.replicate 12 flg = f12 at s1 hm12 hN ⊢
  generalize List.replicate 4 flgT = f4 at s2 hm4 a1
  generalize dPs (k3 a b c) = PP at bt hN ⊢
  have e25 : ∀ y : PyData, gN 25 y [S, some (.own l), some (.val flg), some (.val flgT), x4, some (.val PP), none, x7, none, x9, x10, x11, x12, x13, none, x15, x16, x17, x18, none, x20, x21, x22, some (.val (.list f12)), none, x25, x26, x27] = some [S, some (.own l), some (.val flg), some (.val flgT), x4, some (.val PP), none, x7, none, x9, x10, x11, x12, x13, none, x15, x16, x17, x18, none, x20, x21, x22, some (.val (.list f12)), none, some (.val y), x26, x27] := fun y => gN_vl (x := x25) rfl v25
  refine wps_sq ?_
  unfold lw22
  rw [wps_sAsg]
  simp -dsimp [szn, e25, -gN_eq]
  rw [el]
  generalize PyData.list (lostL.map dLg) = LL at bt ⊢
  have c1 := cmp3 (f := nCall D_48 (aCons (.o 24) (aCons (.o 5) (aCons (.e (nC (.int 0))) (aCons (.o 25) (aNil)))))) (v := flgT) (n := [S, some (.own l), some (.val flg), some (.val flgT), x4, some (.val PP), none, x7, none, x9, x10, x11, x12, x13, none, x15, x16, x17, x18, none, x20, x21, x22, some (.val (.list f12)), none, some (.val LL), x26, x27]) rfl rfl (fun i i0 i1 => by
    have t := told3_nt (a := PP) (b := .int 0) (c := LL) bt i0 i1
    refine ⟨_, rfl, ?_, rfl⟩
    apply wp_eq
    simp -dsimp [t])
  have t1 := toldL_nt (a := PP) (b := LL) (c := .int 0) bt
  have e26 : ∀ y : PyData, gN 26 y [S, some (.own l), some (.val flg), some (.val flgT), x4, some (.val PP), none, x7, none, x9, x10, x11, x12, x13, none, x15, x16, x17, x18, none, x20, x21, x22, some (.val (.list f12)), none, some (.val LL), x26, x27] = some [S, some (.own l), some (.val flg), some (.val flgT), x4, some (.val PP), none, x7, none, x9, x10, x11, x12, x13, none, x15, x16, x17, x18, none, x20, x21, x22, some (.val (.list f12)), none, some (.val LL), some (.val y), x27] := fun y => gN_vl (x := x26) rfl v26
  unfold lw23
  rw [wps_sAsg]
  simp -dsimp [c1, t1, a1, szn, e26, -gN_eq, -oAdd_list]
  unfold lw24
  rw [wps_sIf]
  simp -dsimp [hm12, hm4, szn, e34, s1, s2]
  exact hN _ _
theorem partE (hd : Dr l) {a b c : Po} (g : G3 a b c) (v20 : Vl x20) (v21 : Vl x21) (v22 : Vl x22) (v23 : Vl x23) (v25 : Vl x25) (v26 : Vl x26) {Nx : NSt → Prop} {Rt : PyData → NSt → Prop} {Bk Ct : NSt → Prop}
    (hN : ∀ (l' : List PyData) (y20 y21 y22 y23 y25 y26 : PyData), Dr l' → Nx [S, some (.own l'), some (.val flg), some (.val flgT), x4, some (.val (dPs (k3 a b c))), none, x7, none, x9, x10, x11, x12, x13, none, x15, x16, x17, x18, none, some (.val y20), some (.val y21), some (.val y22), some (.val y23), none, some (.val y25), some (.val y26), x27]) :
    WpS (sSeq lw17 (sSeq lw18 (sSeq lw19 (sSeq lw20 (sSeq lw21 (sSeq lw22 (sSeq lw23 lw24)))))) [S, some (.own l), some (.val flg), some (.val flgT), x4, some (.val (dPs (k3 a b c))), none, x7, none, x9, x10, x11, x12, x13, none, x15, x16, x17, x18, none, x20, x21, x22, x23, none, x25, x26, x27]) Nx Rt Bk Ct := by
  refine wps_sq (lw17_spec hd g v20 fun l1 bad d1 hb => ?_)
  refine wps_sq (lw18_spec d1 v21 fun l2 odd d2 ho => ?_)
  refine wps_sq (lw19_spec d2 v22 fun l3 mn d3 hm => ?_)
  refine wps_cut2 (lw2021_spec (g3s g) nm3 hb ho hm v23 ?_)
  exact lw222324_spec g v25 v26 fun y25 y26 => hN l3 _ _ _ _ _ _ d3
end Wlaw_k12
end NL
end L2
namespace L2
namespace NL
open PySem PySem.Spec PyProof.Rows
namespace Wlaw_k12
variable {S x2 x3 x4 x5 x7 x9 x10 x11 x12 x13 x15 x16 x17 x18 x20 x21 x22 x23 x25 x26 x27 : Option Sl} {l : List PyData}

/-- what a turn leaves -/
structure TS (x5 x7 x9 x10 x11 x12 x13 x15 x16 x17 x18 x20 x21 x22 x23 x25 x26 : Option Sl) : Prop where
  v5 : Vl x5
  v7 : Vl x7
  v9 : Vl x9
  v10 : Vl x10
  v11 : Vl x11
  v12 : Vl x12
  v13 : Vl x13
  v15 : Vl x15
  v16 : Vl x16
  v17 : Vl x17
  v18 : Vl x18
  v20 : Vl x20
  v21 : Vl x21
  v22 : Vl x22
  v23 : Vl x23
  v25 : Vl x25
  v26 : Vl x26

theorem turn_spec (hd : Dr l) (v : TS x5 x7 x9 x10 x11 x12 x13 x15 x16 x17 x18 x20 x21 x22 x23 x25 x26) {Nx : NSt → Prop} {Rt : PyData → NSt → Prop} {Bk Ct : NSt → Prop}
    (hN : ∀ (l' : List PyData) (y5 y7 y9 y10 y11 y12 y13 y15 y16 y17 y18 y20 y21 y22 y23 y25 y26 : Option Sl), Dr l' → TS y5 y7 y9 y10 y11 y12 y13 y15 y16 y17 y18 y20 y21 y22 y23 y25 y26 → Nx [S, some (.own l'), some (.val flg), some (.val flgT), x4, y5, none, y7, none, y9, y10, y11, y12, y13, none, y15, y16, y17, y18, none, y20, y21, y22, y23, none, y25, y26, x27]) :
    WpS (lwB25 [S, some (.own l), some (.val flg), some (.val flgT), x4, x5, none, x7, none, x9, x10, x11, x12, x13, none, x15, x16, x17, x18, none, x20, x21, x22, x23, none, x25, x26, x27]) Nx Rt Bk Ct := by
  unfold lwB25
  refine wps_sq (partA hd v.v5 fun l1 a b c d1 g => ?_)
  refine wps_sq (partB d1 a b c v.v7 fun l2 ls d2 hl gl => ?_)
  have t : GT (k3 a b c) ls := ⟨g3s g, nm3, by omega, gl⟩
  refine wps_sq (partC d2 t v.v9 v.v10 v.v11 v.v12 v.v13 v.v15 fun l3 y9 y10 y11 y12 y13 y15 d3 w9 w10 w11 w12 w13 w15 => ?_)
  refine wps_cut3 (partD d3 t v.v16 v.v17 v.v18 fun l4 y16 y17 y18 d4 w16 w17 w18 => ?_)
  refine partE d4 g v.v20 v.v21 v.v22 v.v23 v.v25 v.v26 fun l5 y20 y21 y22 y23 y25 y26 d5 => ?_
  exact hN l5 _ _ _ _ _ _ _ _ _ _ _ _ _ _ _ _ _ d5 ⟨Vl.val, Vl.val, w9, w10, w11, w12, w13, w15, w16, w17, w18, Vl.val, Vl.val, Vl.val, Vl.val, Vl.val, Vl.val⟩
theorem loop_spec (hd : Dr l) {Nx : NSt → Prop} {Rt : PyData → NSt → Prop} {Bk Ct : NSt → Prop}
    (hN : ∀ (l' : List PyData) (y4 y5 y7 y9 y10 y11 y12 y13 y15 y16 y17 y18 y20 y21 y22 y23 y25 y26 : Option Sl), TS y5 y7 y9 y10 y11 y12 y13 y15 y16 y17 y18 y20 y21 y22 y23 y25 y26 → Nx [S, some (.own l'), some (.val flg), some (.val flgT), y4, y5, none, y7, none, y9, y10, y11, y12, y13, none, y15, y16, y17, y18, none, y20, y21, y22, y23, none, y25, y26, none]) :
    WpS (lw26 [S, some (.own l), some (.val flg), some (.val flgT), none, none, none, none, none, none, none, none, none, none, none, none, none, none, none, none, none, none, none, none, none, none, none, none]) Nx Rt Bk Ct := by
  unfold lw26
  rw [wps_for]
  simp -dsimp only [wp_iRg1, wp_aCons, wp_oe, wp_nC, wp_aNil, rg1_at (show rgOk 4 = true by decide), onO_some]
  refine wps_forL (fun _ n => ∃ (l' : List PyData) (y4 y5 y7 y9 y10 y11 y12 y13 y15 y16 y17 y18 y20 y21 y22 y23 y25 y26 : Option Sl), n = [S, some (.own l'), some (.val flg), some (.val flgT), y4, y5, none, y7, none, y9, y10, y11, y12, y13, none, y15, y16, y17, y18, none, y20, y21, y22, y23, none, y25, y26, none] ∧ Dr l' ∧ Vl y4 ∧ TS y5 y7 y9 y10 y11 y12 y13 y15 y16 y17 y18 y20 y21 y22 y23 y25 y26) ?_ ?_ _ _ ⟨l, none, none, none, none, none, none, none, none, none, none, none, none, none, none, none, none, none, none, rfl, hd, Vl.none, ⟨Vl.none, Vl.none, Vl.none, Vl.none, Vl.none, Vl.none, Vl.none, Vl.none, Vl.none, Vl.none, Vl.none, Vl.none, Vl.none, Vl.none, Vl.none, Vl.none, Vl.none⟩⟩
  · rintro d ds n ⟨l', y4, y5, y7, y9, y10, y11, y12, y13, y15, y16, y17, y18, y20, y21, y22, y23, y25, y26, rfl, d', w4, w⟩
    refine ⟨_, gN_vl (x := y4) rfl w4, ?_⟩
    exact turn_spec d' w fun l2 z5 z7 z9 z10 z11 z12 z13 z15 z16 z17 z18 z20 z21 z22 z23 z25 z26 d2 u => ⟨l2, _, z5, z7, z9, z10, z11, z12, z13, z15, z16, z17, z18, z20, z21, z22, z23, z25, z26, rfl, d2, Vl.val, u⟩
  · rintro n ⟨l', y4, y5, y7, y9, y10, y11, y12, y13, y15, y16, y17, y18, y20, y21, y22, y23, y25, y26, rfl, d', w4, w⟩
    exact hN _ _ _ _ _ _ _ _ _ _ _ _ _ _ _ _ _ _ _ w
end Wlaw_k12
end NL
end L2
namespace L2
namespace NL
open PySem PySem.Spec PyProof.Rows
namespace Wlaw_k12
variable {S x2 x3 x4 x5 x7 x9 x10 x11 x12 x13 x15 x16 x17 x18 x20 x21 x22 x23 x25 x26 x27 : Option Sl} {l : List PyData}

def K1 : Rw := [(480, 720)]
def hsD : List Rw := [K1, K1, K1, K1, K1, K1, []]
theorem GR.one {a b : Int} (h0 : 0 ≤ a) (h1 : a < b) (h2 : b ≤ 1440) : GR [(a, b)] := ⟨by simp, fun p hp => by
  simp only [List.mem_cons, List.not_mem_nil, or_false] at hp
  subst hp
  exact ⟨h0, h1, h2⟩, by simp⟩
theorem gD : GH hsD := ⟨rfl, fun q hq => by
  unfold hsD at hq
  simp only [List.mem_cons, List.not_mem_nil, or_false] at hq
  have w : GR K1 := GR.one (by omega) (by omega) (by omega)
  rcases hq with rfl | rfl | rfl | rfl | rfl | rfl | rfl <;> first | assumption | exact GR.nil⟩
def kD : List (Str × Po) := [("p", (hsD, [])), ("q", (hsD, []))]
def L1 : List Lg := [(100, "p")]
def L2' : List Lg := [(100, "p"), (300, "q")]
theorem gkD : GPs kD := ⟨by unfold kD; simp, fun kv hk => by
  unfold kD at hk
  simp only [List.mem_cons, List.not_mem_nil, or_false] at hk
  rcases hk with rfl | rfl <;> exact ⟨gD, c0⟩⟩
theorem nmD : ∀ kv ∈ kD, NameOk kv.1 := fun kv hk => by
  unfold kD at hk
  simp only [List.mem_cons, List.not_mem_nil, or_false] at hk
  rcases hk with rfl | rfl
  · exact nm_p
  · exact nm_q
theorem tL0 : GT kD [] := gt0 gkD nmD
theorem tL1 : GT kD L1 := ⟨gkD, nmD, by decide, fun e he => by
  unfold L1 at he
  simp only [List.mem_cons, List.not_mem_nil, or_false] at he
  subst he
  exact ⟨by decide, by decide, _, rfl⟩⟩
theorem tL2 : GT kD L2' := ⟨gkD, nmD, by decide, fun e he => by
  unfold L2' at he
  simp only [List.mem_cons, List.not_mem_nil, or_false] at he
  rcases he with rfl | rfl
  · exact ⟨by decide, by decide, _, rfl⟩
  · exact ⟨by decide, by decide, _, rfl⟩⟩
theorem n1 : oI (arr kD 0 L2') = .int 1920 := by kernel_rfl
theorem n2 : oL (passB kD 0 L2') = .list [.int 480, .int 1920] := by kernel_rfl
theorem n3 : inT kD 619 L1 1000 = true := by kernel_rfl
theorem n4 : inT kD 620 L1 1000 = false := by kernel_rfl
theorem n5 : oI (wait kD 0 L1) = .int 380 := by kernel_rfl
theorem n6 : oI (arr kD 7 []) = .int 7 := by kernel_rfl
theorem n7 : inT kD 55 [] 55 = true := by kernel_rfl
theorem f1 : D_35 [some (.val (dPs kD)), some (.val (.int 0)), some (.val (.list [.tuple [.int 100, .str "p"], .tuple [.int 300, .str "q"]]))] = .ok (.int 1920) [some (.val (dPs kD)), some (.val (.int 0)), some (.val (.list [.tuple [.int 100, .str "p"], .tuple [.int 300, .str "q"]]))] := by
  have h := u35 tL2 (s := 0) (by omega) (by omega)
  rw [n1] at h
  exact h
theorem f2 : D_33 [some (.val (dPs kD)), some (.val (.int 0)), some (.val (.list [.tuple [.int 100, .str "p"], .tuple [.int 300, .str "q"]]))] = .ok (.list [.int 480, .int 1920]) [some (.val (dPs kD)), some (.val (.int 0)), some (.val (.list [.tuple [.int 100, .str "p"], .tuple [.int 300, .str "q"]]))] := by
  have h := u33 tL2 (s := 0) (by omega) (by omega)
  rw [n2] at h
  exact h
theorem f3 : D_37 [some (.val (dPs kD)), some (.val (.list [.tuple [.int 100, .str "p"]])), some (.val (.int 1000))] = .ok (.int 619) [some (.val (dPs kD)), some (.val (.list [.tuple [.int 100, .str "p"]])), some (.val (.int 1000))] := by
  obtain ⟨got, h, g0, g1, g2, g3⟩ := u37s tL1 (b := 1000) (by omega) (by omega) (inT_anti gkD (a := 0) (b := 619) (by omega) n3)
  have e : got = 619 := by
    by_cases h1 : got < 619
    · have := g3 619 h1 (by omega)
      rw [n3] at this
      cases this
    · by_cases h2 : 620 ≤ got
      · have := inT_anti gkD h2 g2
        rw [n4] at this
        cases this
      · omega
  subst e
  exact h
theorem f4 : D_38 [some (.val (dPs kD)), some (.val (.int 0)), some (.val (.list [.tuple [.int 100, .str "p"]]))] = .ok (.int 380) [some (.val (dPs kD)), some (.val (.int 0)), some (.val (.list [.tuple [.int 100, .str "p"]]))] := by
  have h := u38 tL1 (s := 0) (by omega) (by omega)
  rw [n5] at h
  exact h
theorem f5 : D_35 [some (.val (dPs kD)), some (.val (.int 7)), some (.val (.list []))] = .ok (.int 7) [some (.val (dPs kD)), some (.val (.int 7)), some (.val (.list []))] := by
  have h := u35 tL0 (s := 7) (by omega) (by omega)
  rw [n6] at h
  exact h
theorem f6 : D_37 [some (.val (dPs kD)), some (.val (.list [])), some (.val (.int 55))] = .ok (.int 55) [some (.val (dPs kD)), some (.val (.list [])), some (.val (.int 55))] := by
  obtain ⟨got, h, g0, g1, g2, g3⟩ := u37s tL0 (b := 55) (by omega) (by omega) (inT_anti gkD (a := 0) (b := 55) (by omega) n7)
  have e : got = 55 := by
    by_cases h1 : got < 55
    · have := g3 55 h1 (by omega)
      rw [n7] at this
      cases this
    · omega
  subst e
  exact h
theorem mK6 : oMul (.tuple [.tuple [.tuple [.int 480, .int 720]]]) (.int 6) = some (.tuple [dR K1, dR K1, dR K1, dR K1, dR K1, dR K1]) := by kernel_rfl
theorem aK6 : oAdd (.tuple [dR K1, dR K1, dR K1, dR K1, dR K1, dR K1]) (.tuple [.tuple []]) = some (dH hsD) := by
  rw [oAdd_tup (by simp)]
  rfl
theorem dispD : dispOf ["p", "q"] [.v (.tuple [dH hsD, .tuple []]), .v (.tuple [dH hsD, .tuple []])] = some (dPs kD) := rfl
theorem got_sOk : sOk 12 (.list [.int 1920, .list [.int 480, .int 1920], .int 619, .int 380, .int 7, .int 55]) := by
  refine sOk_list (by simp) fun x hx => ?_
  simp only [List.mem_cons, List.not_mem_nil, or_false] at hx
  rcases hx with rfl | rfl | rfl | rfl | rfl | rfl
  · exact True.intro
  · refine sOk_list (by simp) fun y hy => ?_
    simp only [List.mem_cons, List.not_mem_nil, or_false] at hy
    rcases hy with rfl | rfl <;> exact True.intro
  · exact True.intro
  · exact True.intro
  · exact True.intro
  · exact True.intro
def tailP : NStm := sSeq lw27 (sSeq lw28 (sSeq lw29 (sSeq lw30 lw31)))
theorem tail_spec (v5 : Vl x5) (v17 : Vl x17) {Nx : NSt → Prop} {Rt : PyData → NSt → Prop} {Bk Ct : NSt → Prop} (hR : ∀ n, Rt (.bool true) n) :
    WpS (tailP [S, some (.own l), x2, x3, x4, x5, none, x7, none, x9, x10, x11, x12, x13, none, x15, x16, x17, x18, none, x20, x21, x22, x23, none, x25, x26, none]) Nx Rt Bk Ct := by
  have sz := sizeBig
  unfold tailP
  refine wps_sq ?_
  unfold lw27
  rw [wps_sAsg]
  simp -dsimp [szn, mK6, aK6]
  have e5 : ∀ b : PyData, gN 5 b [S, some (.own l), x2, x3, x4, x5, none, x7, none, x9, x10, x11, x12, x13, none, x15, x16, x17, x18, none, x20, x21, x22, x23, none, x25, x26, some (.val (dH hsD))] = some [S, some (.own l), x2, x3, x4, some (.val b), none, x7, none, x9, x10, x11, x12, x13, none, x15, x16, x17, x18, none, x20, x21, x22, x23, none, x25, x26, some (.val (dH hsD))] := fun b => gN_vl (x := x5) rfl v5
  unfold lw28
  rw [wps_sAsg]
  simp -dsimp [szn, dispD, e5, -gN_eq]
  have h1 := f1
  have h2 := f2
  have h3 := f3
  have h4 := f4
  have h5 := f5
  have h6 := f6
  have sr := same_refl 12 _ got_sOk
  generalize dPs kD = PD at h1 h2 h3 h4 h5 h6 ⊢
  generalize dH hsD = HD
  have e17 : ∀ b : PyData, gN 17 b [S, some (.own l), x2, x3, x4, some (.val PD), none, x7, none, x9, x10, x11, x12, x13, none, x15, x16, x17, x18, none, x20, x21, x22, x23, none, x25, x26, some (.val HD)] = some [S, some (.own l), x2, x3, x4, some (.val PD), none, x7, none, x9, x10, x11, x12, x13, none, x15, x16, some (.val b), x18, none, x20, x21, x22, x23, none, x25, x26, some (.val HD)] := fun b => gN_vl (x := x17) rfl v17
  unfold lw29
  rw [wps_sAsg]
  simp -dsimp [szn, h1, h2, h3, e17, -gN_eq]
  unfold lw30 lw31
  simp -dsimp [szn, h4, h5, h6, e34, sr]
  exact hR _
def headP (R : NStm) : NStm := sSeq lw1 (sSeq lw2 (sSeq lw26 R))
theorem head_spec {ns : List Int} (hl : ns.length ≤ 63) {R : NStm} {Nx : NSt → Prop} {Rt : PyData → NSt → Prop} {Bk Ct : NSt → Prop}
    (hR : ∀ (l : List PyData) (S x2 x3 x4 x5 x7 x9 x10 x11 x12 x13 x15 x16 x17 x18 x20 x21 x22 x23 x25 x26 : Option Sl), Vl x5 → Vl x17 → WpS (R [S, some (.own l), x2, x3, x4, x5, none, x7, none, x9, x10, x11, x12, x13, none, x15, x16, x17, x18, none, x20, x21, x22, x23, none, x25, x26, none]) Nx Rt Bk Ct) :
    WpS (headP R [some (.scr (ns.map .int)), none, none, none, none, none, none, none, none, none, none, none, none, none, none, none, none, none, none, none, none, none, none, none, none, none, none, none]) Nx Rt Bk Ct := by
  unfold headP
  refine wps_sq ?_
  unfold lw1
  rw [wps_sOwn]
  simp -dsimp [e31]
  refine drawsC_spec (by omega) (by omega) ns hl fun l hd => ?_
  refine ⟨rfl, wps_sq ?_⟩
  unfold lw2
  rw [wps_sPar]
  simp -dsimp [szn]
  refine ⟨rfl, rfl, ?_⟩
  refine loop_spec hd fun l' y4 y5 y7 y9 y10 y11 y12 y13 y15 y16 y17 y18 y20 y21 y22 y23 y25 y26 w => ?_
  exact hR l' _ _ _ _ _ _ _ _ _ _ _ _ _ _ _ _ _ _ _ _ _ w.v5 w.v17
theorem B_52_eq2 : B_52 = headP tailP := rfl
theorem law_true (ns : List Int) (hl : ns.length ≤ 63) : ∃ n', D_52 [some (.scr (ns.map .int))] = .ok (.bool true) n' := by
  refine wp_ex ?_
  unfold D_52
  rw [wp_run, B_52_eq2]
  refine head_spec hl (R := tailP) fun l S x2 x3 x4 x5 x7 x9 x10 x11 x12 x13 x15 x16 x17 x18 x20 x21 x22 x23 x25 x26 v5 v17 => ?_
  exact tail_spec v5 v17 fun _ => rfl
end Wlaw_k12
end NL
end L2
open PySem PySem.W PySem.Calls PyProof.Rows
theorem PySem.Challenge.cw_borderward_k12_whole_trips_past_posts_holds : PySem.Challenge.rw_borderward_k12_whole_trips_past_posts.Holds := by
  w_on; o_law
  refine HandSHeadRun.head_any (r := OpenLaw.row PySem.Challenge.rw_borderward_k12_whole_trips_past_posts) (q := view (OpenLaw.row PySem.Challenge.rw_borderward_k12_whole_trips_past_posts).prog [52]) (H := L2.NL.Wlaw_k12.hk) (ob := L2.NL.Wlaw_k12.ob) (M := 8000) (loose := L2.NL.Wlaw_k12.loose) (d := HandSHeadRun.topDef (OpenLaw.row PySem.Challenge.rw_borderward_k12_whole_trips_past_posts).prog 52) (kwd := []) L2.NL.Wlaw_k12.ob_eq
    (by kernel_rfl) (fun s => by kernel_rfl) L2.NL.Wlaw_k12.run (by kernel_rfl) (by kernel_rfl) (by kernel_rfl) (by rfl) (by first | assumption | decide +kernel) (by decide +kernel) ⟨rfl, rfl, rfl, rfl, rfl, by decide +kernel⟩ ?hw ?hc
  case hw => w_witness2
  case hc =>
    refine L2.walk_ofE (l := PySem.Challenge.rw_borderward_k12_whole_trips_past_posts) (n := 63) (k := 14) (x := "script") (CX := L2.NL.CXe) rfl (by decide) (by kernel_rfl) ⟨rfl, by decide, by decide⟩ ?F (fun _ _ _ _ z => by obtain ⟨_, _, _, z⟩ := z; exact z)
    intro w mg fa h Y G hmg0
    obtain ⟨K, KX, c, c2⟩ := Y
    have hmg : mg ("law" : PySem.Str) = some (.ref fa) := by
      have e : (HandSHeadRun.topDef (OpenLaw.row PySem.Challenge.rw_borderward_k12_whole_trips_past_posts).prog 52).name = ("law" : PySem.Str) := by kernel_rfl
      rw [← e]
      exact hmg0
    have T := L2.NL.Wlaw_k12.facts KX G c c2
    obtain ⟨fd, F⟩ := c.def_ 35 (d := L2.NL.Wlaw_k12.fd_35) rfl
    have e := hmg.symm.trans (He.glo_ok KX G (c.fact 63 (f := .glo "law") rfl))
    cases e
    have b := L2.FunD.bindsA (ps := ["script"]) F fun _ _ _ _ _ _ us hl => match us, hl with | [_], _ => rfl
    exact ⟨K, fd, L2.NL.NProm K mg 1 L2.NL.Wlaw_k12.D_52, KX, fun s v => b s [v] rfl, L2.NL.law_end L2.NL.Wlaw_k12.law_true, fun base _ _ => L2.NL.FnOk.toE (L2.NL.Wlaw_k12.law_ok T F)⟩
