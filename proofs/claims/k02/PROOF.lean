import PyProof.Rows.All
import Wide.All
import OpenK.AllK
import Wide.FinOn
import HandS.ForMost
import HandS.ForExc
import HandS.Defaults
import HandS.Flow
import HandS.IsInst
import HandS.Deep
import HandS.Conv
import HandS.RevTup
import HandS.Rev
import PyProof.ListRange
import HandS.TupAny
import HandS.TupMul
import HandS.TupLe
import HandS.Style
import HandS.Wide
import HandS.SortInts
import KE.LtData
import KE.SortData
import HandS.Zip
import HandS.ExcIs
import HandS.HotCalls
import HandS.HeadHook1
import HandS.Dict
import HandS.Head0
import HandS.Head1
import HandS.Head2
import HandS.HeadEnd
import HandS.HeadHook2
import HandS.WordsExc
import HandS.SetFor
import HandS.Strs
import PyProof.Rows.SetFrom
import HandS.Iter
import HandS.Star
import KE.GoesEnum
import HandS.FStr
import HandS.Text
import PySem.Challenge.RW_borderward_k02_whole_duties_told_simply
set_option Elab.async false
set_option linter.all false
set_option maxRecDepth 100000
set_option maxHeartbeats 2000000
set_option exponentiation.threshold 5000
/-! NL1: plain data over the hand layer: values as PyData, lists that are owned by one slot, results of a step, the judgements. -/
namespace L2
namespace NL
open PySem PySem.Spec PyProof.Rows

/-- what a slot holds: a value; a list of its own; a list lent by the caller; the script -/
inductive Sl where
  | val (d : PyData) | own (xs : List PyData) | lent (xs : List PyData) | scr (xs : List PyData)
def Sl.held : Sl → Bool
  | .own _ => true
  | .lent _ => true
  | _ => false
abbrev NSt := List (Option Sl)
abbrev Fz := Addr → Prop

/-- a key as data -/
def keyD : Key → PyData
  | .inl i => .int i
  | .inr x => .str x
mutual
def Rep (K : PySem.W.Frag) (H : Hp) (F : Fz) : PyData → V → Prop
  | .none, v => v = .non
  | .bool b, v => v = .bl b
  | .int i, v => v = .int i
  | .str x, v => v = .str x
  | .list ds, v => ∃ a xs, v = .ref a ∧ F a ∧ H a = some (.lst xs) ∧ Reps K H F ds xs
  | .tuple ds, v => ∃ a xs, v = .ref a ∧ ((F a ∧ H a = some (.tup xs)) ∨ ∀ H', SqT K H' a xs) ∧ Reps K H F ds xs
  | .dict kvs, v => ∃ (a : Addr) (ws : List V), v = .ref a ∧ F a ∧ (∃ (o : Obj) (kx : List (Key × V)), H a = some (.frz o (.dK kx)) ∧ kvs.map (·.1) = kx.map (fun p => keyD p.1) ∧ ws = kx.map (·.2)) ∧ RepsP K H F kvs ws
def Reps (K : PySem.W.Frag) (H : Hp) (F : Fz) : List PyData → List V → Prop
  | [], xs => xs = []
  | d :: ds, xs => ∃ v vs, xs = v :: vs ∧ Rep K H F d v ∧ Reps K H F ds vs
def RepsP (K : PySem.W.Frag) (H : Hp) (F : Fz) : List (PyData × PyData) → List V → Prop
  | [], xs => xs = []
  | p :: ds, xs => ∃ v vs, xs = v :: vs ∧ RepP K H F p v ∧ RepsP K H F ds vs
def RepP (K : PySem.W.Frag) (H : Hp) (F : Fz) : PyData × PyData → V → Prop
  | (_, d), v => Rep K H F d v
end

section
variable {K : PySem.W.Frag} {H H' : Hp} {F F' : Fz}
mutual
theorem Rep.keep (h : ∀ a, F a → F' a ∧ H' a = H a) : ∀ (d : PyData) (v : V), Rep K H F d v → Rep K H' F' d v
  | .none, _, r => by unfold Rep at r ⊢; exact r
  | .bool b, _, r => by unfold Rep at r ⊢; exact r
  | .int i, _, r => by unfold Rep at r ⊢; exact r
  | .str x, _, r => by unfold Rep at r ⊢; exact r
  | .list ds, v, r => by
    unfold Rep at r ⊢
    obtain ⟨a, xs, e, f, hq, q⟩ := r
    exact ⟨a, xs, e, (h a f).1, (h a f).2.trans hq, Reps.keep h ds xs q⟩
  | .tuple ds, v, r => by
    unfold Rep at r ⊢
    obtain ⟨a, xs, e, f, q⟩ := r
    refine ⟨a, xs, e, ?_, Reps.keep h ds xs q⟩
    rcases f with ⟨f, hq⟩ | f
    · exact .inl ⟨(h a f).1, (h a f).2.trans hq⟩
    · exact .inr f
  | .dict kvs, v, r => by
    unfold Rep at r ⊢
    obtain ⟨a, ws, e, f, o, q⟩ := r
    refine ⟨a, ws, e, (h a f).1, ?_, RepsP.keep h kvs ws q⟩
    rw [(h a f).2]
    exact o
theorem Reps.keep (h : ∀ a, F a → F' a ∧ H' a = H a) : ∀ (ds : List PyData) (vs : List V), Reps K H F ds vs → Reps K H' F' ds vs
  | [], _, r => by unfold Reps at r ⊢; exact r
  | d :: ds, _, r => by
    unfold Reps at r ⊢
    obtain ⟨v, vs, e, r1, r2⟩ := r
    exact ⟨v, vs, e, Rep.keep h d v r1, Reps.keep h ds vs r2⟩
theorem RepsP.keep (h : ∀ a, F a → F' a ∧ H' a = H a) : ∀ (ds : List (PyData × PyData)) (vs : List V), RepsP K H F ds vs → RepsP K H' F' ds vs
  | [], _, r => by unfold RepsP at r ⊢; exact r
  | p :: ds, _, r => by
    unfold RepsP at r ⊢
    obtain ⟨v, vs, e, r1, r2⟩ := r
    exact ⟨v, vs, e, RepP.keep h p v r1, RepsP.keep h ds vs r2⟩
theorem RepP.keep (h : ∀ a, F a → F' a ∧ H' a = H a) : ∀ (p : PyData × PyData) (v : V), RepP K H F p v → RepP K H' F' p v
  | (_, d), v, r => by
    unfold RepP at r ⊢
    exact Rep.keep h d v r
end
theorem Reps.nil : Reps K H F [] [] := by unfold Reps; rfl
theorem Reps.cons {d : PyData} {ds : List PyData} {v : V} {vs : List V} (h1 : Rep K H F d v) (h2 : Reps K H F ds vs) : Reps K H F (d :: ds) (v :: vs) := by
  unfold Reps; exact ⟨v, vs, rfl, h1, h2⟩
theorem Reps.length : ∀ {ds : List PyData} {vs : List V}, Reps K H F ds vs → vs.length = ds.length
  | [], _, r => by unfold Reps at r; subst r; rfl
  | d :: ds, _, r => by
    unfold Reps at r
    obtain ⟨v, vs, rfl, _, r2⟩ := r
    simp [Reps.length r2]
theorem Reps.get : ∀ {ds : List PyData} {vs : List V} {i : Nat} {d : PyData}, Reps K H F ds vs → ds[i]? = some d → ∃ v, vs[i]? = some v ∧ Rep K H F d v
  | [], _, _, _, _, e => by simp at e
  | d :: ds, _, 0, _, r, e => by
    unfold Reps at r
    obtain ⟨v, vs, rfl, h1, _⟩ := r
    simp at e; subst e
    exact ⟨v, rfl, h1⟩
  | d :: ds, _, i + 1, _, r, e => by
    unfold Reps at r
    obtain ⟨v, vs, rfl, _, r2⟩ := r
    obtain ⟨u, h1, h2⟩ := Reps.get (i := i) r2 (by simpa using e)
    exact ⟨u, by simpa using h1, h2⟩
theorem Reps.get' : ∀ {ds : List PyData} {vs : List V} {i : Nat} {v : V}, Reps K H F ds vs → vs[i]? = some v → ∃ d, ds[i]? = some d ∧ Rep K H F d v
  | [], _, _, _, r, e => by unfold Reps at r; subst r; simp at e
  | d :: ds, _, 0, _, r, e => by
    unfold Reps at r
    obtain ⟨v, vs, rfl, h1, _⟩ := r
    simp at e; subst e
    exact ⟨d, rfl, h1⟩
  | d :: ds, _, i + 1, _, r, e => by
    unfold Reps at r
    obtain ⟨v, vs, rfl, _, r2⟩ := r
    obtain ⟨u, h1, h2⟩ := Reps.get' (i := i) r2 (by simpa using e)
    exact ⟨u, by simpa using h1, h2⟩
theorem Reps.append : ∀ {ds es : List PyData} {vs ws : List V}, Reps K H F ds vs → Reps K H F es ws → Reps K H F (ds ++ es) (vs ++ ws)
  | [], _, _, _, r, s => by unfold Reps at r; subst r; exact s
  | d :: ds, _, _, _, r, s => by
    unfold Reps at r
    obtain ⟨v, vs, rfl, h1, r2⟩ := r
    exact Reps.cons h1 (Reps.append r2 s)
theorem Reps.take : ∀ {ds : List PyData} {vs : List V} (n : Nat), Reps K H F ds vs → Reps K H F (ds.take n) (vs.take n)
  | _, _, 0, _ => by simp; exact Reps.nil
  | [], _, n + 1, r => by unfold Reps at r; subst r; simp; exact Reps.nil
  | d :: ds, _, n + 1, r => by
    unfold Reps at r
    obtain ⟨v, vs, rfl, h1, r2⟩ := r
    exact Reps.cons h1 (Reps.take n r2)
theorem Reps.drop : ∀ {ds : List PyData} {vs : List V} (n : Nat), Reps K H F ds vs → Reps K H F (ds.drop n) (vs.drop n)
  | _, _, 0, r => by simpa using r
  | [], _, n + 1, r => by unfold Reps at r; subst r; simp; exact Reps.nil
  | d :: ds, _, n + 1, r => by
    unfold Reps at r
    obtain ⟨v, vs, rfl, h1, r2⟩ := r
    exact Reps.drop n r2
theorem Reps.set : ∀ {ds : List PyData} {vs : List V} {d : PyData} {v : V} (n : Nat), Reps K H F ds vs → Rep K H F d v → Reps K H F (ds.set n d) (vs.set n v)
  | [], _, _, _, n, r, _ => by unfold Reps at r; subst r; simp; exact Reps.nil
  | e :: ds, _, _, _, 0, r, s => by
    unfold Reps at r
    obtain ⟨w, vs, rfl, h1, r2⟩ := r
    exact Reps.cons s r2
  | e :: ds, _, _, _, n + 1, r, s => by
    unfold Reps at r
    obtain ⟨w, vs, rfl, h1, r2⟩ := r
    exact Reps.cons h1 (Reps.set n r2 s)
theorem Reps.reverse : ∀ {ds : List PyData} {vs : List V}, Reps K H F ds vs → Reps K H F ds.reverse vs.reverse
  | [], _, r => by unfold Reps at r; subst r; simp; exact Reps.nil
  | d :: ds, _, r => by
    unfold Reps at r
    obtain ⟨v, vs, rfl, h1, r2⟩ := r
    simp only [List.reverse_cons]
    exact (Reps.reverse r2).append (Reps.cons h1 Reps.nil)
theorem Reps.dropLast {ds : List PyData} {vs : List V} (r : Reps K H F ds vs) : Reps K H F ds.dropLast vs.dropLast := by
  rw [List.dropLast_eq_take, List.dropLast_eq_take, r.length]
  exact r.take _
theorem Reps.eraseIdx : ∀ {ds : List PyData} {vs : List V} (n : Nat), Reps K H F ds vs → Reps K H F (ds.eraseIdx n) (vs.eraseIdx n)
  | [], _, n, r => by unfold Reps at r; subst r; simp; exact Reps.nil
  | d :: ds, _, 0, r => by
    unfold Reps at r
    obtain ⟨v, vs, rfl, h1, r2⟩ := r
    exact r2
  | d :: ds, _, n + 1, r => by
    unfold Reps at r
    obtain ⟨v, vs, rfl, h1, r2⟩ := r
    exact Reps.cons h1 (Reps.eraseIdx n r2)
theorem Reps.ints : ∀ (ns : List Int), Reps K H F (ns.map PyData.int) (ns.map V.int)
  | [] => Reps.nil
  | n :: ns => Reps.cons (by unfold Rep; rfl) (Reps.ints ns)
theorem Reps.rep {ds : List PyData} {vs : List V} (r : Reps K H F ds vs) : ∀ k : Nat, Reps K H F (List.replicate k ds).flatten (List.replicate k vs).flatten
  | 0 => Reps.nil
  | k + 1 => by
    rw [List.replicate_succ, List.replicate_succ, List.flatten_cons, List.flatten_cons]
    exact r.append (Reps.rep r k)
/-! the readings of the library -/
mutual
theorem Rep.dp : ∀ (d : PyData) (v : V), Rep K H F d v → d.canLay0 = true → Dp K H v d
  | .none, _, r, _ => by unfold Rep at r; subst r; exact .non
  | .bool b, _, r, _ => by unfold Rep at r; subst r; exact .bl b
  | .int i, _, r, _ => by unfold Rep at r; subst r; exact .int i
  | .str x, _, r, _ => by unfold Rep at r; subst r; exact .str x
  | .list ds, v, r, l => by
    unfold Rep at r
    unfold PyData.canLay0 at l
    obtain ⟨a, xs, rfl, f, hq, q⟩ := r
    exact .lst (SqL.of hq) (Reps.dp ds xs q l)
  | .tuple ds, v, r, l => by
    unfold Rep at r
    unfold PyData.canLay0 at l
    obtain ⟨a, xs, rfl, f, q⟩ := r
    refine .tup ?_ (Reps.dp ds xs q l)
    rcases f with ⟨f, hq⟩ | f
    · exact SqT.of hq
    · exact f H
  | .dict _, _, _, l => by unfold PyData.canLay0 at l; cases l
theorem Reps.dp : ∀ (ds : List PyData) (vs : List V), Reps K H F ds vs → PyData.canLayAll0 ds = true → DpAll K H vs ds
  | [], _, r, _ => by unfold Reps at r; subst r; exact .nil
  | d :: ds, _, r, l => by
    unfold Reps at r
    unfold PyData.canLayAll0 at l
    obtain ⟨l1, l2⟩ := Bool.and_eq_true_iff.mp l
    obtain ⟨v, vs, rfl, r1, r2⟩ := r
    exact .cons (Rep.dp d v r1 l1) (Reps.dp ds vs r2 l2)
end
theorem Rep.list {ds : List PyData} {v : V} (r : Rep K H F (.list ds) v) : ∃ a xs, v = .ref a ∧ F a ∧ H a = some (.lst xs) ∧ Reps K H F ds xs := by
  unfold Rep at r; exact r
theorem Rep.tuple {ds : List PyData} {v : V} (r : Rep K H F (.tuple ds) v) : ∃ a xs, v = .ref a ∧ SqT K H a xs ∧ Reps K H F ds xs := by
  unfold Rep at r
  obtain ⟨a, xs, e, f, q⟩ := r
  refine ⟨a, xs, e, ?_, q⟩
  rcases f with ⟨f, hq⟩ | f
  · exact SqT.of hq
  · exact f H
theorem Rep.int {i : Int} {v : V} (r : Rep K H F (.int i) v) : v = .int i := by unfold Rep at r; exact r
theorem Rep.bool {i : Bool} {v : V} (r : Rep K H F (.bool i) v) : v = .bl i := by unfold Rep at r; exact r
theorem Rep.str {i : Str} {v : V} (r : Rep K H F (.str i) v) : v = .str i := by unfold Rep at r; exact r
theorem Rep.none {v : V} (r : Rep K H F .none v) : v = .non := by unfold Rep at r; exact r
theorem Rep.dict {kvs : List (PyData × PyData)} {v : V} (r : Rep K H F (.dict kvs) v) : ∃ (a : Addr) (ws : List V), v = .ref a ∧ F a ∧ (∃ (o : Obj) (kx : List (Key × V)), H a = some (.frz o (.dK kx)) ∧ kvs.map (·.1) = kx.map (fun p => keyD p.1) ∧ ws = kx.map (·.2)) ∧ RepsP K H F kvs ws := by unfold Rep at r; exact r
theorem Rep.mkDict {a : Addr} {o : Obj} {kx : List (Key × V)} {kvs : List (PyData × PyData)} (f : F a) (h : H a = some (.frz o (.dK kx))) (hk : kvs.map (·.1) = kx.map (fun p => keyD p.1)) (r : RepsP K H F kvs (kx.map (·.2))) : Rep K H F (.dict kvs) (.ref a) := by unfold Rep; exact ⟨a, _, rfl, f, ⟨o, kx, h, hk, rfl⟩, r⟩
theorem Rep.mkInt {i : Int} : Rep K H F (.int i) (.int i) := by unfold Rep; rfl
theorem Rep.mkBool {i : Bool} : Rep K H F (.bool i) (.bl i) := by unfold Rep; rfl
theorem Rep.mkStr {i : Str} : Rep K H F (.str i) (.str i) := by unfold Rep; rfl
theorem Rep.mkNone : Rep K H F .none .non := by unfold Rep; rfl
theorem Rep.mkList {a : Addr} {xs : List V} {ds : List PyData} (f : F a) (h : H a = some (.lst xs)) (r : Reps K H F ds xs) : Rep K H F (.list ds) (.ref a) := by unfold Rep; exact ⟨a, xs, rfl, f, h, r⟩
theorem Rep.mkTup {a : Addr} {xs : List V} {ds : List PyData} (f : F a) (h : H a = some (.tup xs)) (r : Reps K H F ds xs) : Rep K H F (.tuple ds) (.ref a) := by unfold Rep; exact ⟨a, xs, rfl, .inl ⟨f, h⟩, r⟩
theorem Rep.mkTupK {a : Addr} {xs : List V} {ds : List PyData} (h : ∀ H', SqT K H' a xs) (r : Reps K H F ds xs) : Rep K H F (.tuple ds) (.ref a) := by unfold Rep; exact ⟨a, xs, rfl, .inr h, r⟩
end

/-- a state: the plain slots, the slots, the heap, what is frozen -/
structure Cf where
  n : NSt
  s : St
  H : Hp
  F : Fz
def Cf.Ow (c : Cf) (a : Addr) : Prop := ∃ (i : Nat) (xs : List PyData), c.n[i]? = some (some (Sl.own xs)) ∧ c.s[i]? = some (some (V.ref a))
def Cf.Hd (c : Cf) (a : Addr) : Prop := ∃ (i : Nat) (sl : Sl), c.n[i]? = some (some sl) ∧ sl.held = true ∧ c.s[i]? = some (some (V.ref a))
theorem Cf.Ow.hd {c : Cf} {a : Addr} (h : c.Ow a) : c.Hd a := let ⟨i, xs, h1, h2⟩ := h; ⟨i, _, h1, rfl, h2⟩
def ScrOk (K : PySem.W.Frag) (H : Hp) (a : Addr) (vs : List V) : Prop := (∃ o : Obj, H a = some (.frz o (.lst vs))) ∨ ∀ H', SqL K H' a vs
theorem ScrOk.sq {K : PySem.W.Frag} {H : Hp} {a : Addr} {vs : List V} (h : ScrOk K H a vs) : SqL K H a vs := by
  rcases h with ⟨o, h⟩ | h
  · exact .inl (.inr ⟨o, h⟩)
  · exact h H
def SlRep (K : PySem.W.Frag) (H : Hp) (F : Fz) : Sl → V → Prop
  | .val d, v => Rep K H F d v
  | .own xs, v => ∃ (a : Addr) (ws : List V), v = .ref a ∧ ¬ F a ∧ H a = some (.lst ws) ∧ Reps K H F xs ws
  | .lent xs, v => ∃ (a : Addr) (ws : List V), v = .ref a ∧ ¬ F a ∧ H a = some (.lst ws) ∧ Reps K H F xs ws
  | .scr xs, v => ∃ (a : Addr) (ns : List Int), v = .ref a ∧ xs = ns.map PyData.int ∧ ScrOk K H a (ns.map V.int)
structure Sim (K : PySem.W.Frag) (c : Cf) : Prop where
  len : c.n.length = c.s.length
  slot : ∀ (i : Nat) (sl : Sl), c.n[i]? = some (some sl) → ∃ v, c.s[i]? = some (some v) ∧ SlRep K c.H c.F sl v
  sep : ∀ (i j : Nat) (si sj : Sl) (a : Addr), c.n[i]? = some (some si) → c.n[j]? = some (some sj) → si.held = true → sj.held = true → c.s[i]? = some (some (.ref a)) → c.s[j]? = some (some (.ref a)) → i = j
  fz : ∀ a, c.F a → c.H a ≠ none
structure Step (c c' : Cf) : Prop where
  keep : ∀ a, c.H a ≠ none → ¬ c.Hd a → c'.H a = c.H a
  live : ∀ a, c.H a ≠ none → c'.H a ≠ none
  fz : ∀ a, c.F a → c'.F a
  fn : ∀ a, c'.F a → c.F a ∨ c.H a = none ∨ c.Ow a
  hd : ∀ a, c'.Hd a → c.Hd a ∨ c.H a = none
  ow : ∀ a, c'.Ow a → c.Ow a ∨ c.H a = none
  mu : ∀ (i : Nat) (xs : List PyData), c.n[i]? = some (some (Sl.lent xs)) → ∃ ys : List PyData, c'.n[i]? = some (some (Sl.lent ys)) ∧ c'.s[i]? = c.s[i]?
  ln : c'.n.length = c.n.length
theorem Step.refl (c : Cf) : Step c c := ⟨fun _ _ _ => rfl, fun _ h => h, fun _ h => h, fun _ h => .inl h, fun _ h => .inl h, fun _ h => .inl h, fun _ xs h => ⟨xs, h, rfl⟩, rfl⟩
theorem Step.trans {a b c : Cf} (h : Step a b) (g : Step b c) : Step a c where
  keep x n k := by
    have e := h.keep x n k
    have n' : b.H x ≠ none := h.live x n
    have k' : ¬ b.Hd x := fun z => by
      rcases h.hd x z with z | z
      · exact k z
      · exact n z
    exact (g.keep x n' k').trans e
  live x n := g.live x (h.live x n)
  fz x f := g.fz x (h.fz x f)
  fn x f := by
    rcases g.fn x f with f | f | f
    · exact h.fn x f
    · exact .inr (.inl (Classical.byContradiction fun z => h.live x z f))
    · rcases h.ow x f with f | f
      · exact .inr (.inr f)
      · exact .inr (.inl f)
  hd x f := by
    rcases g.hd x f with f | f
    · exact h.hd x f
    · exact .inr (Classical.byContradiction fun z => h.live x z f)
  ow x f := by
    rcases g.ow x f with f | f
    · exact h.ow x f
    · exact .inr (Classical.byContradiction fun z => h.live x z f)
  mu i xs e := by
    obtain ⟨ys, e1, e2⟩ := h.mu i xs e
    obtain ⟨zs, e3, e4⟩ := g.mu i ys e1
    exact ⟨zs, e3, e4.trans e2⟩
  ln := g.ln.trans h.ln

section
variable {K : PySem.W.Frag} {c c' : Cf}
theorem Sim.nohd (S : Sim K c) {a : Addr} (f : c.F a) : ¬ c.Hd a := fun ⟨i, sl, h1, h2, h3⟩ => by
  obtain ⟨v, e, r⟩ := S.slot i sl h1
  rw [h3] at e
  cases e
  cases sl with
  | val d => cases h2
  | scr d => cases h2
  | own xs =>
    obtain ⟨b, ws, e, nf, _⟩ := r
    cases e
    exact nf f
  | lent xs =>
    obtain ⟨b, ws, e, nf, _⟩ := r
    cases e
    exact nf f
theorem Sim.hdH (S : Sim K c) {a : Addr} (h : c.Hd a) : c.H a ≠ none := by
  obtain ⟨i, sl, h1, h2, h3⟩ := h
  obtain ⟨v, e, r⟩ := S.slot i sl h1
  rw [h3] at e
  cases e
  cases sl with
  | val d => cases h2
  | scr d => cases h2
  | own xs =>
    obtain ⟨b, ws, e, nf, q, _⟩ := r
    cases e
    rw [q]; simp
  | lent xs =>
    obtain ⟨b, ws, e, nf, q, _⟩ := r
    cases e
    rw [q]; simp
/-- what was frozen stays -/
theorem Step.frz (st : Step c c') (S : Sim K c) : ∀ a, c.F a → c'.F a ∧ c'.H a = c.H a := fun a f => ⟨st.fz a f, st.keep a (S.fz a f) (S.nohd f)⟩
theorem Step.rep (st : Step c c') (S : Sim K c) {d : PyData} {v : V} (r : Rep K c.H c.F d v) : Rep K c'.H c'.F d v := Rep.keep (st.frz S) d v r
theorem Step.reps (st : Step c c') (S : Sim K c) {d : List PyData} {v : List V} (r : Reps K c.H c.F d v) : Reps K c'.H c'.F d v := Reps.keep (st.frz S) d v r
end
end NL
end L2
/-! NL2: results, judgements, what heaps do. -/
namespace L2
namespace NL
open PySem PySem.Spec PyProof.Rows

/-- an exception, as plain data: its class by name, its one field -/
structure NX where
  cls : Str
  at_ : Option PyData := none
inductive R (α : Type) where
  | ok (a : α) (n : NSt) | err (x : NX) (n : NSt) | bad
def R.bind {α β : Type} (r : R α) (k : α → NSt → R β) : R β := match r with
  | .ok a n => k a n
  | .err x n => .err x n
  | .bad => .bad
inductive NR where
  | nx (n : NSt) | ret (d : PyData) (n : NSt) | brk (n : NSt) | ct (n : NSt) | err (x : NX) (n : NSt) | bad
def R.st {α : Type} (r : R α) (k : α → NSt → NR) : NR := match r with
  | .ok a n => k a n
  | .err x n => .err x n
  | .bad => .bad
abbrev NExp := NSt → R PyData
abbrev NStm := NSt → NR

def XRep (K : PySem.W.Frag) (mg : Str → Option Value) (H : Hp) (F : Fz) (x : NX) (cls : Value) (d : Option Addr) : Prop :=
  mg x.cls = some cls ∧ (∃ C, cls = .ref C) ∧ match x.at_ with
    | none => d = none
    | some p => ∃ dx v, d = some dx ∧ H dx = some (.xd [("at", v)]) ∧ Rep K H F p v

/-- what must follow a result -/
def Pst {α β : Type} (K : PySem.W.Frag) (mg : Str → Option Value) (W : WX) (rel : Cf → Cf → α → β → Prop) (c : Cf) (Q : β → Hp → Prop) : R α → Prop
  | .ok a n' => ∀ b H' F', Step c ⟨n', c.s, H', F'⟩ → Sim K ⟨n', c.s, H', F'⟩ → rel c ⟨n', c.s, H', F'⟩ a b → Q b H'
  | .err x n' => ∀ cls d H' F', Step c ⟨n', c.s, H', F'⟩ → Sim K ⟨n', c.s, H', F'⟩ → XRep K mg H' F' x cls d → W cls d c.s H'
  | .bad => False
def PstS (K : PySem.W.Frag) (mg : Str → Option Value) (W : WX) (c : Cf) (D : Ends) : NR → Prop
  | .nx n' => ∀ σ' H' F', Step c ⟨n', σ', H', F'⟩ → Sim K ⟨n', σ', H', F'⟩ → D.nx σ' H'
  | .ret a n' => ∀ v σ' H' F', Step c ⟨n', σ', H', F'⟩ → Sim K ⟨n', σ', H', F'⟩ → Rep K H' F' a v → D.rt v H'
  | .brk n' => ∀ σ' H' F', Step c ⟨n', σ', H', F'⟩ → Sim K ⟨n', σ', H', F'⟩ → D.bk σ' H'
  | .ct n' => ∀ σ' H' F', Step c ⟨n', σ', H', F'⟩ → Sim K ⟨n', σ', H', F'⟩ → D.ct σ' H'
  | .err x n' => ∀ cls d σ' H' F', Step c ⟨n', σ', H', F'⟩ → Sim K ⟨n', σ', H', F'⟩ → XRep K mg H' F' x cls d → W cls d σ' H'
  | .bad => False

abbrev Rel (α β : Type) := Cf → Cf → α → β → Prop
/-- it may begin earlier -/
def Mono {α β : Type} (rel : Rel α β) : Prop := ∀ c c1 c2 a b, Step c c1 → rel c1 c2 a b → rel c c2 a b
def relE (K : PySem.W.Frag) : Rel PyData V := fun _ c d v => Rep K c.H c.F d v
def relT : Rel Bool Bool := fun _ _ a b => a = b
/-- a new list that no slot holds -/
def relO (K : PySem.W.Frag) : Rel (List PyData) V := fun c0 c xs v => ∃ (a : Addr) (ws : List V), v = .ref a ∧ c0.H a = none ∧ ¬ c.F a ∧ c.H a = some (.lst ws) ∧ ¬ c.Hd a ∧ Reps K c.H c.F xs ws
inductive AV where
  | v (d : PyData) | o (i : Nat)
def AVRep (K : PySem.W.Frag) (c : Cf) : AV → V → Prop
  | .v d, v => Rep K c.H c.F d v
  | .o i, v => c.s[i]? = some (some v)
def relA (K : PySem.W.Frag) : Rel (List AV) (List V) := fun _ c as vs => Paired (AVRep K c) as vs
def relL (K : PySem.W.Frag) : Rel (List PyData) (List V) := fun _ c as vs => Reps K c.H c.F as vs
theorem mono_E {K : PySem.W.Frag} : Mono (relE K) := fun _ _ _ _ _ _ h => h
theorem mono_T : Mono relT := fun _ _ _ _ _ _ h => h
theorem mono_A {K : PySem.W.Frag} : Mono (relA K) := fun _ _ _ _ _ _ h => h
theorem mono_L {K : PySem.W.Frag} : Mono (relL K) := fun _ _ _ _ _ _ h => h
theorem mono_O {K : PySem.W.Frag} : Mono (relO K) := fun _ _ _ _ _ st ⟨a, ws, e, h0, r⟩ => ⟨a, ws, e, Classical.byContradiction fun z => st.live a z h0, r⟩

section
variable {K : PySem.W.Frag} {mg : Str → Option Value} {W : WX} {α β γ δ : Type}
theorem Pst.step {rel : Rel α β} (mo : Mono rel) {c c1 : Cf} {Q : β → Hp → Prop} (hs : c1.s = c.s) (st : Step c c1) {r : R α} (h : Pst K mg W rel c Q r) : Pst K mg W rel c1 Q r := by
  cases r with
  | ok a n =>
    intro b H' F' s1 S1 r1
    rw [hs] at s1 S1 r1
    exact h b H' F' (st.trans s1) S1 (mo _ _ _ _ _ st r1)
  | err x n =>
    intro cls d H' F' s1 S1 r1
    rw [hs] at s1 S1 ⊢
    exact h cls d H' F' (st.trans s1) S1 r1
  | bad => exact h
theorem PstS.step {c c1 : Cf} {D : Ends} (st : Step c c1) {r : NR} (h : PstS K mg W c D r) : PstS K mg W c1 D r := by
  cases r with
  | nx n => exact fun σ' H' F' s1 S1 => h σ' H' F' (st.trans s1) S1
  | ret d n => exact fun v σ' H' F' s1 S1 => h v σ' H' F' (st.trans s1) S1
  | brk n => exact fun σ' H' F' s1 S1 => h σ' H' F' (st.trans s1) S1
  | ct n => exact fun σ' H' F' s1 S1 => h σ' H' F' (st.trans s1) S1
  | err x n => exact fun cls d σ' H' F' s1 S1 => h cls d σ' H' F' (st.trans s1) S1
  | bad => exact h
/-- one after the other -/
theorem Pst.seq {rel : Rel α β} {rel' : Rel γ δ} (mo : Mono rel') {c : Cf} {Q : β → Hp → Prop} {Q' : δ → Hp → Prop} {r : R α} {k : α → NSt → R γ} (h : Pst K mg W rel' c Q' (r.bind k))
    (hk : ∀ a n' b H' F', r = .ok a n' → Step c ⟨n', c.s, H', F'⟩ → Sim K ⟨n', c.s, H', F'⟩ → rel c ⟨n', c.s, H', F'⟩ a b → Pst K mg W rel' ⟨n', c.s, H', F'⟩ Q' (k a n') → Q b H') : Pst K mg W rel c Q r := by
  cases r with
  | ok a n =>
    intro b H' F' s1 S1 r1
    exact hk a n b H' F' rfl s1 S1 r1 (Pst.step (c := c) (c1 := ⟨n, c.s, H', F'⟩) mo rfl s1 h)
  | err x n => exact h
  | bad => exact h
theorem Pst.seqS {rel : Rel α β} {c : Cf} {Q : β → Hp → Prop} {D : Ends} {r : R α} {k : α → NSt → NR} (h : PstS K mg W c D (r.st k))
    (hk : ∀ a n' b H' F', r = .ok a n' → Step c ⟨n', c.s, H', F'⟩ → Sim K ⟨n', c.s, H', F'⟩ → rel c ⟨n', c.s, H', F'⟩ a b → PstS K mg W ⟨n', c.s, H', F'⟩ D (k a n') → Q b H') : Pst K mg W rel c Q r := by
  cases r with
  | ok a n =>
    intro b H' F' s1 S1 r1
    exact hk a n b H' F' rfl s1 S1 r1 (PstS.step (c := c) (c1 := ⟨n, c.s, H', F'⟩) s1 h)
  | err x n => exact fun cls d H' F' s1 S1 r1 => h cls d c.s H' F' s1 S1 r1
  | bad => exact h
end

/-! ### what heaps do -/
section
variable {K : PySem.W.Frag} {c : Cf}
theorem SlRep.keep {c c' : Cf} (S : Sim K c) (fr : ∀ a, c.F a → c'.F a ∧ c'.H a = c.H a) (k : ∀ a, c.H a ≠ none → c'.H a = c.H a) (g : ∀ a, c'.F a → c.F a ∨ c.H a = none) {sl : Sl} {v : V} (r : SlRep K c.H c.F sl v) : SlRep K c'.H c'.F sl v := by
  cases sl with
  | val d => exact Rep.keep fr d v r
  | own xs =>
    obtain ⟨a, ws, e, nf, q, z⟩ := r
    have n : c.H a ≠ none := by rw [q]; simp
    refine ⟨a, ws, e, fun f => ?_, (k a n).trans q, Reps.keep fr xs ws z⟩
    rcases g a f with f | f
    · exact nf f
    · exact n f
  | lent xs =>
    obtain ⟨a, ws, e, nf, q, z⟩ := r
    have n : c.H a ≠ none := by rw [q]; simp
    refine ⟨a, ws, e, fun f => ?_, (k a n).trans q, Reps.keep fr xs ws z⟩
    rcases g a f with f | f
    · exact nf f
    · exact n f
  | scr xs =>
    obtain ⟨a, ns, e, e2, z⟩ := r
    refine ⟨a, ns, e, e2, ?_⟩
    rcases z with ⟨o, z⟩ | z
    · exact .inl ⟨o, (k a (by rw [z]; simp)).trans z⟩
    · exact .inr z
/-- new things are laid, some of them frozen -/
theorem Sim.ext (S : Sim K c) {H' : Hp} {F' : Fz} (k : ∀ a, c.H a ≠ none → H' a = c.H a) (f : ∀ a, c.F a → F' a) (g : ∀ a, F' a → c.F a ∨ (c.H a = none ∧ H' a ≠ none)) :
    Sim K ⟨c.n, c.s, H', F'⟩ ∧ Step c ⟨c.n, c.s, H', F'⟩ := by
  refine ⟨⟨S.len, fun i sl e => ?_, S.sep, fun a h => ?_⟩, ⟨fun a n _ => k a n, fun a n => by show H' a ≠ none; rw [k a n]; exact n, f, fun a h => ?_, fun a h => .inl h, fun a h => .inl h, fun i xs e => ⟨xs, e, rfl⟩, rfl⟩⟩
  · obtain ⟨v, e1, r⟩ := S.slot i sl e
    exact ⟨v, e1, SlRep.keep (c' := ⟨c.n, c.s, H', F'⟩) S (fun a h => ⟨f a h, k a (S.fz a h)⟩) k (fun a h => (g a h).elim .inl fun z => .inr z.1) r⟩
  · rcases g a h with z | z
    · show H' a ≠ none
      rw [k a (S.fz a z)]; exact S.fz a z
    · exact z.2
  · rcases g a h with z | z
    · exact .inl z
    · exact .inr (.inl z.1)
def orEq (F : Fz) (p : Addr) : Fz := fun a => F a ∨ a = p
theorem upd_old {H : Hp} {p : Addr} {o : HO} (hp : H p = none) : ∀ a, H a ≠ none → upd H p o a = H a := fun a n => upd_ne fun z => n (by rw [z]; exact hp)
/-- a new tuple -/
theorem Sim.newTup (S : Sim K c) {p : Addr} {ws : List V} {ds : List PyData} (hp : c.H p = none) (r : Reps K c.H c.F ds ws) :
    let c' : Cf := ⟨c.n, c.s, upd c.H p (.tup ws), orEq c.F p⟩; Sim K c' ∧ Step c c' ∧ Rep K c'.H c'.F (.tuple ds) (.ref p) := by
  intro c'
  obtain ⟨h1, h2⟩ := S.ext (H' := upd c.H p (.tup ws)) (F' := orEq c.F p) (upd_old hp) (fun _ h => .inl h) fun a h => h.elim .inl fun z => .inr (by subst z; exact ⟨hp, by rw [upd_same]; simp⟩)
  exact ⟨h1, h2, Rep.mkTup (.inr rfl) upd_same (h2.reps S r)⟩
/-- a new list, held by none -/
theorem Sim.newLst (S : Sim K c) {p : Addr} {ws : List V} {ds : List PyData} (hp : c.H p = none) (r : Reps K c.H c.F ds ws) :
    let c' : Cf := ⟨c.n, c.s, upd c.H p (.lst ws), c.F⟩; Sim K c' ∧ Step c c' ∧ relO K c c' ds (.ref p) := by
  intro c'
  obtain ⟨h1, h2⟩ := S.ext (H' := upd c.H p (.lst ws)) (F' := c.F) (upd_old hp) (fun _ h => h) fun a h => .inl h
  refine ⟨h1, h2, p, ws, rfl, hp, fun f => S.fz p f hp, upd_same, fun hd => ?_, h2.reps S r⟩
  exact S.hdH (show c.Hd p from hd) hp
/-- a list that none holds is frozen -/
theorem Sim.freeze {c c0 : Cf} (S0 : Sim K c0) (st : Step c0 c) (S : Sim K c) {ds : List PyData} {v : V} (r : relO K c0 c ds v) :
    ∃ F', let c' : Cf := ⟨c.n, c.s, c.H, F'⟩; Sim K c' ∧ Step c0 c' ∧ Rep K c'.H c'.F (.list ds) v := by
  obtain ⟨p, ws, rfl, h0, nf, hH, nh, r⟩ := r
  refine ⟨orEq c.F p, ?_⟩
  have fr : ∀ a, c.F a → orEq c.F p a ∧ c.H a = c.H a := fun a f => ⟨.inl f, rfl⟩
  refine ⟨⟨S.len, fun i sl e => ?_, S.sep, fun a h => ?_⟩, ⟨st.keep, st.live, fun a f => .inl (st.fz a f), fun a h => ?_, st.hd, st.ow, st.mu, st.ln⟩, Rep.mkList (.inr rfl) hH (Reps.keep fr _ _ r)⟩
  · obtain ⟨v, e1, q⟩ := S.slot i sl e
    refine ⟨v, e1, ?_⟩
    have hne : sl.held = true → v ≠ .ref p := fun hh z => nh ⟨i, sl, e, hh, by rw [e1, z]⟩
    cases sl with
    | val d => exact Rep.keep fr d v q
    | scr d => exact q
    | own xs =>
      obtain ⟨a, us, e3, nfa, q1, q2⟩ := q
      subst e3
      refine ⟨a, us, rfl, fun z => ?_, q1, Reps.keep fr _ _ q2⟩
      rcases z with z | z
      · exact nfa z
      · subst z; exact hne rfl rfl
    | lent xs =>
      obtain ⟨a, us, e3, nfa, q1, q2⟩ := q
      subst e3
      refine ⟨a, us, rfl, fun z => ?_, q1, Reps.keep fr _ _ q2⟩
      rcases z with z | z
      · exact nfa z
      · subst z; exact hne rfl rfl
  · rcases h with h | h
    · exact S.fz a h
    · subst h
      show c.H a ≠ none
      rw [hH]; simp
  · rcases h with h | h
    · exact st.fn a h
    · subst h; exact .inr (.inl h0)

theorem getD_set_self {n : NSt} {i : Nat} {x : Option Sl} (h : i < n.length) : (n.set i x)[i]? = some x := List.getElem?_set_self h
theorem lt_of_get {α : Type} {l : List α} {i : Nat} {x : α} (h : l[i]? = some x) : i < l.length := (List.getElem?_eq_some_iff.mp h).1
def notLent (n : NSt) (i : Nat) : Bool := match n[i]? with
  | some (some (.lent _)) => false
  | some _ => true
  | none => false
theorem notLent_ok {n : NSt} {i : Nat} (h : notLent n i = true) : i < n.length ∧ ∀ xs, n[i]? ≠ some (some (.lent xs)) := by
  unfold notLent at h
  cases q : n[i]? with
  | none => rw [q] at h; cases h
  | some o =>
    refine ⟨lt_of_get q, fun xs e => ?_⟩
    have e2 : o = some (.lent xs) := Option.some.inj e
    subst e2
    rw [q] at h; cases h
/-- a slot takes a value -/
theorem Sim.setVal (S : Sim K c) {i : Nat} {d : PyData} {v : V} (hl : notLent c.n i = true) (r : Rep K c.H c.F d v) :
    let c' : Cf := ⟨c.n.set i (some (.val d)), c.s.set i (some v), c.H, c.F⟩; Sim K c' ∧ Step c c' := by
  intro c'
  obtain ⟨hi, nl⟩ := notLent_ok hl
  have hi' : i < c.s.length := by rw [← S.len]; exact hi
  have old : ∀ j sl, (c.n.set i (some (.val d)))[j]? = some (some sl) → sl.held = true → j ≠ i ∧ c.n[j]? = some (some sl) := fun j sl e hh => by
    by_cases hj : i = j
    · subst hj
      rw [List.getElem?_set_self hi] at e
      cases e; cases hh
    · rw [List.getElem?_set_ne hj] at e
      exact ⟨fun z => hj z.symm, e⟩
  have oldS : ∀ {j a}, j ≠ i → (c.s.set i (some v))[j]? = some (some (V.ref a)) → c.s[j]? = some (some (V.ref a)) := fun hj e => by
    rw [List.getElem?_set_ne (Ne.symm hj)] at e; exact e
  have hd : ∀ a, c'.Hd a → c.Hd a := fun a ⟨j, sl, e, hh, es⟩ => by
    obtain ⟨hj, e1⟩ := old j sl e hh
    exact ⟨j, sl, e1, hh, oldS hj es⟩
  have ow : ∀ a, c'.Ow a → c.Ow a := fun a ⟨j, xs, e, es⟩ => by
    obtain ⟨hj, e1⟩ := old j _ e rfl
    exact ⟨j, xs, e1, oldS hj es⟩
  refine ⟨⟨by simp [c', S.len], fun j sl e => ?_, fun j k sj sk a e1 e2 h1 h2 q1 q2 => ?_, S.fz⟩, ⟨fun _ _ _ => rfl, fun _ h => h, fun _ h => h, fun _ h => .inl h, fun a h => .inl (hd a h), fun a h => .inl (ow a h), fun j xs e => ?_, by simp [c']⟩⟩
  · show ∃ w, (c.s.set i (some v))[j]? = some (some w) ∧ _
    by_cases hj : i = j
    · subst hj
      have e' : (c.n.set i (some (.val d)))[i]? = some (some sl) := e
      rw [List.getElem?_set_self hi] at e'
      cases e'
      exact ⟨v, List.getElem?_set_self hi', r⟩
    · have e' : (c.n.set i (some (.val d)))[j]? = some (some sl) := e
      rw [List.getElem?_set_ne hj] at e'
      rw [List.getElem?_set_ne hj]
      exact S.slot j sl e'
  · obtain ⟨hj, e1⟩ := old j sj e1 h1
    obtain ⟨hk, e2⟩ := old k sk e2 h2
    exact S.sep j k sj sk a e1 e2 h1 h2 (oldS hj q1) (oldS hk q2)
  · have hj : i ≠ j := fun z => by subst z; exact nl xs e
    exact ⟨xs, by show (c.n.set i _)[j]? = _; rw [List.getElem?_set_ne hj]; exact e, by show (c.s.set i _)[j]? = _; rw [List.getElem?_set_ne hj]⟩
/-- a slot takes a new list as its own -/
theorem Sim.setOwn {c0 : Cf} (st : Step c0 c) (S : Sim K c) {i : Nat} {ds : List PyData} {v : V} (hl : notLent c.n i = true) (r : relO K c0 c ds v) :
    let c' : Cf := ⟨c.n.set i (some (.own ds)), c.s.set i (some v), c.H, c.F⟩; Sim K c' ∧ Step c0 c' := by
  intro c'
  obtain ⟨p, ws, rfl, h0, nf, hH, nh, r⟩ := r
  obtain ⟨hi, nl⟩ := notLent_ok hl
  have hi' : i < c.s.length := by rw [← S.len]; exact hi
  have old : ∀ j sl, j ≠ i → (c.n.set i (some (.own ds)))[j]? = some (some sl) → c.n[j]? = some (some sl) := fun j sl hj e => by
    rw [List.getElem?_set_ne (Ne.symm hj)] at e; exact e
  have oldS : ∀ {j a}, j ≠ i → (c.s.set i (some (V.ref p)))[j]? = some (some (V.ref a)) → c.s[j]? = some (some (V.ref a)) := fun hj e => by
    rw [List.getElem?_set_ne (Ne.symm hj)] at e; exact e
  have atI : ∀ {a}, (c.s.set i (some (V.ref p)))[i]? = some (some (V.ref a)) → a = p := fun e => by
    rw [List.getElem?_set_self hi'] at e
    cases e; rfl
  have hd : ∀ a, c'.Hd a → c.Hd a ∨ a = p := fun a ⟨j, sl, e, hh, es⟩ => by
    by_cases hj : j = i
    · subst hj; exact .inr (atI es)
    · exact .inl ⟨j, sl, old j sl hj e, hh, oldS hj es⟩
  have ow : ∀ a, c'.Ow a → c.Ow a ∨ a = p := fun a ⟨j, xs, e, es⟩ => by
    by_cases hj : j = i
    · subst hj; exact .inr (atI es)
    · exact .inl ⟨j, xs, old j _ hj e, oldS hj es⟩
  have st2 : Step c c → True := fun _ => trivial
  refine ⟨⟨by simp [c', S.len], fun j sl e => ?_, fun j k sj sk a e1 e2 h1 h2 q1 q2 => ?_, S.fz⟩, ⟨st.keep, st.live, st.fz, st.fn, fun a h => ?_, fun a h => ?_, fun j xs e => ?_, by show (c.n.set i _).length = _; rw [List.length_set]; exact st.ln⟩⟩
  · show ∃ w, (c.s.set i (some (V.ref p)))[j]? = some (some w) ∧ _
    by_cases hj : j = i
    · subst hj
      have e' : (c.n.set j (some (.own ds)))[j]? = some (some sl) := e
      rw [List.getElem?_set_self hi] at e'
      cases e'
      exact ⟨_, List.getElem?_set_self hi', p, ws, rfl, nf, hH, r⟩
    · have e' := old j sl hj e
      rw [List.getElem?_set_ne (Ne.symm hj)]
      exact S.slot j sl e'
  · by_cases hj : j = i
    · by_cases hk : k = i
      · rw [hj, hk]
      · subst hj
        have z := atI q1
        subst z
        exact (nh ⟨k, sk, old k sk hk e2, h2, oldS hk q2⟩).elim
    · by_cases hk : k = i
      · subst hk
        have z := atI q2
        subst z
        exact (nh ⟨j, sj, old j sj hj e1, h1, oldS hj q1⟩).elim
      · exact S.sep j k sj sk a (old j sj hj e1) (old k sk hk e2) h1 h2 (oldS hj q1) (oldS hk q2)
  · rcases hd a h with z | z
    · exact st.hd a z
    · subst z; exact .inr h0
  · rcases ow a h with z | z
    · exact st.ow a z
    · subst z; exact .inr h0
  · obtain ⟨ys, e1, e2⟩ := st.mu j xs e
    have hj : i ≠ j := fun z => by subst z; exact nl ys e1
    exact ⟨ys, by show (c.n.set i _)[j]? = _; rw [List.getElem?_set_ne hj]; exact e1, by show (c.s.set i _)[j]? = _; rw [List.getElem?_set_ne hj]; exact e2⟩
def Sl.put (sl : Sl) (ys : List PyData) : Sl := match sl with
  | .own _ => .own ys
  | .lent _ => .lent ys
  | s => s
def Sl.list? : Sl → Option (List PyData)
  | .own xs => some xs
  | .lent xs => some xs
  | _ => none
/-- what a held slot holds -/
theorem Sim.held (S : Sim K c) {i : Nat} {sl : Sl} {xs : List PyData} (e : c.n[i]? = some (some sl)) (h : sl.list? = some xs) :
    sl.held = true ∧ ∃ a ws, c.s[i]? = some (some (.ref a)) ∧ ¬ c.F a ∧ c.H a = some (.lst ws) ∧ Reps K c.H c.F xs ws := by
  obtain ⟨v, e1, r⟩ := S.slot i sl e
  cases sl with
  | val d => cases h
  | scr d => cases h
  | own ys =>
    cases h
    obtain ⟨a, ws, rfl, q⟩ := r
    exact ⟨rfl, a, ws, e1, q⟩
  | lent ys =>
    cases h
    obtain ⟨a, ws, rfl, q⟩ := r
    exact ⟨rfl, a, ws, e1, q⟩
/-- a held list is changed -/
theorem Sim.write (S : Sim K c) {i : Nat} {sl : Sl} {a : Addr} {ws us : List V} {ys : List PyData} (e : c.n[i]? = some (some sl)) (hh : sl.held = true) (es : c.s[i]? = some (some (.ref a))) (nf : ¬ c.F a) (hH : c.H a = some (.lst ws)) (r : Reps K c.H c.F ys us) :
    let c' : Cf := ⟨c.n.set i (some (sl.put ys)), c.s, upd c.H a (.lst us), c.F⟩; Sim K c' ∧ Step c c' := by
  intro c'
  have hi : i < c.n.length := lt_of_get e
  have hput : (sl.put ys).held = true := by cases sl <;> first | rfl | exact hh
  have fr : ∀ b, c.F b → c.F b ∧ upd c.H a (.lst us) b = c.H b := fun b f => ⟨f, upd_ne fun z => by subst z; exact nf f⟩
  have old : ∀ j sj, j ≠ i → c'.n[j]? = some (some sj) → c.n[j]? = some (some sj) := fun j sj hj q => by
    have q' : (c.n.set i (some (sl.put ys)))[j]? = some (some sj) := q
    rw [List.getElem?_set_ne (Ne.symm hj)] at q'; exact q'
  have hdI : c.Hd a := ⟨i, sl, e, hh, es⟩
  have hd : ∀ b, c'.Hd b → c.Hd b := fun b ⟨j, sj, q, qh, qs⟩ => by
    by_cases hj : j = i
    · subst hj
      exact ⟨j, sl, e, hh, qs⟩
    · exact ⟨j, sj, old j sj hj q, qh, qs⟩
  have ow : ∀ b, c'.Ow b → c.Ow b := fun b ⟨j, xs, q, qs⟩ => by
    by_cases hj : j = i
    · subst hj
      have q' : (c.n.set j (some (sl.put ys)))[j]? = some (some (.own xs)) := q
      rw [List.getElem?_set_self hi] at q'
      cases sl with
      | own zs => exact ⟨j, zs, e, qs⟩
      | lent zs => cases q'
      | val d => cases hh
      | scr d => cases hh
    · exact ⟨j, xs, old j _ hj q, qs⟩
  refine ⟨⟨by simp [c', S.len], fun j sj q => ?_, fun j k sj sk b e1 e2 h1 h2 q1 q2 => ?_, fun b f => ?_⟩, ⟨fun b n nh => upd_ne fun z => by subst z; exact nh hdI, fun b n => ?_, fun _ h => h, fun _ h => .inl h, fun b h => .inl (hd b h), fun b h => .inl (ow b h), fun j xs q => ?_, by simp [c']⟩⟩
  · show ∃ w, c.s[j]? = some (some w) ∧ SlRep K (upd c.H a (.lst us)) c.F sj w
    by_cases hj : j = i
    · subst hj
      have q' : (c.n.set j (some (sl.put ys)))[j]? = some (some sj) := q
      rw [List.getElem?_set_self hi] at q'
      cases q'
      refine ⟨_, es, ?_⟩
      have rr : Reps K (upd c.H a (.lst us)) c.F ys us := Reps.keep fr _ _ r
      cases sl with
      | own zs => exact ⟨a, us, rfl, nf, upd_same, rr⟩
      | lent zs => exact ⟨a, us, rfl, nf, upd_same, rr⟩
      | val d => cases hh
      | scr d => cases hh
    · obtain ⟨w, w1, rw'⟩ := S.slot j sj (old j sj hj q)
      refine ⟨w, w1, ?_⟩
      have ne : sj.held = true → ∀ b, w = .ref b → b ≠ a := fun sh b z zz => by
        subst z; subst zz
        exact hj (S.sep j i sj sl b (old j sj hj q) e sh hh w1 es)
      cases sj with
      | val d => exact Rep.keep fr d w rw'
      | own zs =>
        obtain ⟨b, vs, rfl, nb, hb, rb⟩ := rw'
        exact ⟨b, vs, rfl, nb, (upd_ne (ne rfl b rfl)).trans hb, Reps.keep fr _ _ rb⟩
      | lent zs =>
        obtain ⟨b, vs, rfl, nb, hb, rb⟩ := rw'
        exact ⟨b, vs, rfl, nb, (upd_ne (ne rfl b rfl)).trans hb, Reps.keep fr _ _ rb⟩
      | scr zs =>
        obtain ⟨b, ns, rfl, e3, z⟩ := rw'
        refine ⟨b, ns, rfl, e3, ?_⟩
        rcases z with ⟨o, z⟩ | z
        · refine .inl ⟨o, (upd_ne fun y => ?_).trans z⟩
          subst y; rw [hH] at z; cases z
        · exact .inr z
  · have low : ∀ (j : Nat) (sj : Sl), c'.n[j]? = some (some sj) → sj.held = true → ∃ s' : Sl, c.n[j]? = some (some s') ∧ s'.held = true := fun j sj q qh => by
      by_cases hj : j = i
      · subst hj; exact ⟨sl, e, hh⟩
      · exact ⟨sj, old j sj hj q, qh⟩
    obtain ⟨s1, z1, y1⟩ := low j sj e1 h1
    obtain ⟨s2, z2, y2⟩ := low k sk e2 h2
    exact S.sep j k s1 s2 b z1 z2 y1 y2 q1 q2
  · show upd c.H a (.lst us) b ≠ none
    rw [(fr b f).2]; exact S.fz b f
  · show upd c.H a (.lst us) b ≠ none
    by_cases hb : b = a
    · subst hb; rw [upd_same]; simp
    · rw [upd_ne hb]; exact n
  · by_cases hj : j = i
    · subst hj
      rw [e] at q
      cases q
      exact ⟨ys, by show (c.n.set j _)[j]? = _; rw [List.getElem?_set_self hi]; rfl, rfl⟩
    · exact ⟨xs, by show (c.n.set i _)[j]? = _; rw [List.getElem?_set_ne (Ne.symm hj)]; exact q, rfl⟩
/-- an own list is frozen where it stands -/
theorem Sim.frzSlot (S : Sim K c) {i : Nat} {xs : List PyData} (e : c.n[i]? = some (some (.own xs))) :
    ∃ a F', c.s[i]? = some (some (.ref a)) ∧ (let c' : Cf := ⟨c.n.set i (some (.val (.list xs))), c.s, c.H, F'⟩; Sim K c' ∧ Step c c' ∧ Rep K c'.H c'.F (.list xs) (.ref a)) := by
  obtain ⟨_, a, ws, es, nf, hH, r⟩ := S.held e rfl
  have hi : i < c.n.length := lt_of_get e
  have fr : ∀ b, c.F b → orEq c.F a b ∧ c.H b = c.H b := fun b f => ⟨.inl f, rfl⟩
  refine ⟨a, orEq c.F a, es, ?_⟩
  intro c'
  have rep : Rep K c.H (orEq c.F a) (.list xs) (.ref a) := Rep.mkList (.inr rfl) hH (Reps.keep fr _ _ r)
  have old : ∀ j sj, c'.n[j]? = some (some sj) → sj.held = true → j ≠ i ∧ c.n[j]? = some (some sj) := fun j sj q qh => by
    have q' : (c.n.set i (some (.val (.list xs))))[j]? = some (some sj) := q
    by_cases hj : i = j
    · subst hj
      rw [List.getElem?_set_self hi] at q'
      cases q'; cases qh
    · rw [List.getElem?_set_ne hj] at q'
      exact ⟨fun z => hj z.symm, q'⟩
  refine ⟨⟨by simp [c', S.len], fun j sj q => ?_, fun j k sj sk b e1 e2 h1 h2 q1 q2 => ?_, fun b f => ?_⟩, ⟨fun _ _ _ => rfl, fun _ h => h, fun b h => .inl h, fun b h => ?_, fun b h => ?_, fun b h => ?_, fun j ys q => ?_, by simp [c']⟩, rep⟩
  · show ∃ w, c.s[j]? = some (some w) ∧ SlRep K c.H (orEq c.F a) sj w
    by_cases hj : i = j
    · subst hj
      have q' : (c.n.set i (some (.val (.list xs))))[i]? = some (some sj) := q
      rw [List.getElem?_set_self hi] at q'
      cases q'
      exact ⟨_, es, rep⟩
    · have q' : (c.n.set i (some (.val (.list xs))))[j]? = some (some sj) := q
      rw [List.getElem?_set_ne hj] at q'
      obtain ⟨w, w1, rw'⟩ := S.slot j sj q'
      refine ⟨w, w1, ?_⟩
      have ne : sj.held = true → ∀ b, w = .ref b → b ≠ a := fun sh b z zz => by
        subst z; subst zz
        exact hj (S.sep i j _ sj b e q' rfl sh es w1)
      cases sj with
      | val d => exact Rep.keep fr d w rw'
      | own zs =>
        obtain ⟨b, vs, rfl, nb, hb, rb⟩ := rw'
        exact ⟨b, vs, rfl, fun z => z.elim nb (ne rfl b rfl), hb, Reps.keep fr _ _ rb⟩
      | lent zs =>
        obtain ⟨b, vs, rfl, nb, hb, rb⟩ := rw'
        exact ⟨b, vs, rfl, fun z => z.elim nb (ne rfl b rfl), hb, Reps.keep fr _ _ rb⟩
      | scr zs => exact rw'
  · obtain ⟨_, e1⟩ := old j sj e1 h1
    obtain ⟨_, e2⟩ := old k sk e2 h2
    exact S.sep j k sj sk b e1 e2 h1 h2 q1 q2
  · rcases f with f | f
    · exact S.fz b f
    · subst f
      show c.H b ≠ none
      rw [hH]; simp
  · rcases h with h | h
    · exact .inl h
    · subst h; exact .inr (.inr ⟨i, xs, e, es⟩)
  · obtain ⟨j, sj, q, qh, qs⟩ := h
    obtain ⟨_, q1⟩ := old j sj q qh
    exact .inl ⟨j, sj, q1, qh, qs⟩
  · obtain ⟨j, ys, q, qs⟩ := h
    obtain ⟨_, q1⟩ := old j _ q rfl
    exact .inl ⟨j, ys, q1, qs⟩
  · have hj : i ≠ j := fun z => by subst z; rw [e] at q; cases q
    exact ⟨ys, by show (c.n.set i _)[j]? = _; rw [List.getElem?_set_ne hj]; exact q, rfl⟩
end
end NL
end L2
/-! NL3: expressions. -/
namespace L2
namespace NL
open PySem PySem.Spec PyProof.Rows

/-- a value, or a held list read where it stands -/
def Rep1 (K : PySem.W.Frag) (H : Hp) (F : Fz) (d : PyData) (v : V) : Prop :=
  Rep K H F d v ∨ ∃ (a : Addr) (ws : List V) (xs : List PyData), d = .list xs ∧ v = .ref a ∧ H a = some (.lst ws) ∧ Reps K H F xs ws
def Reps1 (K : PySem.W.Frag) (H : Hp) (F : Fz) (ds : List PyData) (vs : List V) : Prop := Paired (Rep1 K H F) ds vs
section
variable {K : PySem.W.Frag} {H : Hp} {F : Fz}
theorem Rep1.dp {d : PyData} {v : V} (r : Rep1 K H F d v) (l : d.canLay0 = true) : Dp K H v d := by
  rcases r with r | ⟨a, ws, xs, rfl, rfl, h, r⟩
  · exact Rep.dp d v r l
  · unfold PyData.canLay0 at l
    exact .lst (SqL.of h) (Reps.dp xs ws r l)
theorem Rep1.int {i : Int} {v : V} (r : Rep1 K H F (.int i) v) : v = .int i := by
  rcases r with r | ⟨a, ws, xs, e, _⟩
  · exact r.int
  · cases e
theorem Rep1.bool {i : Bool} {v : V} (r : Rep1 K H F (.bool i) v) : v = .bl i := by
  rcases r with r | ⟨a, ws, xs, e, _⟩
  · exact r.bool
  · cases e
theorem Rep1.str {i : Str} {v : V} (r : Rep1 K H F (.str i) v) : v = .str i := by
  rcases r with r | ⟨a, ws, xs, e, _⟩
  · exact r.str
  · cases e
theorem Rep1.none {v : V} (r : Rep1 K H F .none v) : v = .non := by
  rcases r with r | ⟨a, ws, xs, e, _⟩
  · exact r.none
  · cases e
theorem Rep1.tuple {ds : List PyData} {v : V} (r : Rep1 K H F (.tuple ds) v) : ∃ a xs, v = .ref a ∧ SqT K H a xs ∧ Reps K H F ds xs := by
  rcases r with r | ⟨a, ws, xs, e, _⟩
  · exact r.tuple
  · cases e
theorem Rep1.list {ds : List PyData} {v : V} (r : Rep1 K H F (.list ds) v) : ∃ a xs, v = .ref a ∧ H a = some (.lst xs) ∧ Reps K H F ds xs := by
  rcases r with r | ⟨a, ws, xs, e, e2, h, r⟩
  · obtain ⟨a, xs, e, _, h, r⟩ := r.list
    exact ⟨a, xs, e, h, r⟩
  · cases e
    exact ⟨a, ws, e2, h, r⟩
theorem Rep1.dict {ds : List (PyData × PyData)} {v : V} (r : Rep1 K H F (.dict ds) v) : Rep K H F (.dict ds) v := by
  rcases r with r | ⟨a, ws, xs, e, _⟩
  · exact r
  · cases e
end

/-- an operand: an expression, or a held slot -/
inductive Opd where
  | e (f : NExp) | o (i : Nat)
def Opd.run (p : Opd) (n : NSt) : R AV := match p with
  | .e f => (f n).bind fun d n' => .ok (.v d) n'
  | .o i => match n[i]? with
    | some (some (.val d)) => .ok (.v d) n
    | some (some _) => .ok (.o i) n
    | _ => .bad
def AV.get (a : AV) (n : NSt) : Option PyData := match a with
  | .v d => some d
  | .o i => match n[i]? with
    | some (some sl) => sl.list?.map PyData.list
    | _ => none
def liftO {α : Type} (o : Option α) (n : NSt) : R α := match o with
  | some z => .ok z n
  | none => .bad
structure NE (X : Cx) (W : WX) (e : Expr) (f : NExp) : Prop where
  ex : ∃ t, PE X e t ∧ ∀ (c : Cf) (Q : VK), Sim X.K c → Pst X.K X.mg W (relE X.K) c Q (f c.n) → t c.s c.H Q
structure NEo (X : Cx) (W : WX) (e : Expr) (f : NSt → R (List PyData)) : Prop where
  ex : ∃ t, PE X e t ∧ ∀ (c : Cf) (Q : VK), Sim X.K c → Pst X.K X.mg W (relO X.K) c Q (f c.n) → t c.s c.H Q
def relV (K : PySem.W.Frag) : Rel AV V := fun _ c a v => AVRep K c a v
theorem mono_V {K : PySem.W.Frag} : Mono (relV K) := fun _ _ _ _ _ _ h => h
structure NO (X : Cx) (W : WX) (e : Expr) (p : Opd) : Prop where
  ex : ∃ t, PE X e t ∧ ∀ (c : Cf) (Q : VK), Sim X.K c → Pst X.K X.mg W (relV X.K) c Q (p.run c.n) → t c.s c.H Q
structure NT (X : Cx) (W : WX) (e : Expr) (f : NSt → R Bool) : Prop where
  ex : ∃ t, PT X e t ∧ ∀ (c : Cf) (Q : Bool → Hp → Prop), Sim X.K c → Pst X.K X.mg W relT c Q (f c.n) → t c.s c.H Q
structure NA (X : Cx) (W : WX) (es : List Expr) (f : NSt → R (List AV)) : Prop where
  ex : ∃ t, PA X es t ∧ ∀ (c : Cf) (Q : List V → Hp → Prop), Sim X.K c → Pst X.K X.mg W (relA X.K) c Q (f c.n) → t c.s c.H Q

section
variable {X : Cx} {W : WX} {e e2 : Expr} {f g : NExp}
theorem Sim.avGet {K : PySem.W.Frag} {c : Cf} (S : Sim K c) {a : AV} {d : PyData} {v : V} (r : AVRep K c a v) (h : a.get c.n = some d) : Rep1 K c.H c.F d v := by
  cases a with
  | v x =>
    have e : x = d := Option.some.inj h
    subst e
    exact .inl r
  | o i =>
    unfold AV.get at h
    dsimp only at h
    split at h
    · rename_i sl q
      cases z : sl.list? with
      | none => rw [z] at h; cases h
      | some xs =>
        rw [z] at h
        have e : PyData.list xs = d := Option.some.inj h
        subst e
        obtain ⟨_, b, ws, es, _, hH, rr⟩ := S.held q z
        have r' : c.s[i]? = some (some v) := r
        rw [es] at r'
        cases r'
        exact .inr ⟨b, ws, xs, rfl, rfl, hH, rr⟩
    · cases h
theorem AVRep.step {K : PySem.W.Frag} {c c' : Cf} (st : Step c c') (S : Sim K c) (hs : c'.s = c.s) {a : AV} {v : V} (r : AVRep K c a v) : AVRep K c' a v := by
  cases a with
  | v d => exact st.rep S r
  | o i =>
    show c'.s[i]? = some (some v)
    rw [hs]; exact r

theorem no_e (h : NE X W e f) : NO X W e (.e f) := by
  obtain ⟨t, pe, s⟩ := h.ex
  refine ⟨t, pe, fun c Q S p => s c Q S ?_⟩
  exact Pst.seq (rel := relE X.K) (rel' := relV X.K) mono_V p fun d n' v H' F' _ st S' r q => q v H' F' (Step.refl _) S' r
theorem no_o (i : Nat) {x : Str} {pos : Pos} (hN : X.N[i]? = some x := by rfl) (hv : Vis X.env.scope x := by first | exact Or.inl rfl | exact Or.inr (Or.inl rfl) | exact Or.inr (Or.inr rfl)) (hd : (x == ("__debug__" : Str)) = false := by decide)
    (hcd : (x == ("__classdict__" : Str)) = false := by decide) : NO X W (.Name x pos) (.o i) := by
  refine ⟨tVar i, pe_var hN hv hd hcd, fun c Q S p => ?_⟩
  unfold Opd.run at p
  dsimp only at p
  split at p
  · rename_i d e
    obtain ⟨v, e1, r⟩ := S.slot i _ e
    exact ⟨v, e1, p v c.H c.F (Step.refl _) S r⟩
  · rename_i sl _ e
    obtain ⟨v, e1, _⟩ := S.slot i _ e
    exact ⟨v, e1, p v c.H c.F (Step.refl _) S e1⟩
  · exact p.elim

/-! ### names, constants -/
def nV (i : Nat) : NExp := fun n => match n[i]? with
  | some (some (.val d)) => .ok d n
  | _ => .bad
theorem ne_v (i : Nat) {x : Str} {pos : Pos} (hN : X.N[i]? = some x := by rfl) (hv : Vis X.env.scope x := by first | exact Or.inl rfl | exact Or.inr (Or.inl rfl) | exact Or.inr (Or.inr rfl)) (hd : (x == ("__debug__" : Str)) = false := by decide)
    (hcd : (x == ("__classdict__" : Str)) = false := by decide) : NE X W (.Name x pos) (nV i) := by
  refine ⟨tVar i, pe_var hN hv hd hcd, fun c Q S p => ?_⟩
  unfold nV at p
  split at p
  · rename_i d e
    obtain ⟨v, e1, r⟩ := S.slot i _ e
    exact ⟨v, e1, p v c.H c.F (Step.refl _) S r⟩
  · exact p.elim
/-- an own list, frozen as it is read -/
def nF (i : Nat) : NExp := fun n => match n[i]? with
  | some (some (.own xs)) => .ok (.list xs) (n.set i (some (.val (.list xs))))
  | some (some (.val d)) => .ok d n
  | _ => .bad
theorem ne_f (i : Nat) {x : Str} {pos : Pos} (hN : X.N[i]? = some x := by rfl) (hv : Vis X.env.scope x := by first | exact Or.inl rfl | exact Or.inr (Or.inl rfl) | exact Or.inr (Or.inr rfl)) (hd : (x == ("__debug__" : Str)) = false := by decide)
    (hcd : (x == ("__classdict__" : Str)) = false := by decide) : NE X W (.Name x pos) (nF i) := by
  refine ⟨tVar i, pe_var hN hv hd hcd, fun c Q S p => ?_⟩
  unfold nF at p
  split at p
  · rename_i xs e
    obtain ⟨a, F', e1, S', st, r⟩ := S.frzSlot e
    exact ⟨_, e1, p _ c.H F' st S' r⟩
  · rename_i d e
    obtain ⟨v, e1, r⟩ := S.slot i _ e
    exact ⟨v, e1, p v c.H c.F (Step.refl _) S r⟩
  · exact p.elim
def nC (d : PyData) : NExp := fun n => .ok d n
theorem ne_c {d : PyData} {v : V} (h : PE X e (tC v)) (r : ∀ H F, Rep X.K H F d v) : NE X W e (nC d) := ⟨tC v, h, fun c Q S p => p v c.H c.F (Step.refl _) S (r _ _)⟩
theorem ne_int {i : Int} {j pos} : NE X W (.Constant (.int i) j pos) (nC (.int i)) := ne_c pe_int fun _ _ => Rep.mkInt
theorem ne_bool {i : Bool} {j pos} : NE X W (.Constant (.bool i) j pos) (nC (.bool i)) := ne_c pe_bl fun _ _ => Rep.mkBool
theorem ne_none {j pos} : NE X W (.Constant .none j pos) (nC .none) := ne_c pe_non fun _ _ => Rep.mkNone
theorem ne_str {i : Str} {j pos} : NE X W (.Constant (.str i) j pos) (nC (.str i)) := ne_c pe_str fun _ _ => Rep.mkStr
/-- what the written part says a module's name is -/
def Gv (K : PySem.W.Frag) (mg : Str → Option Value) (x : Str) (d : PyData) : Prop := ∃ v u, mg x = some u ∧ RelV v u ∧ ∀ H F, Rep K H F d v
theorem ne_g {x : Str} {pos : Pos} {d : PyData} (g : Gv X.K X.mg x d) (hg : Gl X x := by rfl) (hd : (x == ("__debug__" : Str)) = false := by decide) : NE X W (.Name x pos) (nC d) := by
  obtain ⟨v, u, hm, r, q⟩ := g
  exact ne_c (pe_glob hg hm r hd) q

/-! ### operators -/
def Op2 (X : Cx) (r : R2) (o : PyData → PyData → Option PyData) : Prop := ∀ (c : Cf) (x y z : PyData) (vx vy : V) (Q : VK), Sim X.K c → Rep1 X.K c.H c.F x vx → Rep1 X.K c.H c.F y vy → o x y = some z →
  (∀ v H' F', Step c ⟨c.n, c.s, H', F'⟩ → Sim X.K ⟨c.n, c.s, H', F'⟩ → Rep X.K H' F' z v → Q v H') → r vx vy c.H Q
def nOp2 (o : PyData → PyData → Option PyData) (p q : Opd) : NExp := fun n => (p.run n).bind fun a n1 => (q.run n1).bind fun b n2 => match a.get n2, b.get n2 with
  | some x, some y => liftO (o x y) n2
  | _, _ => .bad
/-- two operands, then what is asked of both -/
theorem two {p q : Opd} {ta tb : TE} {o : PyData → PyData → Option PyData} {r : R2} (sa : ∀ (c : Cf) (Q : VK), Sim X.K c → Pst X.K X.mg W (relV X.K) c Q (p.run c.n) → ta c.s c.H Q)
    (sb : ∀ (c : Cf) (Q : VK), Sim X.K c → Pst X.K X.mg W (relV X.K) c Q (q.run c.n) → tb c.s c.H Q) (no : Op2 X r o) {c : Cf} {Q : VK} (S : Sim X.K c) (h : Pst X.K X.mg W (relE X.K) c Q (nOp2 o p q c.n)) :
    ta c.s c.H fun x H1 => tb c.s H1 fun y H2 => r x y H2 Q := by
  refine sa c _ S (Pst.seq (rel := relV X.K) mono_E h fun a n1 vx H1 F1 _ st1 S1 rx h1 => ?_)
  refine sb ⟨n1, c.s, H1, F1⟩ _ S1 (Pst.seq (rel := relV X.K) mono_E h1 fun b n2 vy H2 F2 _ st2 S2 ry h2 => ?_)
  cases ea : a.get n2 with
  | none => rw [ea] at h2; exact h2.elim
  | some x =>
    cases eb : b.get n2 with
    | none => rw [ea, eb] at h2; exact h2.elim
    | some y =>
      rw [ea, eb] at h2
      dsimp only at h2
      cases eo : o x y with
      | none => rw [eo] at h2; exact h2.elim
      | some z =>
        rw [eo] at h2
        exact no ⟨n2, c.s, H2, F2⟩ x y z vx vy Q S2 (S2.avGet (AVRep.step st2 S1 rfl rx) ea) (S2.avGet ry eb) eo fun v H' F' st' S' r' => h2 v H' F' st' S' r'
theorem ne_op {op : Operator} {r : R2} {o : PyData → PyData → Option PyData} {p q : Opd} {pos : Pos} (ho : OpR X (binaryOp op) r) (no : Op2 X r o) (ha : NO X W e p) (hb : NO X W e2 q) : NE X W (.BinOp e op e2 pos) (nOp2 o p q) := by
  obtain ⟨ta, pa, sa⟩ := ha.ex
  obtain ⟨tb, pb, sb⟩ := hb.ex
  exact ⟨tOp r ta tb, pe_op ho pa pb, fun c Q S h => two sa sb no S h⟩
theorem ne_cmp {op : CmpOp} {r : R2} {o : PyData → PyData → Option PyData} {p q : Opd} {pos : Pos} (ho : OpR X (compareOp op) r) (no : Op2 X r o) (ha : NO X W e p) (hb : NO X W e2 q) (hm : behindInMarks op e2 = false) : NE X W (.Compare e [op] [e2] pos) (nOp2 o p q) := by
  obtain ⟨ta, pa, sa⟩ := ha.ex
  obtain ⟨tb, pb, sb⟩ := hb.ex
  exact ⟨tOp r ta tb, pe_cmpR ho pa pb hm, fun c Q S h => two sa sb no S h⟩
/-- a value that is a truth value, as a test -/
def asB (f : NExp) : NSt → R Bool := fun n => (f n).bind fun d n' => match d with
  | .bool b => .ok b n'
  | _ => .bad
theorem asB_st {c : Cf} {t : TE} {Q : Bool → Hp → Prop} (s : ∀ (c : Cf) (Q : VK), Sim X.K c → Pst X.K X.mg W (relE X.K) c Q (f c.n) → t c.s c.H Q) (S : Sim X.K c) (h : Pst X.K X.mg W relT c Q (asB f c.n)) :
    t c.s c.H fun x H' => ∃ k, x = .bl k ∧ Q k H' := by
  refine s c _ S (Pst.seq (rel := relE X.K) (rel' := relT) mono_T h fun d n' v H' F' _ st S' r q => ?_)
  cases d with
  | bool b => exact ⟨b, Rep.bool (K := X.K) (H := H') (F := F') r, q b H' F' (Step.refl _) S' rfl⟩
  | _ => exact q.elim
theorem nt_cmp {op : CmpOp} {r : R2} {o : PyData → PyData → Option PyData} {p q : Opd} {pos : Pos} (ho : OpR X (compareOp op) r) (no : Op2 X r o) (ha : NO X W e p) (hb : NO X W e2 q) (hm : behindInMarks op e2 = false) : NT X W (.Compare e [op] [e2] pos) (asB (nOp2 o p q)) := by
  obtain ⟨ta, pa, sa⟩ := ha.ex
  obtain ⟨tb, pb, sb⟩ := hb.ex
  exact ⟨tTest (tOp r ta tb), pt_cmpR ho pa pb hm, fun c Q S h => asB_st (t := tOp r ta tb) (fun c Q S h => two sa sb no S h) S h⟩
/-- any expression whose test is its value's truth value -/
theorem nt_b (h : NE X W e f) (he : ∀ whole, isTrue e X.env whole = (do let v ← whole; standAt e.pos; holding [v] (truthy v)) := by intro _; rfl) : NT X W e (asB f) := by
  obtain ⟨t, pe, s⟩ := h.ex
  exact ⟨_, pt_val pe he, fun c Q S p => asB_st s S p⟩
def truthOf : PyData → Option Bool
  | .none => some false
  | .bool b => some b
  | .int i => some (i != 0)
  | .str y => if y.length ≤ sizeLine then some ((y.length : Int) != 0) else none
  | .list xs => some !xs.isEmpty
  | .tuple xs => some !xs.isEmpty
  | .dict _ => none
theorem Reps.isEmpty {K : PySem.W.Frag} {H : Hp} {F : Fz} : ∀ {ds : List PyData} {vs : List V}, Reps K H F ds vs → vs.isEmpty = ds.isEmpty
  | [], _, r => by unfold Reps at r; subst r; rfl
  | d :: ds, _, r => by
    unfold Reps at r
    obtain ⟨v, vs, rfl, _, _⟩ := r
    rfl
theorem truthOf_ok {K : PySem.W.Frag} {H : Hp} {F : Fz} {d : PyData} {v : V} {k : Bool} (r : Rep1 K H F d v) (h : truthOf d = some k) : TruV K v H k := by
  cases d with
  | none => rw [r.none]; cases h; rfl
  | bool b => rw [r.bool]; cases h; rfl
  | int i => rw [r.int]; cases h; rfl
  | str y =>
    rw [r.str]
    have h : (if y.length ≤ sizeLine then some ((y.length : Int) != 0) else Option.none) = some k := h
    split at h
    · rename_i q
      cases h
      exact ⟨q, rfl⟩
    · cases h
  | list xs =>
    obtain ⟨a, ws, rfl, h1, r1⟩ := r.list
    cases h
    exact .inl ⟨ws, SqL.of h1, by rw [r1.isEmpty]⟩
  | tuple xs =>
    obtain ⟨a, ws, rfl, h1, r1⟩ := r.tuple
    cases h
    exact .inr (.inl ⟨ws, h1, by rw [r1.isEmpty]⟩)
  | dict kvs => cases h
def asT (p : Opd) : NSt → R Bool := fun n => (p.run n).bind fun a n' => match a.get n' with
  | some d => liftO (truthOf d) n'
  | none => .bad
/-- any expression's truth -/
theorem nt_t {p : Opd} (h : NO X W e p) (he : ∀ whole, isTrue e X.env whole = (do let v ← whole; standAt e.pos; holding [v] (truthy v)) := by intro _; rfl) : NT X W e (asT p) := by
  obtain ⟨t, pe, s⟩ := h.ex
  refine ⟨_, pt_truth pe he, fun c Q S q => ?_⟩
  refine s c _ S (Pst.seq (rel := relV X.K) (rel' := relT) mono_T q fun a n' v H' F' _ st S' r q' => ?_)
  cases ea : a.get n' with
  | none => rw [ea] at q'; exact q'.elim
  | some d =>
    rw [ea] at q'
    dsimp only at q'
    cases ed : truthOf d with
    | none => rw [ed] at q'; exact q'.elim
    | some k =>
      rw [ed] at q'
      exact ⟨k, truthOf_ok (S'.avGet r ea) ed, q' k H' F' (Step.refl _) S' rfl⟩

/-! ### and, or, not, if else -/
def tAnd' (f g : NSt → R Bool) : NSt → R Bool := fun n => (f n).bind fun b n' => if b = true then g n' else .ok false n'
def tOr' (f g : NSt → R Bool) : NSt → R Bool := fun n => (f n).bind fun b n' => if b = true then .ok true n' else g n'
def tNot' (f : NSt → R Bool) : NSt → R Bool := fun n => (f n).bind fun b n' => .ok (!b) n'
structure NW (X : Cx) (W : WX) (e : Expr) (f : NSt → R Bool) : Prop where
  ex : ∃ t, PW X e t ∧ ∀ (c : Cf) (Q : Bool → Hp → Prop), Sim X.K c → Pst X.K X.mg W relT c Q (f c.n) → t c.s c.H Q
section
variable {a b : Expr} {rest : List Expr} {pos : Pos} {fa fb : NSt → R Bool} {va vb : NExp}
theorem NW.t (h : NW X W e fa) : NT X W e fa := let ⟨t, p, s⟩ := h.ex; ⟨t, p.pt, s⟩
theorem nw_and1 (h : NT X W a fa) : NW X W (.BoolOp .And [a] pos) fa := let ⟨t, p, s⟩ := h.ex; ⟨t, pw_and1 p, s⟩
theorem nw_or1 (h : NT X W a fa) : NW X W (.BoolOp .Or [a] pos) fa := let ⟨t, p, s⟩ := h.ex; ⟨t, pw_or1 p, s⟩
theorem nw_and (ha : NT X W a fa) (hb : NW X W (.BoolOp .And (b :: rest) pos) fb) : NW X W (.BoolOp .And (a :: b :: rest) pos) (tAnd' fa fb) := by
  obtain ⟨ta, pa, sa⟩ := ha.ex
  obtain ⟨tb, pb, sb⟩ := hb.ex
  refine ⟨tAnd ta tb, pw_and pa pb, fun c Q S h => ?_⟩
  refine sa c _ S (Pst.seq (rel := relT) (rel' := relT) mono_T h fun k n' k' H' F' _ st S' r q => ?_)
  cases r
  cases k with
  | true => exact iteT (sb ⟨n', c.s, H', F'⟩ Q S' q)
  | false => exact iteF (q false H' F' (Step.refl _) S' rfl)
theorem nw_or (ha : NT X W a fa) (hb : NW X W (.BoolOp .Or (b :: rest) pos) fb) : NW X W (.BoolOp .Or (a :: b :: rest) pos) (tOr' fa fb) := by
  obtain ⟨ta, pa, sa⟩ := ha.ex
  obtain ⟨tb, pb, sb⟩ := hb.ex
  refine ⟨tOr ta tb, pw_or pa pb, fun c Q S h => ?_⟩
  refine sa c _ S (Pst.seq (rel := relT) (rel' := relT) mono_T h fun k n' k' H' F' _ st S' r q => ?_)
  cases r
  cases k with
  | true => exact iteT (q true H' F' (Step.refl _) S' rfl)
  | false => exact iteF (sb ⟨n', c.s, H', F'⟩ Q S' q)
theorem nt_not (ha : NT X W a fa) : NT X W (.UnaryOp .Not a pos) (tNot' fa) := by
  obtain ⟨ta, pa, sa⟩ := ha.ex
  refine ⟨tNot ta, pt_not pa, fun c Q S h => ?_⟩
  refine sa c _ S (Pst.seq (rel := relT) (rel' := relT) mono_T h fun k n' k' H' F' _ st S' r q => ?_)
  cases r
  exact q (!k) H' F' (Step.refl _) S' rfl
def nAnd (f g : NExp) : NExp := fun n => (f n).bind fun d n' => match d with
  | .bool true => g n'
  | .bool false => .ok (.bool false) n'
  | _ => .bad
def nOr (f g : NExp) : NExp := fun n => (f n).bind fun d n' => match d with
  | .bool true => .ok (.bool true) n'
  | .bool false => g n'
  | _ => .bad
def nNot (f : NExp) : NExp := fun n => (f n).bind fun d n' => match d with
  | .bool b => .ok (.bool (!b)) n'
  | _ => .bad
theorem ne_one {op} (h : NE X W a va) : NE X W (.BoolOp op [a] pos) va := let ⟨t, p, s⟩ := h.ex; ⟨t, pe_one p, s⟩
theorem ne_and (ha : NE X W a va) (hb : NE X W (.BoolOp .And (b :: rest) pos) vb) : NE X W (.BoolOp .And (a :: b :: rest) pos) (nAnd va vb) := by
  obtain ⟨ta, pa, sa⟩ := ha.ex
  obtain ⟨tb, pb, sb⟩ := hb.ex
  refine ⟨tAndV ta tb, pe_and pa pb, fun c Q S h => ?_⟩
  refine sa c _ S (Pst.seq (rel := relE X.K) (rel' := relE X.K) mono_E h fun d n' v H' F' _ st S' r q => ?_)
  cases d with
  | bool k =>
    refine ⟨k, Rep.bool (K := X.K) (H := H') (F := F') r, ?_⟩
    cases k with
    | true => exact iteT (sb ⟨n', c.s, H', F'⟩ Q S' q)
    | false => exact iteF (q _ H' F' (Step.refl _) S' Rep.mkBool)
  | _ => exact q.elim
theorem ne_or (ha : NE X W a va) (hb : NE X W (.BoolOp .Or (b :: rest) pos) vb) : NE X W (.BoolOp .Or (a :: b :: rest) pos) (nOr va vb) := by
  obtain ⟨ta, pa, sa⟩ := ha.ex
  obtain ⟨tb, pb, sb⟩ := hb.ex
  refine ⟨tOrV ta tb, pe_or pa pb, fun c Q S h => ?_⟩
  refine sa c _ S (Pst.seq (rel := relE X.K) (rel' := relE X.K) mono_E h fun d n' v H' F' _ st S' r q => ?_)
  cases d with
  | bool k =>
    refine ⟨k, Rep.bool (K := X.K) (H := H') (F := F') r, ?_⟩
    cases k with
    | true => exact iteT (q _ H' F' (Step.refl _) S' Rep.mkBool)
    | false => exact iteF (sb ⟨n', c.s, H', F'⟩ Q S' q)
  | _ => exact q.elim
theorem ne_not (ha : NE X W a va) : NE X W (.UnaryOp .Not a pos) (nNot va) := by
  obtain ⟨ta, pa, sa⟩ := ha.ex
  refine ⟨tNotV ta, pe_not pa, fun c Q S h => ?_⟩
  refine sa c _ S (Pst.seq (rel := relE X.K) (rel' := relE X.K) mono_E h fun d n' v H' F' _ st S' r q => ?_)
  cases d with
  | bool k => exact ⟨k, Rep.bool (K := X.K) (H := H') (F := F') r, q _ H' F' (Step.refl _) S' Rep.mkBool⟩
  | _ => exact q.elim
def nIf (t : NSt → R Bool) (f g : NExp) : NExp := fun n => (t n).bind fun b n' => if b = true then f n' else g n'
theorem ne_if {c : Expr} {ft : NSt → R Bool} (hc : NT X W c ft) (ha : NE X W a va) (hb : NE X W b vb) : NE X W (.IfExp c a b pos) (nIf ft va vb) := by
  obtain ⟨tc, pc, sc⟩ := hc.ex
  obtain ⟨ta, pa, sa⟩ := ha.ex
  obtain ⟨tb, pb, sb⟩ := hb.ex
  refine ⟨tIf tc ta tb, pe_ifExp pc pa pb, fun c Q S h => ?_⟩
  refine sc c _ S (Pst.seq (rel := relT) (rel' := relE X.K) mono_E h fun k n' k' H' F' _ st S' r q => ?_)
  cases r
  cases k with
  | true => exact iteT (sa ⟨n', c.s, H', F'⟩ Q S' q)
  | false => exact iteF (sb ⟨n', c.s, H', F'⟩ Q S' q)
end
/-! ### unary -/
def nNeg (f : NExp) : NExp := fun n => (f n).bind fun d n' => match d with
  | .int i => .ok (.int (-i)) n'
  | _ => .bad
theorem ne_neg {pos : Pos} (ha : NE X W e f) : NE X W (.UnaryOp .USub e pos) (nNeg f) := by
  obtain ⟨ta, pa, sa⟩ := ha.ex
  refine ⟨tUn (rU fun i => .int (-i)) ta, pe_un un_neg pa, fun c Q S h => ?_⟩
  refine sa c _ S (Pst.seq (rel := relE X.K) (rel' := relE X.K) mono_E h fun d n' v H' F' _ st S' r q => ?_)
  cases d with
  | int k => exact ⟨k, Rep.int (K := X.K) (H := H') (F := F') r, q _ H' F' (Step.refl _) S' Rep.mkInt⟩
  | _ => exact q.elim
/-! ### argument lists -/
def aNil : NSt → R (List AV) := fun n => .ok [] n
def aCons (p : Opd) (f : NSt → R (List AV)) : NSt → R (List AV) := fun n => (p.run n).bind fun a n1 => (f n1).bind fun as n2 => .ok (a :: as) n2
theorem na_nil : NA X W [] aNil := ⟨tNil, pa_nil, fun c Q S h => h [] c.H c.F (Step.refl _) S .nil⟩
theorem Paired.mapAV {K : PySem.W.Frag} {c c' : Cf} (st : Step c c') (S : Sim K c) (hs : c'.s = c.s) : ∀ {as : List AV} {vs : List V}, Paired (AVRep K c) as vs → Paired (AVRep K c') as vs
  | _, _, .nil => .nil
  | _, _, .cons r t => .cons (AVRep.step st S hs r) (Paired.mapAV st S hs t)
theorem na_cons {es : List Expr} {p : Opd} {fs : NSt → R (List AV)} (ha : NO X W e p) (hr : NA X W es fs) (hs : starEach (e :: es) X.env = (false, eval e X.env) :: starEach es X.env := by rfl) : NA X W (e :: es) (aCons p fs) := by
  obtain ⟨ta, pa, sa⟩ := ha.ex
  obtain ⟨tr, pr, sr⟩ := hr.ex
  refine ⟨tCons ta tr, pa_cons pa pr hs, fun c Q S h => ?_⟩
  refine sa c _ S (Pst.seq (rel := relV X.K) (rel' := relA X.K) mono_A h fun a n1 v H1 F1 _ st1 S1 r1 h1 => ?_)
  refine sr ⟨n1, c.s, H1, F1⟩ _ S1 (Pst.seq (rel := relA X.K) (rel' := relA X.K) mono_A h1 fun as n2 vs H2 F2 _ st2 S2 r2 h2 => ?_)
  exact h2 (v :: vs) H2 F2 (Step.refl _) S2 (.cons (AVRep.step st2 S1 rfl r1) r2)
def getAll (n : NSt) : List AV → Option (List PyData)
  | [] => some []
  | a :: as => match a.get n, getAll n as with
    | some d, some ds => some (d :: ds)
    | _, _ => none
theorem Sim.getAll {K : PySem.W.Frag} {c : Cf} (S : Sim K c) : ∀ {as : List AV} {vs : List V} {ds : List PyData}, Paired (AVRep K c) as vs → NL.getAll c.n as = some ds → Reps1 K c.H c.F ds vs
  | _, _, _, .nil, h => by cases h; exact .nil
  | a :: as, v :: vs, ds, .cons r t, h => by
    unfold NL.getAll at h
    cases e1 : a.get c.n with
    | none => rw [e1] at h; cases h
    | some d =>
      cases e2 : NL.getAll c.n as with
      | none => rw [e1, e2] at h; cases h
      | some ds' =>
        rw [e1, e2] at h
        cases h
        exact .cons (S.avGet r e1) (S.getAll t e2)
/-- a built-in's call, by values -/
def CallN (X : Cx) (r : List V → Hp → VK → Prop) (o : List PyData → Option PyData) : Prop := ∀ (c : Cf) (ds : List PyData) (z : PyData) (vs : List V) (Q : VK), Sim X.K c → Reps1 X.K c.H c.F ds vs → o ds = some z →
  (∀ v H' F', Step c ⟨c.n, c.s, H', F'⟩ → Sim X.K ⟨c.n, c.s, H', F'⟩ → Rep X.K H' F' z v → Q v H') → r vs c.H Q
def nCB (o : List PyData → Option PyData) (fs : NSt → R (List AV)) : NExp := fun n => (fs n).bind fun as n1 => match getAll n1 as with
  | some ds => liftO (o ds) n1
  | none => .bad
theorem cb_st {fs : NSt → R (List AV)} {t : TA} {r : List V → Hp → VK → Prop} {o : List PyData → Option PyData} (s : ∀ (c : Cf) (Q : List V → Hp → Prop), Sim X.K c → Pst X.K X.mg W (relA X.K) c Q (fs c.n) → t c.s c.H Q) (no : CallN X r o)
    {c : Cf} {Q : VK} (S : Sim X.K c) (h : Pst X.K X.mg W (relE X.K) c Q (nCB o fs c.n)) : t c.s c.H fun vs H1 => r vs H1 Q := by
  refine s c _ S (Pst.seq (rel := relA X.K) (rel' := relE X.K) mono_E h fun as n1 vs H1 F1 _ st1 S1 r1 h1 => ?_)
  cases e : NL.getAll n1 as with
  | none => rw [e] at h1; exact h1.elim
  | some ds =>
    rw [e] at h1
    dsimp only at h1
    cases eo : o ds with
    | none => rw [eo] at h1; exact h1.elim
    | some z =>
      rw [eo] at h1
      exact no ⟨n1, c.s, H1, F1⟩ ds z vs Q S1 (S1.getAll r1 e) eo fun v H' F' st' S' r' => h1 v H' F' st' S' r'
theorem ne_cb {x : Str} {p pos : Pos} {es : List Expr} {fs : NSt → R (List AV)} {id : String} {r : List V → Hp → VK → Prop} {o : List PyData → Option PyData} (hc : CallR X (.builtin id) r) (no : CallN X r o) (hm : X.mg x = none) (hv : bootBuiltins x = some (.builtin id)) (ha : NA X W (e :: es) fs)
    (hg : Gl X x := by rfl) (hn : x ≠ "__name__" := by decide) (hdb : (x == ("__debug__" : Str)) = false := by decide)
    (he : starEach (e :: es) X.env = (false, eval e X.env) :: starEach es X.env := by rfl) (hpl : (backTo pos (starEach es X.env)).any (·.1) = false := by rfl) : NE X W (.Call (.Name x p) (e :: es) [] pos) (nCB o fs) := by
  obtain ⟨t, pa, s⟩ := ha.ex
  exact ⟨_, pe_callB hc hg hm hv pa hn hdb he hpl, fun c Q S h => cb_st s no S h⟩
theorem ne_cty {x : Str} {p pos : Pos} {es : List Expr} {fs : NSt → R (List AV)} {T : String} {r : List V → Hp → VK → Prop} {o : List PyData → Option PyData} (hc : CallR X (.type T) r) (no : CallN X r o) (hm : X.mg x = none) (hv : bootBuiltins x = some (.type T)) (ha : NA X W (e :: es) fs)
    (hg : Gl X x := by rfl) (hn : x ≠ "__name__" := by decide) (hdb : (x == ("__debug__" : Str)) = false := by decide)
    (he : starEach (e :: es) X.env = (false, eval e X.env) :: starEach es X.env := by rfl) (hpl : (backTo pos (starEach es X.env)).any (·.1) = false := by rfl) : NE X W (.Call (.Name x p) (e :: es) [] pos) (nCB o fs) := by
  obtain ⟨t, pa, s⟩ := ha.ex
  exact ⟨_, pe_callTy hc hg hm hv pa hn hdb he hpl, fun c Q S h => cb_st s no S h⟩
/-! ### displays -/
def nTup (fs : NSt → R (List AV)) : NExp := fun n => (fs n).bind fun as n1 => match plains as with
  | some ds => if ds.length ≤ sizeLine then .ok (.tuple ds) n1 else .bad
  | none => .bad
where plains : List AV → Option (List PyData)
  | [] => some []
  | .v d :: as => (plains as).map (d :: ·)
  | .o _ :: _ => none
theorem plains_ok {K : PySem.W.Frag} {c : Cf} : ∀ {as : List AV} {vs : List V} {ds : List PyData}, Paired (AVRep K c) as vs → nTup.plains as = some ds → Reps K c.H c.F ds vs
  | _, _, _, .nil, h => by cases h; exact Reps.nil
  | .v d :: as, v :: vs, ds, .cons r t, h => by
    unfold nTup.plains at h
    cases e : nTup.plains as with
    | none => rw [e] at h; cases h
    | some ds' =>
      rw [e] at h
      cases h
      exact Reps.cons r (plains_ok t e)
  | .o i :: as, _, _, .cons _ _, h => by cases h
theorem ne_tup {es : List Expr} {fs : NSt → R (List AV)} {x1} {pos : Pos} (h : NA X W es fs) : NE X W (.Tuple es x1 pos) (nTup fs) := by
  obtain ⟨t, pa, s⟩ := h.ex
  refine ⟨tTup t, pe_tup pa, fun c Q S h => ?_⟩
  refine s c _ S (Pst.seq (rel := relA X.K) (rel' := relE X.K) mono_E h fun as n1 vs H1 F1 _ st1 S1 r1 h1 => ?_)
  cases e : nTup.plains as with
  | none => rw [e] at h1; exact h1.elim
  | some ds =>
    rw [e] at h1
    dsimp only at h1
    split at h1
    · rename_i hz
      have rr : Reps X.K H1 F1 ds vs := plains_ok (c := ⟨n1, c.s, H1, F1⟩) r1 e
      refine ⟨by rw [rr.length]; exact hz, fun p hp => ?_⟩
      obtain ⟨S2, st2, r2⟩ := S1.newTup (p := p) hp rr
      exact h1 _ _ _ st2 S2 r2
    · exact h1.elim
def nLstO (fs : NSt → R (List AV)) : NSt → R (List PyData) := fun n => (fs n).bind fun as n1 => match nTup.plains as with
  | some ds => if ds.length ≤ sizeLine then .ok ds n1 else .bad
  | none => .bad
theorem neo_lst {es : List Expr} {fs : NSt → R (List AV)} {pos : Pos} (h : NA X W es fs) : NEo X W (.List es pos) (nLstO fs) := by
  obtain ⟨t, pa, s⟩ := h.ex
  refine ⟨tLst t, pe_lst pa, fun c Q S h => ?_⟩
  refine s c _ S (Pst.seq (rel := relA X.K) (rel' := relO X.K) mono_O h fun as n1 vs H1 F1 _ st1 S1 r1 h1 => ?_)
  cases e : nTup.plains as with
  | none => rw [e] at h1; exact h1.elim
  | some ds =>
    rw [e] at h1
    dsimp only at h1
    split at h1
    · rename_i hz
      have rr : Reps X.K H1 F1 ds vs := plains_ok (c := ⟨n1, c.s, H1, F1⟩) r1 e
      refine ⟨by rw [rr.length]; exact hz, fun p hp => ?_⟩
      obtain ⟨S2, st2, r2⟩ := S1.newLst (p := p) hp rr
      exact h1 _ _ _ st2 S2 r2
    · exact h1.elim
/-- a new list, frozen at once -/
def nL (f : NSt → R (List PyData)) : NExp := fun n => (f n).bind fun xs n' => .ok (.list xs) n'
theorem ne_l {fo : NSt → R (List PyData)} (h : NEo X W e fo) : NE X W e (nL fo) := by
  obtain ⟨t, pe, s⟩ := h.ex
  refine ⟨t, pe, fun c Q S h => ?_⟩
  refine s c _ S ?_
  unfold nL at h
  cases q : fo c.n with
  | ok xs n' =>
    rw [q] at h
    intro v H' F' st S' r
    obtain ⟨F2, S2, st2, r2⟩ := Sim.freeze S st S' r
    exact h v H' F2 st2 S2 r2
  | err x n' => rw [q] at h; exact h
  | bad => rw [q] at h; exact h
end
end NL
end L2
/-! NLrev: list(reversed(a list)). -/
namespace RT
open PySem PySem.Spec PyProof.Rows
section
variable {prog : Program} {w : World} {A : Around} {E : Value → Shared → Prop} {s : Shared}
theorem extend_rev {R : Result → Shared → Prop} {it l S : Addr} {items : Array Value} {res : Value} {c₀ : Nat} (hh : A.handled = none) (hit : s.heap.IsRevIter it l ((items.size : Int) - 1)) (hl : s.heap.IsList l items) (hn : items.size ≤ sizeLine)
    (hne : l ≠ it) (hSi : S ≠ it) (hSl : S ≠ l) (hS₁ : s.heap.get? S = some { cls := .type "list", data := .seq #[] c₀ })
    (hR : ∀ h' tk acc' c', (∀ b o, b ≠ S → b ≠ it → s.heap.get? b = some o → h'.get? b = some o) → h'.get? S = some { cls := .type "list", dict := none, data := .seq acc' c', slots := #[] } →
      ItemsOf (fun i v => items[items.size - 1 - i]? = some v) acc' items.size → R (.ok (.ret res)) { s with heap := h', toks := tk }) :
    wpAny (model prog w) A.in1 (Builtin.List.listExtendWith (.ref S) (.ref it) res)
      (fun fin s' => match fin with | .done f => R (.ok f) s' | .again c' => c'.quiet = true ∧ codeAny (model prog w) A c' R s') (fun e s' => R (.error e) s') s := by
  have W := (Walks.listRev (prog := prog) (w := w) (A := A.in1) hh it l hne items).toS
  have hSf : S ∉ [it, l] := by simp only [List.mem_cons, List.not_mem_nil, or_false, not_or]; exact ⟨hSi, hSl⟩
  have hT : s.TypeIs (.ref it) "list_reverseiterator" := hit.typeIs
  have h1 : Builtin.List.listSameRef (.ref S) (.ref it) = false := by simp [Builtin.List.listSameRef, hSi]
  unfold Builtin.List.listExtendWith
  refine wpAny_bind (wpAny_typeOf hT ?_)
  rw [if_neg (by rw [h1]; decide)]
  refine wpAny_bind (wpAny_pyIter_revIter hit ?_)
  refine wpAny_bind (wpAny_holding ?_)
  unfold Builtin.List.listLengthHint
  refine wpAny_bind (wpAny_specialOf hT nolen_lri ?_)
  show wpAny _ A.in1 (specialOf (Value.ref it) (Str.ofString "__length_hint__") >>= _) _ _ _
  refine wpAny_bind (wpAny_specialOf hT hint_lri ?_)
  generalize hid : ("list_reverseiterator.__length_hint__" : String) = id0
  wp_delta
  rw [show splitId id0 = some ("list_reverseiterator", "__length_hint__") from by subst hid; decide +kernel]
  subst hid
  refine wpAny_bind (wpAny_isInstance (b := true) hT (by rw [isSubtype_type]; kernel_rfl) ?_)
  refine wpAny_pure ?_
  have e0 : ((items.size : Nat) : Int) - 1 - ((0 : Nat) : Int) = (items.size : Int) - 1 := by omega
  have key : ∀ (h : Heap) (c₁ tk : Nat), h.IsRevIter it l ((items.size : Int) - 1) → h.IsList l items → (∀ b o, b ≠ S → s.heap.get? b = some o → h.get? b = some o) →
      h.get? S = some { cls := .type "list", data := .seq #[] c₁ } → codeAny (model prog w) A (.builtin "list.extend.loop" ⟨[.ref S, .ref it, res], []⟩) R { s with heap := h, toks := tk } := by
    intro h c₁ tk hit' hl' hk hS'
    refine codeAny_extend_loopS W hn S hSf res items.size 0 _ #[] c₁ rfl (Nat.zero_le _) ⟨Nat.zero_le _, by rw [e0]; exact hit', hl'⟩ hS' (ItemsOf.nil _) fun s' acc' c' hm hS2 hacc => ?_
    rw [Moved.eq_with hm]
    refine hR s'.heap s'.toks acc' c' (fun b o hb hb2 e => hm.heap b o (fun hmem => ?_) (hk b o hb e)) hS2 hacc
    rcases List.mem_cons.mp hmem with e' | hmem
    · exact hb e'
    · exact hb2 (List.mem_singleton.mp hmem)
  rw [if_neg (by decide)]
  exact wpAny_pure ⟨plainId_quiet F.plain_extend_loop _, key _ c₀ _ hit hl (fun b o _ e => e) hS₁⟩
theorem list_init_rev {R : Result → Shared → Prop} {it l S : Addr} {items : Array Value} (hh : A.handled = none) (hit : s.heap.IsRevIter it l ((items.size : Int) - 1)) (hl : s.heap.IsList l items) (hn : items.size ≤ sizeLine)
    (hne : l ≠ it) (hSi : S ≠ it) (hSl : S ≠ l) (hS : s.heap.get? S = some { cls := .type "list", data := .seq #[] })
    (hR : ∀ h' tk acc' c', (∀ b o, b ≠ S → b ≠ it → s.heap.get? b = some o → h'.get? b = some o) → h'.get? S = some { cls := .type "list", dict := none, data := .seq acc' c', slots := #[] } →
      ItemsOf (fun i v => items[items.size - 1 - i]? = some v) acc' items.size → R (.ok (.ret .none)) { s with heap := h', toks := tk }) :
    wpAny (model prog w) A.in1 (Builtin.«list.__init__» ⟨[.ref S, .ref it], []⟩)
      (fun fin s' => match fin with | .done f => R (.ok f) s' | .again c' => c'.quiet = true ∧ codeAny (model prog w) A c' R s') (fun e s' => R (.error e) s') s := by
  show wpAny _ _ (do let old ← Builtin.List.listItems (.ref S); Builtin.List.listUpdate (.ref S) (fun _ => #[]); letGo old.toList.reverse; Builtin.List.listExtendWith (.ref S) (.ref it) .none) _ _ s
  refine wpAny_bind ?_
  unfold Builtin.List.listItems
  refine wpAny_bind (wpAny_seqItems hS rfl (wpAny_pure ?_))
  show wpAny _ _ (updateSeq S (fun _ => #[]) >>= fun _ => letGo (#[] : Array Value).toList.reverse >>= fun _ => Builtin.List.listExtendWith (.ref S) (.ref it) .none) _ _ s
  refine wpAny_bind (wpAny_updateSeq hS rfl ?_)
  have hS₂ := Heap.get?_update_self (Obj.mapSeq (fun _ => (#[] : Array Value))) hS rfl
  have oth : ∀ b o, b ≠ S → s.heap.get? b = some o → (s.heap.update S (Obj.mapSeq (fun _ => (#[] : Array Value)))).get? b = some o :=
    fun b o hb e => (Heap.get?_update_other _ _ (Ne.symm hb)).trans e
  refine wpAny_bind (wpAny_letGo ?_)
  obtain ⟨ol, hol, hr⟩ := hl
  refine extend_rev (s := { s with heap := s.heap.update S (Obj.mapSeq (fun _ => (#[] : Array Value))) }) hh (hit.at fun o e => oth it o (Ne.symm hSi) e) ⟨ol, oth l ol (Ne.symm hSl) hol, hr⟩ hn hne hSi hSl hS₂ fun h' tk acc' c' hk hS' hacc => ?_
  exact hR h' tk acc' c' (fun b o hb hb2 e => hk b o hb hb2 (oth b o hb e)) hS' hacc
theorem call_list_rev {it l : Addr} {items : Array Value} {Q : Value → Shared → Prop} (hh : A.handled = none) (hit : s.heap.IsRevIter it l ((items.size : Int) - 1)) (hl : s.heap.IsList l items) (hne : l ≠ it) (hn : items.size ≤ sizeLine)
    (hQ : ∀ h' tk acc' c', (∀ b o, b ≠ it → s.heap.get? b = some o → h'.get? b = some o) →
      h'.get? s.heap.objs.size = some { cls := .type "list", dict := none, data := .seq acc' c', slots := #[] } → ItemsOf (fun i v => items[items.size - 1 - i]? = some v) acc' items.size → Q (.ref s.heap.objs.size) { s with heap := h', toks := tk }) :
    wpAny (model prog w) A (call (.type "list") [.ref it]) Q E s := by
  obtain ⟨oi, hoi, _⟩ := id hit
  obtain ⟨ol, hol, hr⟩ := id hl
  refine callType_codes (Q₁ := fun obj s₁ => obj = .ref s.heap.objs.size ∧ s₁ = { s with heap := s.heap.push { cls := .type "list", data := .seq #[] } }) F.called_list (F.typeCall_list_1 _) F.entry_list_init
    (code_list_new _ ⟨rfl, rfl⟩) fun obj s₁ h₁ => ?_
  obtain ⟨rfl, rfl⟩ := h₁
  have hS : (s.heap.push { cls := .type "list", data := .seq #[] }).get? s.heap.objs.size = some { cls := .type "list", data := .seq #[] } := Heap.get?_push_size _ rfl
  refine ⟨⟨_, hS, rfl⟩, F.args_list_init_2 _ _, list_init_rev (A := A.in1) hh (hit.at fun o e => Heap.get?_push_of_some _ e) (hl.push _) hn hne (Nat.ne_of_gt (Heap.lt_size hoi)) (Nat.ne_of_gt (Heap.lt_size hol)) hS fun h' tk acc' c' hk hS' hacc => ?_⟩
  exact ⟨rfl, hQ h' tk acc' c' (fun b o hb e => hk b o (Nat.ne_of_lt (Heap.lt_size e)) hb (Heap.get?_push_of_some _ e)) hS' hacc⟩
end
end RT
namespace L2
open PySem PySem.Spec PyProof.Rows RT
section
variable {X : Cx}
/-- list(reversed(x)), x a list: a new list -/
def tLstRev (K : PySem.W.Frag) (te : TE) : TE := fun σ H Q => te σ H fun v H1 => ∃ (a : Addr) (xs : List V), v = .ref a ∧ SqL K H1 a xs ∧ ∀ q, H1 q = none → Q (.ref q) (upd H1 q (.lst xs.reverse))
theorem pe_listRev {e : Expr} {te : TE} {p p2 pos pos2 : Pos} (hc : X.calm = true) (hg : Gl X "list") (hm : X.mg "list" = none) (hg2 : Gl X "reversed") (hm2 : X.mg "reversed" = none) (he : PE X e te)
    (hs : starEach [e] X.env = (false, eval e X.env) :: starEach [] X.env := by rfl)
    (hs2 : starEach [.Call (.Name "reversed" p2) [e] [] pos2] X.env = (false, eval (.Call (.Name "reversed" p2) [e] [] pos2) X.env) :: starEach [] X.env := by rfl) :
    PE X (.Call (.Name "list" p) [.Call (.Name "reversed" p2) [e] [] pos2] [] pos) (tLstRev X.K te) := by
  refine ⟨fun pins s σ H Q I h => ?_⟩
  refine Call_ (ld_blt I hg hm boot_list (PyProof.Rows.callWith_type1 (args_cons (Call_ (ld_blt I hg2 hm2 PyProof.Rows.boot_reversed (PyProof.Rows.callWith_type1 (args_cons (thn (he.run pins s σ H _ I h) fun u s1 ⟨v, H1, I1, r1, q1⟩ => args_nil ?_) hs) hs rfl))) hs2) hs2 rfl))
  obtain ⟨a, xs, ev, hq, q⟩ := q1
  subst ev
  obtain rfl : u = Value.ref a := r1
  obtain ⟨its, rv, p', hz⟩ := I1.list hq
  refine call_reversed_list p'.isList (args_nil ?_)
  have k0 : ∀ b o, s1.heap.get? b = some o → (s1.heap.push (revObj a ((its.toArray.size : Int) - 1))).get? b = some o := fun b o e => Heap.get?_push_of_some _ e
  have I2 : Inv X pins σ H1 { s1 with heap := s1.heap.push (revObj a ((its.toArray.size : Int) - 1)) } := I1.kept (t' := s1.toks) k0
  obtain ⟨f0, f1, f2, f3, f4, f5⟩ := I1.fpOk (H' := H1) (b := s1.heap.objs.size) (Nat.le_refl _) (I1.hok.fresh (Nat.le_refl _))
  have hl := p'.isList
  obtain ⟨ol, hol, _⟩ := id hl
  have hne : a ≠ s1.heap.objs.size := Nat.ne_of_lt (Heap.lt_size hol)
  have hn : its.toArray.size ≤ sizeLine := by rw [List.size_toArray, ← rv.length]; exact hz
  refine call_list_rev (s := { s1 with heap := s1.heap.push (revObj a ((its.toArray.size : Int) - 1)) }) (I1.ok.hd hc) ⟨_, Heap.get?_push_size _ rfl, rfl, rfl⟩ (hl.push _) hne hn fun h' tk acc c' hk e' hi => ?_
  have hfree : H1 (s1.heap.push (revObj a ((its.toArray.size : Int) - 1))).objs.size = none := I2.hok.fresh (Nat.le_refl _)
  have hlt : ∀ b o, s1.heap.get? b = some o → b < s1.heap.objs.size := fun b o e => Heap.lt_size e
  refine ⟨.ref (s1.heap.push (revObj a ((its.toArray.size : Int) - 1))).objs.size, upd H1 _ (.lst xs.reverse), ?_, rfl, q _ hfree⟩
  -- the iterator has turned; the new list stands
  refine I1.un (h' := h') (t' := tk) (Un.laid (fun b o e => hk b o (Nat.ne_of_lt (hlt b o e)) (k0 b o e)) (by rw [Heap.size_push]; exact Nat.le_succ _) hfree) ?_
  refine I1.hok.laid (fun b o e => hk b o (Nat.ne_of_lt (hlt b o e)) (k0 b o e)) (by rw [Heap.size_push]; exact Nat.le_succ _) ⟨by rw [List.length_reverse]; exact hz, acc.toList, c', vals_rev rv hi, ?_⟩
  rw [Array.toArray_toList]; exact e'
end
end L2
/-! NL4: the operators on plain data. -/
namespace L2
namespace NL
open PySem PySem.Spec PyProof.Rows

section
variable {X : Cx}
theorem Sim.stay {K : PySem.W.Frag} {c : Cf} (S : Sim K c) : Step c ⟨c.n, c.s, c.H, c.F⟩ ∧ Sim K ⟨c.n, c.s, c.H, c.F⟩ := ⟨Step.refl _, S⟩
/-- the answer needs no heap -/
theorem fin0 {K : PySem.W.Frag} {c : Cf} {z : PyData} {v : V} {Q : VK} (S : Sim K c) (h : ∀ v H' F', Step c ⟨c.n, c.s, H', F'⟩ → Sim K ⟨c.n, c.s, H', F'⟩ → Rep K H' F' z v → Q v H') (r : Rep K c.H c.F z v) : Q v c.H :=
  h v c.H c.F (Step.refl _) S r
theorem finTup {K : PySem.W.Frag} {c : Cf} {ds : List PyData} {ws : List V} {Q : VK} (S : Sim K c) (h : ∀ v H' F', Step c ⟨c.n, c.s, H', F'⟩ → Sim K ⟨c.n, c.s, H', F'⟩ → Rep K H' F' (.tuple ds) v → Q v H') (r : Reps K c.H c.F ds ws) :
    ∀ p, c.H p = none → Q (.ref p) (upd c.H p (.tup ws)) := fun p hp => by
  obtain ⟨S2, st2, r2⟩ := S.newTup (p := p) hp r
  exact h _ _ _ st2 S2 r2
theorem finLst {K : PySem.W.Frag} {c : Cf} {ds : List PyData} {ws : List V} {Q : VK} (S : Sim K c) (h : ∀ v H' F', Step c ⟨c.n, c.s, H', F'⟩ → Sim K ⟨c.n, c.s, H', F'⟩ → Rep K H' F' (.list ds) v → Q v H') (r : Reps K c.H c.F ds ws) :
    ∀ p, c.H p = none → Q (.ref p) (upd c.H p (.lst ws)) := fun p hp => by
  obtain ⟨S2, st2, r2⟩ := S.newLst (p := p) hp r
  obtain ⟨F', S3, st3, r3⟩ := Sim.freeze S st2 S2 r2
  exact h _ _ _ st3 S3 r3
theorem tup_refl {K : PySem.W.Frag} {H : Hp} {F : Fz} {d : PyData} {v : V} (r : Rep1 K H F d v) (h : ∀ xs, d ≠ .list xs) : Rep K H F d v := by
  rcases r with r | ⟨a, ws, xs, e, _⟩
  · exact r
  · exact absurd e (h xs)
/-! ### arithmetic -/
def oAdd : PyData → PyData → Option PyData
  | .int a, .int b => some (.int (a + b))
  | .str a, .str b => if a.length + b.length ≤ sizeLine then some (.str (a ++ b)) else none
  | .tuple a, .tuple b => if a.length + b.length ≤ sizeLine then some (.tuple (a ++ b)) else none
  | .list a, .list b => if a.length + b.length ≤ sizeLine then some (.list (a ++ b)) else none
  | _, _ => none
def rAddN (K : PySem.W.Frag) : R2 := fun x y H Q => rI0 (fun i j => .int (i + j)) x y H Q ∨ (∃ i j, x = .str i ∧ y = .str j ∧ i.length + j.length ≤ sizeLine ∧ Q (.str (i ++ j)) H) ∨ rCatA K x y H Q ∨ rCat x y H Q
theorem op_addN : OpR X (binaryOp .Add) (rAddN X.K) := op_add.or (op_add_str.or (op_catA.or op_cat))
theorem no_add : Op2 X (rAddN X.K) oAdd := by
  intro c x y z vx vy Q S rx ry e h
  unfold oAdd at e
  split at e
  · cases e
    exact .inl ⟨_, _, rx.int, ry.int, fin0 S h Rep.mkInt⟩
  · split at e
    · rename_i hz
      cases e
      exact .inr (.inl ⟨_, _, rx.str, ry.str, hz, fin0 S h Rep.mkStr⟩)
    · cases e
  · split at e
    · rename_i xs ys hz
      cases e
      obtain ⟨a, vs, rfl, ha, ra⟩ := rx.tuple
      obtain ⟨b, ws, rfl, hb, rb⟩ := ry.tuple
      refine .inr (.inr (.inl ⟨a, b, vs, ws, rfl, rfl, ha, hb, by rw [ra.length, rb.length]; exact hz, fun e1 => ?_, fun _ e1 => ?_, fun _ _ => finTup S h (ra.append rb)⟩))
      · have e2 : xs = [] := by
          have := ra.length
          rw [e1] at this
          exact List.length_eq_zero_iff.mp this.symm
        refine fin0 S h ?_
        rw [e2, List.nil_append]
        exact tup_refl ry fun _ z => by cases z
      · have e2 : ys = [] := by
          have := rb.length
          rw [e1] at this
          exact List.length_eq_zero_iff.mp this.symm
        refine fin0 S h ?_
        rw [e2, List.append_nil]
        exact tup_refl rx fun _ z => by cases z
    · cases e
  · split at e
    · rename_i hz
      cases e
      obtain ⟨a, vs, rfl, ha, ra⟩ := rx.list
      obtain ⟨b, ws, rfl, hb, rb⟩ := ry.list
      exact .inr (.inr (.inr ⟨a, b, vs, ws, rfl, rfl, ha, hb, by rw [ra.length, rb.length]; exact hz, finLst S h (ra.append rb)⟩))
    · cases e
  · cases e
def oSub : PyData → PyData → Option PyData
  | .int a, .int b => some (.int (a - b))
  | _, _ => none
theorem no_sub : Op2 X (rI0 fun i j => .int (i - j)) oSub := by
  intro c x y z vx vy Q S rx ry e h
  unfold oSub at e
  split at e
  · cases e
    exact ⟨_, _, rx.int, ry.int, fin0 S h Rep.mkInt⟩
  · cases e
instance {i j : Int} : Decidable (CMul i j) := by unfold CMul; infer_instance
instance {i j : Int} : Decidable (CMulW i j) := by unfold CMulW; infer_instance
instance {i j : Int} : Decidable (CDivN i j) := by unfold CDivN; infer_instance
instance {i j : Int} : Decidable (CDivW i j) := by unfold CDivW; infer_instance
instance {i j : Int} : Decidable (CPow i j) := by unfold CPow; infer_instance
def oMul : PyData → PyData → Option PyData
  | .int a, .int b => if CMul a b ∨ CMulW a b then some (.int (a * b)) else none
  | .list a, .int k => if -(2 ^ 63) ≤ k ∧ k < 2 ^ 63 ∧ a.length * k.toNat ≤ sizeLine then some (.list (List.replicate k.toNat a).flatten) else none
  | .tuple a, .int k => if a ≠ [] ∧ 2 ≤ k ∧ k ≤ 1000 ∧ a.length ≤ 1000 then some (.tuple (List.replicate k.toNat a).flatten) else none
  | _, _ => none
def rMulN (K : PySem.W.Frag) : R2 := fun x y H Q => rI CMul (fun i j => .int (i * j)) x y H Q ∨ rI CMulW (fun i j => .int (i * j)) x y H Q ∨ rRep x y H Q ∨ rRepT K x y H Q
theorem op_mulN : OpR X (binaryOp .Mult) (rMulN X.K) := op_mul.or (op_mulW.or (op_rep.or op_repT))
theorem no_mul : Op2 X (rMulN X.K) oMul := by
  intro c x y z vx vy Q S rx ry e h
  unfold oMul at e
  split at e
  · split at e
    · rename_i hz
      cases e
      rcases hz with hz | hz
      · exact .inl ⟨_, _, rx.int, ry.int, hz, fin0 S h Rep.mkInt⟩
      · exact .inr (.inl ⟨_, _, rx.int, ry.int, hz, fin0 S h Rep.mkInt⟩)
    · cases e
  · split at e
    · rename_i hz
      cases e
      obtain ⟨a, vs, rfl, ha, ra⟩ := rx.list
      exact .inr (.inr (.inl ⟨a, _, vs, rfl, ry.int, ha, hz.1, hz.2.1, by rw [ra.length]; exact hz.2.2, finLst S h (ra.rep _)⟩))
    · cases e
  · split at e
    · rename_i xs k hz
      cases e
      obtain ⟨a, vs, rfl, ha, ra⟩ := rx.tuple
      refine .inr (.inr (.inr ⟨a, _, vs, rfl, ry.int, ha, fun e1 => hz.1 ?_, hz.2.1, hz.2.2.1, by rw [ra.length]; exact hz.2.2.2, finTup S h (ra.rep _)⟩))
      have := ra.length
      rw [e1] at this
      exact List.length_eq_zero_iff.mp this.symm
    · cases e
  · cases e
def oFdiv : PyData → PyData → Option PyData
  | .int a, .int b => if CDivN a b then some (.int (a.fdiv b)) else if CDivW a b then some (.int (a.fdiv b)) else none
  | _, _ => none
def rFdivN : R2 := fun x y H Q => rI CDivN (fun i j => .int (i.fdiv j)) x y H Q ∨ rI CDivW (fun i j => .int (i / j)) x y H Q
theorem op_fdivNN : OpR X (binaryOp .FloorDiv) rFdivN := op_fdivN.or op_fdivW
theorem no_fdiv : Op2 X rFdivN oFdiv := by
  intro c x y z vx vy Q S rx ry e h
  unfold oFdiv at e
  split at e
  · split at e
    · rename_i hz
      cases e
      exact .inl ⟨_, _, rx.int, ry.int, hz, fin0 S h Rep.mkInt⟩
    · split at e
      · rename_i a b _ hz
        cases e
        refine .inr ⟨_, _, rx.int, ry.int, hz, fin0 S h ?_⟩
        have h0 : 0 < b := hz.1
        rw [Int.fdiv_eq_ediv_of_nonneg a (by omega)]
        exact Rep.mkInt
      · cases e
  · cases e
def oMod : PyData → PyData → Option PyData
  | .int a, .int b => if b ≠ 0 then some (.int (a.fmod b)) else none
  | _, _ => none
theorem no_mod : Op2 X (rI (fun _ j => j ≠ 0) fun i j => .int (i.fmod j)) oMod := by
  intro c x y z vx vy Q S rx ry e h
  unfold oMod at e
  split at e
  · split at e
    · rename_i hz
      cases e
      exact ⟨_, _, rx.int, ry.int, hz, fin0 S h Rep.mkInt⟩
    · cases e
  · cases e
def oPow : PyData → PyData → Option PyData
  | .int a, .int b => if CPow a b then some (.int (a ^ b.toNat)) else none
  | _, _ => none
theorem no_pow : Op2 X (rI CPow fun i j => .int (i ^ j.toNat)) oPow := by
  intro c x y z vx vy Q S rx ry e h
  unfold oPow at e
  split at e
  · split at e
    · rename_i hz
      cases e
      exact ⟨_, _, rx.int, ry.int, hz, fin0 S h Rep.mkInt⟩
    · cases e
  · cases e
/-! ### comparisons -/
def eqOk : PyData → PyData → Bool
  | .int _, .int _ => true
  | .bool _, .bool _ => true
  | .str _, .str _ => true
  | x, y => SeqAt.shaped x && SeqAt.shaped y
def oEq (x y : PyData) : Option PyData := if eqOk x y = true then some (.bool (PyData.eqv x y)) else none
def oNe (x y : PyData) : Option PyData := if eqOk x y = true then some (.bool (!PyData.eqv x y)) else none
def rEqN (K : PySem.W.Frag) : R2 := fun x y H Q => rEq x y H Q ∨ rEqD K x y H Q
def rNeN (K : PySem.W.Frag) : R2 := fun x y H Q => rNe x y H Q ∨ rNeD K x y H Q
theorem op_eqN (hu : X.A.units + 64 < cLine) : OpR X (compareOp .Eq) (rEqN X.K) := op_eq.or (op_eqD hu)
theorem op_neN (hu : X.A.units + 64 < cLine) : OpR X (compareOp .NotEq) (rNeN X.K) := op_ne.or (op_neD hu)
theorem no_eq : Op2 X (rEqN X.K) oEq := by
  intro c x y z vx vy Q S rx ry e h
  unfold oEq at e
  split at e
  · rename_i ok
    cases e
    unfold eqOk at ok
    split at ok
    · refine .inl ?_
      rw [rx.int, ry.int]
      refine ⟨rfl, fin0 S h ?_⟩
      rw [dec_int]; exact Rep.mkBool
    · refine .inl ?_
      rw [rx.bool, ry.bool]
      refine ⟨rfl, fin0 S h ?_⟩
      rw [dec_bl]; exact Rep.mkBool
    · refine .inl ?_
      rw [rx.str, ry.str]
      refine ⟨rfl, fin0 S h ?_⟩
      rw [dec_str]; exact Rep.mkBool
    · obtain ⟨h1, h2⟩ := Bool.and_eq_true_iff.mp ok
      exact .inr ⟨_, _, rx.dp (SeqAt.canLay_of_shaped h1), ry.dp (SeqAt.canLay_of_shaped h2), h1, h2, fin0 S h Rep.mkBool⟩
  · cases e
theorem no_ne : Op2 X (rNeN X.K) oNe := by
  intro c x y z vx vy Q S rx ry e h
  unfold oNe at e
  split at e
  · rename_i ok
    cases e
    unfold eqOk at ok
    split at ok
    · refine .inl ?_
      rw [rx.int, ry.int]
      refine ⟨rfl, fin0 S h ?_⟩
      rw [dec_int]; exact Rep.mkBool
    · refine .inl ?_
      rw [rx.bool, ry.bool]
      refine ⟨rfl, fin0 S h ?_⟩
      rw [dec_bl]; exact Rep.mkBool
    · refine .inl ?_
      rw [rx.str, ry.str]
      refine ⟨rfl, fin0 S h ?_⟩
      rw [dec_str]; exact Rep.mkBool
    · obtain ⟨h1, h2⟩ := Bool.and_eq_true_iff.mp ok
      exact .inr ⟨_, _, rx.dp (SeqAt.canLay_of_shaped h1), ry.dp (SeqAt.canLay_of_shaped h2), h1, h2, fin0 S h Rep.mkBool⟩
  · cases e
/-- < of anything alike -/
def rLtD (K : PySem.W.Frag) : R2 := fun x y H Q => ∃ d e, Dp K H x d ∧ Dp K H y e ∧ PySem.W.alike d e = true ∧ d ≠ .none ∧ d.depth ≤ 64 ∧ Q (.bl (PySem.W.dataLt d e)) H
theorem op_ltD (hu : X.A.units + 64 < cLine) : OpR X (compareOp .Lt) (rLtD X.K) := by
  intro pins s σ H x y v u Q I rx ry h
  obtain ⟨d, e, hd, he, al, nn, dp, q⟩ := h
  obtain ⟨as, r1⟩ := Dp.reads I d x v hd rx
  obtain ⟨bs, r2⟩ := Dp.reads I e y u he ry
  have h1 : min d.depth e.depth ≤ d.depth := Nat.min_le_left _ _
  exact PySem.W.rcLt_alike d e _ _ _ _ as bs r1 r2 al nn (by omega) _ _ _ _ ⟨.bl _, H, I, rfl, q⟩
def oLt : PyData → PyData → Option PyData
  | .int a, .int b => some (.bool (decide (a < b)))
  | .str a, .str b => some (.bool (decide (a.cps.toList < b.cps.toList)))
  | .tuple a, .tuple b => if PySem.W.alike (.tuple a) (.tuple b) = true ∧ PyData.depth (.tuple a) ≤ 64 ∧ PyData.canLay0 (.tuple a) = true ∧ PyData.canLay0 (.tuple b) = true then some (.bool (PySem.W.dataLt (.tuple a) (.tuple b))) else none
  | .list a, .list b => if PySem.W.alike (.list a) (.list b) = true ∧ PyData.depth (.list a) ≤ 64 ∧ PyData.canLay0 (.list a) = true ∧ PyData.canLay0 (.list b) = true then some (.bool (PySem.W.dataLt (.list a) (.list b))) else none
  | _, _ => none
def rLtN (K : PySem.W.Frag) : R2 := fun x y H Q => rI0 (fun i j => .bl (decide (i < j))) x y H Q ∨ (∃ i j, x = .str i ∧ y = .str j ∧ Q (.bl (decide (i.cps.toList < j.cps.toList))) H) ∨ rLtD K x y H Q
theorem op_ltN (hu : X.A.units + 64 < cLine) : OpR X (compareOp .Lt) (rLtN X.K) := op_lt.or (op_lt_str.or (op_ltD hu))
theorem no_lt : Op2 X (rLtN X.K) oLt := by
  intro c x y z vx vy Q S rx ry e h
  unfold oLt at e
  split at e
  · cases e
    exact .inl ⟨_, _, rx.int, ry.int, fin0 S h Rep.mkBool⟩
  · cases e
    exact .inr (.inl ⟨_, _, rx.str, ry.str, fin0 S h Rep.mkBool⟩)
  · split at e
    · rename_i hz
      cases e
      exact .inr (.inr ⟨_, _, rx.dp hz.2.2.1, ry.dp hz.2.2.2, hz.1, (fun z => by cases z), hz.2.1, fin0 S h Rep.mkBool⟩)
    · cases e
  · split at e
    · rename_i hz
      cases e
      exact .inr (.inr ⟨_, _, rx.dp hz.2.2.1, ry.dp hz.2.2.2, hz.1, (fun z => by cases z), hz.2.1, fin0 S h Rep.mkBool⟩)
    · cases e
  · cases e
def oLe : PyData → PyData → Option PyData
  | .int a, .int b => some (.bool (decide (a ≤ b)))
  | .str a, .str b => some (.bool (!decide (b.cps.toList < a.cps.toList)))
  | _, _ => none
def oGt : PyData → PyData → Option PyData
  | .int a, .int b => some (.bool (decide (b < a)))
  | .str a, .str b => some (.bool (decide (b.cps.toList < a.cps.toList)))
  | _, _ => none
def oGe : PyData → PyData → Option PyData
  | .int a, .int b => some (.bool (decide (b ≤ a)))
  | .str a, .str b => some (.bool (!decide (a.cps.toList < b.cps.toList)))
  | _, _ => none
def rLeN : R2 := fun x y H Q => rI0 (fun i j => .bl (decide (i ≤ j))) x y H Q ∨ (∃ i j, x = .str i ∧ y = .str j ∧ Q (.bl (!decide (j.cps.toList < i.cps.toList))) H)
def rGtN : R2 := fun x y H Q => rI0 (fun i j => .bl (decide (j < i))) x y H Q ∨ (∃ i j, x = .str i ∧ y = .str j ∧ Q (.bl (decide (j.cps.toList < i.cps.toList))) H)
def rGeN : R2 := fun x y H Q => rI0 (fun i j => .bl (decide (j ≤ i))) x y H Q ∨ (∃ i j, x = .str i ∧ y = .str j ∧ Q (.bl (!decide (i.cps.toList < j.cps.toList))) H)
theorem op_leN : OpR X (compareOp .LtE) rLeN := op_le.or op_le_str
theorem op_gtN : OpR X (compareOp .Gt) rGtN := op_gt.or op_gt_str
theorem op_geN : OpR X (compareOp .GtE) rGeN := op_ge.or op_ge_str
theorem no_le : Op2 X rLeN oLe := by
  intro c x y z vx vy Q S rx ry e h
  unfold oLe at e
  split at e
  · cases e; exact .inl ⟨_, _, rx.int, ry.int, fin0 S h Rep.mkBool⟩
  · cases e; exact .inr ⟨_, _, rx.str, ry.str, fin0 S h Rep.mkBool⟩
  · cases e
theorem no_gt : Op2 X rGtN oGt := by
  intro c x y z vx vy Q S rx ry e h
  unfold oGt at e
  split at e
  · cases e; exact .inl ⟨_, _, rx.int, ry.int, fin0 S h Rep.mkBool⟩
  · cases e; exact .inr ⟨_, _, rx.str, ry.str, fin0 S h Rep.mkBool⟩
  · cases e
theorem no_ge : Op2 X rGeN oGe := by
  intro c x y z vx vy Q S rx ry e h
  unfold oGe at e
  split at e
  · cases e; exact .inl ⟨_, _, rx.int, ry.int, fin0 S h Rep.mkBool⟩
  · cases e; exact .inr ⟨_, _, rx.str, ry.str, fin0 S h Rep.mkBool⟩
  · cases e
/-! ### is -/
def isNoneD : PyData → Bool
  | .none => true
  | _ => false
theorem isNone_ok {K : PySem.W.Frag} {H : Hp} {F : Fz} {d : PyData} {v : V} (r : Rep1 K H F d v) : decide (v = V.non) = isNoneD d := by
  cases d with
  | none => rw [r.none]; rfl
  | bool b => rw [r.bool]; rfl
  | int b => rw [r.int]; rfl
  | str b => rw [r.str]; rfl
  | list b => obtain ⟨a, vs, rfl, _⟩ := r.list; rfl
  | tuple b => obtain ⟨a, vs, rfl, _⟩ := r.tuple; rfl
  | dict b => obtain ⟨a, ws, rfl, _⟩ := r.dict.dict; rfl
def oIs : PyData → PyData → Option PyData
  | x, .none => some (.bool (isNoneD x))
  | .bool a, .bool b => some (.bool (decide (a = b)))
  | _, _ => none
def oIsNot : PyData → PyData → Option PyData
  | x, .none => some (.bool (!isNoneD x))
  | .bool a, .bool b => some (.bool (!decide (a = b)))
  | _, _ => none
def rIsN : R2 := fun x y H Q => (y = .non ∧ Q (.bl (decide (x = .non))) H) ∨ rIsB x y H Q
def rNotN : R2 := fun x y H Q => (y = .non ∧ Q (.bl (!decide (x = .non))) H) ∨ rNotB x y H Q
theorem op_isNN : OpR X (compareOp .Is) rIsN := op_isN.or op_isBl
theorem op_notNN : OpR X (compareOp .IsNot) rNotN := op_notN.or op_notBl
theorem no_is : Op2 X rIsN oIs := by
  intro c x y z vx vy Q S rx ry e h
  unfold oIs at e
  split at e
  · cases e
    refine .inl ⟨ry.none, ?_⟩
    rw [isNone_ok rx]; exact fin0 S h Rep.mkBool
  · cases e
    exact .inr ⟨_, _, rx.bool, ry.bool, fin0 S h Rep.mkBool⟩
  · cases e
theorem no_isnot : Op2 X rNotN oIsNot := by
  intro c x y z vx vy Q S rx ry e h
  unfold oIsNot at e
  split at e
  · cases e
    refine .inl ⟨ry.none, ?_⟩
    rw [isNone_ok rx]; exact fin0 S h Rep.mkBool
  · cases e
    exact .inr ⟨_, _, rx.bool, ry.bool, fin0 S h Rep.mkBool⟩
  · cases e
/-! ### in -/
def rInT (K : PySem.W.Frag) (neg : Bool) : R2 := fun x y H Q => ∃ d ds, Dp K H x d ∧ Dp K H y (.tuple ds) ∧ SeqAt.shaped d = true ∧ SeqAt.shaped (.tuple ds) = true ∧ Q (.bl (if neg then !ds.any (fun z => PyData.eqv z d) else ds.any fun z => PyData.eqv z d)) H
theorem room_shT {ds : List PyData} {d : PyData} {A : Around} (sd : SeqAt.shaped d = true) (hu : A.units + 65 < cLine) : A.units + 1 + min (PyData.depthAll ds) d.depth < cLine := by
  have h1 := SeqAt.depth_of_shaped sd
  have h2 : min (PyData.depthAll ds) d.depth ≤ d.depth := Nat.min_le_right _ _
  omega
theorem canLayT {ds : List PyData} (h : SeqAt.shaped (.tuple ds) = true) : PyData.canLayAll0 ds = true := by
  have := SeqAt.canLay_of_shaped h
  simpa [PyData.canLay0] using this
theorem op_inT (hu : X.A.units + 65 < cLine) : OpR X (compareOp .In) (rInT X.K false) := by
  intro pins s σ H x y v u Q I rx ry h
  obtain ⟨d, ds, hd, he, sd, se, q⟩ := h
  obtain ⟨as, r1⟩ := Dp.reads I d x v hd rx
  obtain ⟨bs, r2⟩ := Dp.reads I (.tuple ds) y u he ry
  exact SeqAt.in_tuple_reads r2 r1 (canLayT se) (SeqAt.canLay_of_shaped sd) (room_shT sd hu) ⟨.bl _, H, I, rfl, q⟩
theorem op_notInT (hu : X.A.units + 65 < cLine) : OpR X (compareOp .NotIn) (rInT X.K true) := by
  intro pins s σ H x y v u Q I rx ry h
  obtain ⟨d, ds, hd, he, sd, se, q⟩ := h
  obtain ⟨as, r1⟩ := Dp.reads I d x v hd rx
  obtain ⟨bs, r2⟩ := Dp.reads I (.tuple ds) y u he ry
  exact SeqAt.notIn_tuple_reads r2 r1 (canLayT se) (SeqAt.canLay_of_shaped sd) (room_shT sd hu) ⟨.bl _, H, I, rfl, q⟩
def inD : PyData → PyData → Option Bool
  | x, .list ys => if SeqAt.shaped x = true ∧ SeqAt.shaped (.list ys) = true then some (ys.any fun z => PyData.eqv z x) else none
  | x, .tuple ys => if SeqAt.shaped x = true ∧ SeqAt.shaped (.tuple ys) = true then some (ys.any fun z => PyData.eqv z x) else none
  | .str ⟨⟨[c]⟩⟩, .str z => some (decide (c ∈ z.cps.toList))
  | _, _ => none
def oIn (x y : PyData) : Option PyData := (inD x y).map PyData.bool
def oNotIn (x y : PyData) : Option PyData := (inD x y).map fun b => PyData.bool (!b)
def rInN (K : PySem.W.Frag) : R2 := fun x y H Q => rInD K x y H Q ∨ rInT K false x y H Q ∨ (∃ (c : Nat) (z : Str), x = .str ⟨#[c]⟩ ∧ y = .str z ∧ Q (.bl (decide (c ∈ z.cps.toList))) H)
def rNotInN (K : PySem.W.Frag) : R2 := fun x y H Q => rNotInD K x y H Q ∨ rInT K true x y H Q ∨ (∃ (c : Nat) (z : Str), x = .str ⟨#[c]⟩ ∧ y = .str z ∧ Q (.bl (!decide (c ∈ z.cps.toList))) H)
theorem op_inN (hu : X.A.units + 65 < cLine) : OpR X (compareOp .In) (rInN X.K) := (op_inD hu).or ((op_inT hu).or op_in_sign)
theorem op_notInN (hu : X.A.units + 65 < cLine) : OpR X (compareOp .NotIn) (rNotInN X.K) := (op_notInD hu).or ((op_notInT hu).or op_notIn_sign)
theorem no_in : Op2 X (rInN X.K) oIn := by
  intro c x y z vx vy Q S rx ry e h
  unfold oIn at e
  cases q : inD x y with
  | none => rw [q] at e; cases e
  | some b =>
    rw [q] at e
    cases e
    unfold inD at q
    split at q
    · split at q
      · rename_i hz
        cases q
        exact .inl ⟨_, _, rx.dp (SeqAt.canLay_of_shaped hz.1), ry.dp (SeqAt.canLay_of_shaped hz.2), hz.1, hz.2, fin0 S h Rep.mkBool⟩
      · cases q
    · split at q
      · rename_i hz
        cases q
        exact .inr (.inl ⟨_, _, rx.dp (SeqAt.canLay_of_shaped hz.1), ry.dp (SeqAt.canLay_of_shaped hz.2), hz.1, hz.2, fin0 S h Rep.mkBool⟩)
      · cases q
    · cases q
      exact .inr (.inr ⟨_, _, rx.str, ry.str, fin0 S h Rep.mkBool⟩)
    · cases q
theorem no_notin : Op2 X (rNotInN X.K) oNotIn := by
  intro c x y z vx vy Q S rx ry e h
  unfold oNotIn at e
  cases q : inD x y with
  | none => rw [q] at e; cases e
  | some b =>
    rw [q] at e
    cases e
    unfold inD at q
    split at q
    · split at q
      · rename_i hz
        cases q
        exact .inl ⟨_, _, rx.dp (SeqAt.canLay_of_shaped hz.1), ry.dp (SeqAt.canLay_of_shaped hz.2), hz.1, hz.2, fin0 S h Rep.mkBool⟩
      · cases q
    · split at q
      · rename_i hz
        cases q
        exact .inr (.inl ⟨_, _, rx.dp (SeqAt.canLay_of_shaped hz.1), ry.dp (SeqAt.canLay_of_shaped hz.2), hz.1, hz.2, fin0 S h Rep.mkBool⟩)
      · cases q
    · cases q
      exact .inr (.inr ⟨_, _, rx.str, ry.str, fin0 S h Rep.mkBool⟩)
    · cases q
end
/-! ### a < b < c -/
section
variable {X : Cx} {W : WX} {a b d : Expr} {p q u : Opd} {pos : Pos}
/-- the middle one is asked once; the answers are truth values -/
def nChain (o o' : PyData → PyData → Option PyData) (p q u : Opd) : NExp := fun n => (p.run n).bind fun x n1 => (q.run n1).bind fun y n2 => match x.get n2, y.get n2 with
  | some dx, some dy => match o dx dy with
    | some (.bool true) => (u.run n2).bind fun z n3 => match y.get n3, z.get n3 with
      | some ey, some dz => liftO (o' ey dz) n3
      | _, _ => .bad
    | some (.bool false) => .ok (.bool false) n2
    | _ => .bad
  | _, _ => .bad
theorem chain_st {ta tb tc : TE} {o o' : PyData → PyData → Option PyData} {r r' : R2} (sa : ∀ (c : Cf) (Q : VK), Sim X.K c → Pst X.K X.mg W (relV X.K) c Q (p.run c.n) → ta c.s c.H Q)
    (sb : ∀ (c : Cf) (Q : VK), Sim X.K c → Pst X.K X.mg W (relV X.K) c Q (q.run c.n) → tb c.s c.H Q) (sc : ∀ (c : Cf) (Q : VK), Sim X.K c → Pst X.K X.mg W (relV X.K) c Q (u.run c.n) → tc c.s c.H Q)
    (no : Op2 X r o) (no' : Op2 X r' o') {c : Cf} {Q : VK} (S : Sim X.K c) (h : Pst X.K X.mg W (relE X.K) c Q (nChain o o' p q u c.n)) : tChain r r' ta tb tc c.s c.H Q := by
  refine sa c _ S (Pst.seq (rel := relV X.K) mono_E h fun x n1 vx H1 F1 _ st1 S1 rx h1 => ?_)
  refine sb ⟨n1, c.s, H1, F1⟩ _ S1 (Pst.seq (rel := relV X.K) mono_E h1 fun y n2 vy H2 F2 _ st2 S2 ry h2 => ?_)
  cases ea : x.get n2 with
  | none => rw [ea] at h2; exact h2.elim
  | some dx =>
    cases eb : y.get n2 with
    | none => rw [ea, eb] at h2; exact h2.elim
    | some dy =>
      rw [ea, eb] at h2
      dsimp only at h2
      have rx2 : AVRep X.K ⟨n2, c.s, H2, F2⟩ x vx := AVRep.step st2 S1 rfl rx
      cases eo : o dx dy with
      | none => rw [eo] at h2; exact h2.elim
      | some z =>
        rw [eo] at h2
        cases z with
        | bool k =>
          refine no ⟨n2, c.s, H2, F2⟩ dx dy (.bool k) vx vy _ S2 (S2.avGet rx2 ea) (S2.avGet ry eb) eo fun v H3 F3 st3 S3 r3 => ⟨k, Rep.bool (K := X.K) (H := H3) (F := F3) r3, ?_⟩
          cases k with
          | false =>
            refine iteF ?_
            exact h2 _ H3 F3 st3 S3 Rep.mkBool
          | true =>
            refine iteT ?_
            have h3 : Pst X.K X.mg W (relE X.K) ⟨n2, c.s, H3, F3⟩ Q ((u.run n2).bind fun z n3 => match y.get n3, z.get n3 with
              | some ey, some dz => liftO (o' ey dz) n3
              | _, _ => .bad) := Pst.step (c := ⟨n2, c.s, H2, F2⟩) (c1 := ⟨n2, c.s, H3, F3⟩) mono_E rfl st3 h2
            refine sc ⟨n2, c.s, H3, F3⟩ _ S3 (Pst.seq (rel := relV X.K) mono_E h3 fun z n4 vz H4 F4 _ st4 S4 rz h4 => ?_)
            have ry4 : AVRep X.K ⟨n4, c.s, H4, F4⟩ y vy := AVRep.step st4 S3 rfl (AVRep.step st3 S2 rfl ry)
            cases ec : y.get n4 with
            | none => rw [ec] at h4; exact h4.elim
            | some ey =>
              cases ed : z.get n4 with
              | none => rw [ec, ed] at h4; exact h4.elim
              | some dz =>
                rw [ec, ed] at h4
                dsimp only at h4
                cases eo' : o' ey dz with
                | none => rw [eo'] at h4; exact h4.elim
                | some z' =>
                  rw [eo'] at h4
                  exact no' ⟨n4, c.s, H4, F4⟩ ey dz z' vy vz Q S4 (S4.avGet ry4 ec) (S4.avGet rz ed) eo' fun v H' F' st' S' r' => h4 v H' F' st' S' r'
        | _ => exact h2.elim
theorem ne_chain {op op' : CmpOp} {r r' : R2} {o o' : PyData → PyData → Option PyData} (ho : OpR X (compareOp op) r) (ho' : OpR X (compareOp op') r') (no : Op2 X r o) (no' : Op2 X r' o') (ha : NO X W a p) (hb : NO X W b q) (hc : NO X W d u)
    (hm : lastMarks [op, op'] [b, d] = false := by with_unfolding_all rfl) : NE X W (.Compare a [op, op'] [b, d] pos) (nChain o o' p q u) := by
  obtain ⟨ta, pa, sa⟩ := ha.ex
  obtain ⟨tb, pb, sb⟩ := hb.ex
  obtain ⟨tc, pc, sc⟩ := hc.ex
  exact ⟨_, pe_chain ho ho' pa pb pc hm, fun c Q S h => chain_st sa sb sc no no' S h⟩
theorem nt_chain {op op' : CmpOp} {r r' : R2} {o o' : PyData → PyData → Option PyData} (ho : OpR X (compareOp op) r) (ho' : OpR X (compareOp op') r') (no : Op2 X r o) (no' : Op2 X r' o') (ha : NO X W a p) (hb : NO X W b q) (hc : NO X W d u)
    (hm : lastMarks [op, op'] [b, d] = false := by with_unfolding_all rfl) : NT X W (.Compare a [op, op'] [b, d] pos) (asB (nChain o o' p q u)) := by
  obtain ⟨ta, pa, sa⟩ := ha.ex
  obtain ⟨tb, pb, sb⟩ := hb.ex
  obtain ⟨tc, pc, sc⟩ := hc.ex
  exact ⟨_, pt_chain ho ho' pa pb pc hm, fun c Q S h => asB_st (t := tChain r r' ta tb tc) (fun c Q S h => chain_st sa sb sc no no' S h) S h⟩
end
end NL
end L2
/-! NL5: statements, loops, defs and their calls. -/
namespace L2
namespace NL
open PySem PySem.Spec PyProof.Rows

structure NS (X : Cx) (W : WX) (st : Stmt) (f : NStm) : Prop where
  ex : ∃ t, PS X st t ∧ ∀ (c : Cf) (D : Ends), Sim X.K c → PstS X.K X.mg W c D (f c.n) → t D c.s c.H
structure NSs (X : Cx) (W : WX) (sts : List Stmt) (f : NStm) : Prop where
  ex : ∃ t, PSs X sts t ∧ ∀ (c : Cf) (D : Ends), Sim X.K c → PstS X.K X.mg W c D (f c.n) → t D c.s c.H
def NR.seq (r : NR) (k : NStm) : NR := match r with
  | .nx n => k n
  | r => r
def sNil : NStm := fun n => .nx n
def sSeq (f g : NStm) : NStm := fun n => (f n).seq g
section
variable {X : Cx} {W : WX} {st : Stmt} {rest : List Stmt} {f g : NStm} {e e2 : Expr} {v w : NExp} {pos : Pos}
theorem nss_nil : NSs X W [] sNil := ⟨tNext, pss_nil, fun c D S h => h c.s c.H c.F (Step.refl _) S⟩
theorem nss_one (h : NS X W st f) : NSs X W [st] f := let ⟨t, p, s⟩ := h.ex; ⟨t, pss_one p, s⟩
theorem nss_cons (h1 : NS X W st f) (h2 : NSs X W rest g) : NSs X W (st :: rest) (sSeq f g) := by
  obtain ⟨t, p, s⟩ := h1.ex
  obtain ⟨u, q, s2⟩ := h2.ex
  refine ⟨tSeq t u, pss_cons p q, fun c D S h => ?_⟩
  refine s c { D with nx := u D } S ?_
  unfold sSeq at h
  cases e : f c.n with
  | nx n =>
    rw [e] at h
    intro σ' H' F' st1 S1
    exact s2 ⟨n, σ', H', F'⟩ D S1 (PstS.step (c := c) st1 h)
  | ret d n => rw [e] at h; exact h
  | brk n => rw [e] at h; exact h
  | ct n => rw [e] at h; exact h
  | err x n => rw [e] at h; exact h
  | bad => rw [e] at h; exact h
def sPass : NStm := fun n => .nx n
theorem ns_pass : NS X W (.Pass pos) sPass := ⟨tNext, ps_pass, fun c D S h => h c.s c.H c.F (Step.refl _) S⟩
def sBreak : NStm := fun n => .brk n
theorem ns_break : NS X W (.Break pos) sBreak := ⟨tBreak, ps_break, fun c D S h => h c.s c.H c.F (Step.refl _) S⟩
def sCont : NStm := fun n => .ct n
theorem ns_cont : NS X W (.Continue pos) sCont := ⟨tCont, ps_continue, fun c D S h => h c.s c.H c.F (Step.refl _) S⟩
def sExpr (v : NExp) : NStm := fun n => (v n).st fun _ n' => .nx n'
theorem ns_expr (h : NE X W e v) (hs : swapsWith e none pos.line X.env = pure false := by rfl) : NS X W (.Expr e pos) (sExpr v) := by
  obtain ⟨t, p, s⟩ := h.ex
  refine ⟨tDrop t, ps_expr p hs, fun c D S q => ?_⟩
  exact s c _ S (Pst.seqS (rel := relE X.K) q fun d n' u H' F' _ st1 S1 r h1 => h1 c.s H' F' (Step.refl _) S1)
def sRet (v : NExp) : NStm := fun n => (v n).st fun d n' => .ret d n'
theorem ns_ret (h : NE X W e v) : NS X W (.Return (some e) pos) (sRet v) := by
  obtain ⟨t, p, s⟩ := h.ex
  refine ⟨tRet t, ps_ret p, fun c D S q => ?_⟩
  exact s c _ S (Pst.seqS (rel := relE X.K) q fun d n' u H' F' _ st1 S1 r h1 => h1 u c.s H' F' (Step.refl _) S1 r)
def sIf (t : NSt → R Bool) (f g : NStm) : NStm := fun n => (t n).st fun b n' => if b = true then f n' else g n'
theorem ns_if {c : Expr} {a b : List Stmt} {t : NSt → R Bool} (hc : NT X W c t) (ha : NSs X W a f) (hb : NSs X W b g) : NS X W (.If c a b pos) (sIf t f g) := by
  obtain ⟨tc, pc, sc⟩ := hc.ex
  obtain ⟨ta, pa, sa⟩ := ha.ex
  obtain ⟨tb, pb, sb⟩ := hb.ex
  refine ⟨tIfS tc ta tb, ps_if pc pa pb, fun c D S q => ?_⟩
  refine sc c _ S (Pst.seqS (rel := relT) q fun k n' k' H' F' _ st1 S1 r h1 => ?_)
  cases r
  cases k with
  | true => exact iteT (sa ⟨n', c.s, H', F'⟩ D S1 h1)
  | false => exact iteF (sb ⟨n', c.s, H', F'⟩ D S1 h1)

/-! ### targets -/
/-- a target: what it stores; vs: the slots that it may change -/
structure NG (X : Cx) (tg : Expr) (vs : List Nat) (g : PyData → NSt → Option NSt) : Prop where
  ex : ∃ t, PG X tg t ∧ ∀ (c : Cf) (d : PyData) (v : V) (n' : NSt) (Q : L2.St → Hp → Prop), Sim X.K c → Rep X.K c.H c.F d v → g d c.n = some n' →
    (∀ σ', Step c ⟨n', σ', c.H, c.F⟩ → Sim X.K ⟨n', σ', c.H, c.F⟩ → (∀ j, j ∉ vs → σ'[j]? = c.s[j]? ∧ n'[j]? = c.n[j]?) → σ'.length = c.s.length → Q σ' c.H) → t v c.s c.H Q
def gN (i : Nat) : PyData → NSt → Option NSt := fun d n => if notLent n i = true then some (n.set i (some (.val d))) else none
theorem ng_name (i : Nat) {x : Str} (hN : X.N.Nodup) (hi : X.N[i]? = some x) (hx : Loc X.env.scope x) (hf : X.fn x = true ∨ X.env.scope.names.lookup x = some .local := by first | exact .inl rfl | exact .inr rfl | assumption) : NG X (.Name x pos) [i] (gN i) := by
  refine ⟨gName i, pg_name hN hi hx hf, fun c d v n' Q S r e h => ?_⟩
  unfold gN at e
  split at e
  · rename_i hl
    cases e
    obtain ⟨S', st'⟩ := S.setVal hl r
    refine h _ st' S' (fun j hj => ?_) (by simp)
    have hj' : i ≠ j := fun z => hj (by simp [z])
    exact ⟨by rw [List.getElem?_set_ne hj'], by rw [List.getElem?_set_ne hj']⟩
  · cases e
/-- several targets -/
structure NGs (X : Cx) (tgs : List Expr) (vs : List Nat) (g : List PyData → NSt → Option NSt) : Prop where
  ex : ∃ t, PGs X tgs t ∧ ∀ (c : Cf) (ds : List PyData) (ws : List V) (n' : NSt) (Q : L2.St → Hp → Prop), Sim X.K c → Reps X.K c.H c.F ds ws → g ds c.n = some n' →
    (∀ σ', Step c ⟨n', σ', c.H, c.F⟩ → Sim X.K ⟨n', σ', c.H, c.F⟩ → (∀ j, j ∉ vs → σ'[j]? = c.s[j]? ∧ n'[j]? = c.n[j]?) → σ'.length = c.s.length → Q σ' c.H) → t ws c.s c.H Q
def gNil' : List PyData → NSt → Option NSt
  | [], n => some n
  | _, _ => none
def gCons' (g : PyData → NSt → Option NSt) (gs : List PyData → NSt → Option NSt) : List PyData → NSt → Option NSt
  | d :: ds, n => (g d n).bind (gs ds)
  | _, _ => none
theorem ngs_nil : NGs X [] [] gNil' := by
  refine ⟨gNil, pgs_nil, fun c ds ws n' Q S r e h => ?_⟩
  cases ds with
  | nil =>
    unfold Reps at r
    subst r
    cases e
    exact ⟨rfl, h c.s (Step.refl _) S (fun _ _ => ⟨rfl, rfl⟩) rfl⟩
  | cons d ds => cases e
theorem ngs_cons {tg : Expr} {tgs : List Expr} {vs ws : List Nat} {g : PyData → NSt → Option NSt} {gs : List PyData → NSt → Option NSt} (h1 : NG X tg vs g) (h2 : NGs X tgs ws gs)
    (hs : (assignEach (tg :: tgs) X.env).map (·.2) = assign tg X.env :: (assignEach tgs X.env).map (·.2) := by rfl) : NGs X (tg :: tgs) (vs ++ ws) (gCons' g gs) := by
  obtain ⟨t, p, s⟩ := h1.ex
  obtain ⟨u, q, s2⟩ := h2.ex
  refine ⟨gCons t u, pgs_cons p q hs, fun c ds us n' Q S r e h => ?_⟩
  cases ds with
  | nil => cases e
  | cons d ds =>
    unfold Reps at r
    obtain ⟨v, vs', rfl, r1, r2⟩ := r
    have e' : (g d c.n).bind (gs ds) = some n' := e
    cases eg : g d c.n with
    | none => rw [eg] at e'; cases e'
    | some n1 =>
      rw [eg] at e'
      refine ⟨v, vs', rfl, s c d v n1 _ S r1 eg fun σ1 st1 S1 k1 l1 => ?_⟩
      refine s2 ⟨n1, σ1, c.H, c.F⟩ ds vs' n' Q S1 r2 e' fun σ2 st2 S2 k2 l2 => h σ2 (st1.trans st2) S2 (fun j hj => ?_) (l2.trans l1)
      have hj1 : j ∉ vs := fun z => hj (List.mem_append_left _ z)
      have hj2 : j ∉ ws := fun z => hj (List.mem_append_right _ z)
      exact ⟨(k2 j hj2).1.trans (k1 j hj1).1, (k2 j hj2).2.trans (k1 j hj1).2⟩
def gT (gs : List PyData → NSt → Option NSt) : PyData → NSt → Option NSt
  | .tuple ds, n => gs ds n
  | _, _ => none
theorem gs_len {tgs : List Expr} {vs : List Nat} {gs : List PyData → NSt → Option NSt} (k : Nat) (hk : ∀ ds n n', gs ds n = some n' → ds.length = k) : ∀ ds n n', gs ds n = some n' → ds.length = k := hk
theorem gNil_len : ∀ ds n n', gNil' ds n = some n' → ds.length = 0 := fun ds n n' h => by
  cases ds with
  | nil => rfl
  | cons => cases h
theorem gCons_len {g : PyData → NSt → Option NSt} {gs : List PyData → NSt → Option NSt} {k : Nat} (h : ∀ ds n n', gs ds n = some n' → ds.length = k) : ∀ ds n n', gCons' g gs ds n = some n' → ds.length = k + 1 := fun ds n n' e => by
  cases ds with
  | nil => cases e
  | cons d ds =>
    have e' : (g d n).bind (gs ds) = some n' := e
    cases eg : g d n with
    | none => rw [eg] at e'; cases e'
    | some n1 =>
      rw [eg] at e'
      simp [h ds n1 n' e']
theorem ng_tup {es : List Expr} {k x1 : Nat} {vs : List Nat} {gs : List PyData → NSt → Option NSt} (hc : X.calm = true) (h : NGs X es vs gs) (hk : ∀ ds n n', gs ds n = some n' → ds.length = k)
    (hn : (assignEach es X.env).length = k := by rfl) (hst : (assignEach es X.env).findIdx? (·.1) = none := by rfl) : NG X (.Tuple es x1 pos) vs (gT gs) := by
  obtain ⟨t, p, s⟩ := h.ex
  refine ⟨gTup X.K k t, pg_tup hc p hn hst, fun c d v n' Q S r e q => ?_⟩
  cases d with
  | tuple ds =>
    obtain ⟨a, xs, rfl, hq, rs⟩ := Rep.tuple (K := X.K) (H := c.H) (F := c.F) r
    exact ⟨a, xs, rfl, hq, by rw [rs.length]; exact hk _ _ _ e, s c ds xs n' Q S rs e q⟩
  | _ => cases e
/-! ### assignments -/
def sAsg (v : NExp) (g : PyData → NSt → Option NSt) : NStm := fun n => (v n).st fun d n1 => match g d n1 with
  | some n2 => .nx n2
  | none => .bad
theorem ns_asg {tg : Expr} {vs : List Nat} {gg : PyData → NSt → Option NSt} (he : NE X W e v) (hg : NG X tg vs gg) (hs : swapsWithSole [tg] e pos.line X.env = pure false := by rfl) (hw : swappedStores [tg] e X.env = pure none := by rfl)
    (ha : (assignEach [tg] X.env).map (·.2) = [assign tg X.env] := by rfl) : NS X W (.Assign [tg] e pos) (sAsg v gg) := by
  obtain ⟨t, p, s⟩ := he.ex
  obtain ⟨u, q, s2⟩ := hg.ex
  refine ⟨tAsg t u, ps_asg p q hs hw ha, fun c D S h => ?_⟩
  refine s c _ S (Pst.seqS (rel := relE X.K) h fun d n1 x H1 F1 _ st1 S1 r h1 => ?_)
  cases eg : gg d n1 with
  | none => rw [eg] at h1; exact h1.elim
  | some n2 =>
    rw [eg] at h1
    exact s2 ⟨n1, c.s, H1, F1⟩ d x n2 _ S1 r eg fun σ2 st2 S2 _ _ => h1 σ2 H1 F1 st2 S2
/-- x = [..] where x's own list it becomes -/
def sOwn (i : Nat) (fo : NSt → R (List PyData)) : NStm := fun n => (fo n).st fun xs n1 => if notLent n1 i = true then .nx (n1.set i (some (.own xs))) else .bad
theorem own_st {i : Nat} {fo : NSt → R (List PyData)} {t : TE} (s : ∀ (c : Cf) (Q : VK), Sim X.K c → Pst X.K X.mg W (relO X.K) c Q (fo c.n) → t c.s c.H Q) {c : Cf} {D : Ends} (S : Sim X.K c) (h : PstS X.K X.mg W c D (sOwn i fo c.n)) :
    t c.s c.H fun x H1 => D.nx (c.s.set i (some x)) H1 := by
  refine s c _ S ?_
  unfold sOwn at h
  cases q : fo c.n with
  | ok xs n1 =>
    rw [q] at h
    intro x H1 F1 st1 S1 r
    have h' : PstS X.K X.mg W c D (if notLent n1 i = true then .nx (n1.set i (some (.own xs))) else .bad) := h
    split at h'
    · rename_i hl
      obtain ⟨S2, st2⟩ := Sim.setOwn st1 S1 hl r
      exact h' _ _ _ st2 S2
    · exact h'.elim
  | err x n1 => rw [q] at h; exact fun cls d H' F' s1 S1 r1 => h cls d c.s H' F' s1 S1 r1
  | bad => rw [q] at h; exact h
theorem ns_own (i : Nat) {x : Str} {pos' : Pos} {fo : NSt → R (List PyData)} (hN : X.N.Nodup) (hi : X.N[i]? = some x) (hx : Loc X.env.scope x) (he : NEo X W e fo) (hs : swapsWith e (some (.Name x pos')) pos.line X.env = pure false := by rfl)
    (hf : X.fn x = true ∨ X.env.scope.names.lookup x = some .local := by first | exact .inl rfl | exact .inr rfl | assumption) : NS X W (.Assign [.Name x pos'] e pos) (sOwn i fo) := by
  obtain ⟨t, p, s⟩ := he.ex
  exact ⟨_, ps_set hN hi hx p hs hf, fun c D S h => own_st s S h⟩
/-! ### loops -/
/-- what a for walks: it yields the items ds -/
def Gives (K : PySem.W.Frag) (J : It) (ds : List PyData) (c1 : Cf) : Prop := ∀ c2 : Cf, Step c1 c2 → Sim K c2 → ∀ i, i ≤ ds.length →
  (∀ d, ds[i]? = some d → J.go i c2.H ∧ ∀ x H', J.yld i c2.H x H' → ∃ F', Step c2 ⟨c2.n, c2.s, H', F'⟩ ∧ Sim K ⟨c2.n, c2.s, H', F'⟩ ∧ Rep K H' F' d x) ∧ (i = ds.length → J.stop i c2.H)
structure NI (X : Cx) (W : WX) (tg iter : Expr) (f : NSt → R (List PyData)) : Prop where
  ex : ∃ wi, PI X tg iter wi ∧ ∀ (c : Cf) (Q : It → Hp → Prop), Sim X.K c → Pst X.K X.mg W (fun _ c1 ds J => Gives X.K J ds c1) c Q (f c.n) → wi c.s c.H Q
def sForL (g : PyData → NSt → Option NSt) (body : NStm) : List PyData → NStm
  | [], n => .nx n
  | d :: ds, n => match g d n with
    | none => .bad
    | some n1 => match body n1 with
      | .nx n2 => sForL g body ds n2
      | .ct n2 => sForL g body ds n2
      | .brk n2 => .nx n2
      | r => r
def sFor (fi : NSt → R (List PyData)) (g : PyData → NSt → Option NSt) (body : NStm) : NStm := fun n => (fi n).st fun ds n1 => sForL g body ds n1
theorem mono_I {K : PySem.W.Frag} : Mono (fun _ c1 ds J => Gives K J ds c1) := fun _ _ _ _ _ _ h => h
theorem ns_for {tg iter : Expr} {body : List Stmt} {vs : List Nat} {gg : PyData → NSt → Option NSt} {fi : NSt → R (List PyData)} (hp : PassesOwn (model X.prog X.w) X.A X.env X.xe) (hc : X.calm = true) (hi : NI X W tg iter fi) (hg : NG X tg vs gg) (hb : NSs X W body f)
    (hs : ∀ x, foldedSetIterable iter X.env x = pure x := by intro _; rfl) : NS X W (.For tg iter body [] pos) (sFor fi gg f) := by
  obtain ⟨wi, pi, si⟩ := hi.ex
  obtain ⟨t, pg, sg⟩ := hg.ex
  obtain ⟨tb, pb, sb⟩ := hb.ex
  refine ⟨tFor wi t tb, ps_for hp hc pi pg pb hs, fun c D S h => ?_⟩
  refine si c _ S (Pst.seqS (rel := fun _ c1 ds J => Gives X.K J ds c1) h fun ds n1 J H1 F1 _ st1 S1 gv h1 => ?_)
  let c1 : Cf := ⟨n1, c.s, H1, F1⟩
  refine ⟨fun i m σ H => ∃ c2 : Cf, c2.s = σ ∧ c2.H = H ∧ i ≤ ds.length ∧ m = ds.length - i ∧ Step c1 c2 ∧ Sim X.K c2 ∧ PstS X.K X.mg W c2 D (sForL gg f (ds.drop i) c2.n), ⟨ds.length, c1, rfl, rfl, Nat.zero_le _, rfl, Step.refl _, S1, h1⟩, ?_⟩
  rintro i m σ H ⟨c2, rfl, rfl, hi, rfl, st2, S2, h2⟩
  obtain ⟨gi, gs⟩ := gv c2 st2 S2 i hi
  by_cases hlt : i < ds.length
  · have ed : ds[i]? = some ds[i] := List.getElem?_eq_getElem hlt
    obtain ⟨go, gy⟩ := gi _ ed
    have edr : ds.drop i = ds[i] :: ds.drop (i + 1) := List.drop_eq_getElem_cons hlt
    rw [edr] at h2
    refine .inr ⟨go, fun σ' H' => ∃ c3 : Cf, c3.s = σ' ∧ c3.H = H' ∧ Step c1 c3 ∧ Sim X.K c3 ∧ PstS X.K X.mg W c3 D (sForL gg f (ds.drop (i + 1)) c3.n), fun σ' H' ⟨c3, e1, e2, st3, S3, h3⟩ => ⟨ds.length - (i + 1), by omega, c3, e1, e2, hlt, rfl, st3, S3, h3⟩, fun x H' y => ?_⟩
    obtain ⟨F', st3, S3, r3⟩ := gy x H' y
    unfold sForL at h2
    cases eg : gg ds[i] c2.n with
    | none => rw [eg] at h2; exact h2.elim
    | some n3 =>
      rw [eg] at h2
      refine sg ⟨c2.n, c2.s, H', F'⟩ _ x n3 _ S3 r3 eg fun σ4 st4 S4 _ _ => ?_
      have st24 : Step c2 ⟨n3, σ4, H', F'⟩ := st3.trans st4
      refine sb ⟨n3, σ4, H', F'⟩ _ S4 ?_
      dsimp only at h2
      cases er : f n3 with
      | nx n5 =>
        rw [er] at h2
        exact fun σ5 H5 F5 st5 S5 => ⟨⟨n5, σ5, H5, F5⟩, rfl, rfl, st2.trans (st24.trans st5), S5, PstS.step (c := c2) (st24.trans st5) h2⟩
      | ct n5 =>
        rw [er] at h2
        exact fun σ5 H5 F5 st5 S5 => ⟨⟨n5, σ5, H5, F5⟩, rfl, rfl, st2.trans (st24.trans st5), S5, PstS.step (c := c2) (st24.trans st5) h2⟩
      | brk n5 =>
        rw [er] at h2
        exact fun σ5 H5 F5 st5 S5 => h2 σ5 H5 F5 (st24.trans st5) S5
      | ret d n5 =>
        rw [er] at h2
        exact fun v5 σ5 H5 F5 st5 S5 r5 => h2 v5 σ5 H5 F5 (st24.trans st5) S5 r5
      | err x n5 =>
        rw [er] at h2
        exact fun cls d5 σ5 H5 F5 st5 S5 r5 => h2 cls d5 σ5 H5 F5 (st24.trans st5) S5 r5
      | bad => rw [er] at h2; exact h2.elim
  · have e : i = ds.length := by omega
    subst e
    refine .inl ⟨gs rfl, ?_⟩
    rw [List.drop_length] at h2
    exact h2 c2.s c2.H c2.F (Step.refl _) S2
/-- at most so many turns -/
def sWhile : Nat → (NSt → R Bool) → NStm → NStm
  | 0, _, _, _ => .bad
  | k + 1, t, body, n => (t n).st fun b n1 => if b = true then (match body n1 with
      | .nx n2 => sWhile k t body n2
      | .ct n2 => sWhile k t body n2
      | .brk n2 => .nx n2
      | r => r) else .nx n1
theorem ns_while (k : Nat) {c : Expr} {body : List Stmt} {t : NSt → R Bool} (hp : PassesOwn (model X.prog X.w) X.A X.env X.xe) (hc : NT X W c t) (hb : NSs X W body f) : NS X W (.While c body [] pos) (sWhile k t f) := by
  obtain ⟨tc, pc, sc⟩ := hc.ex
  obtain ⟨tb, pb, sb⟩ := hb.ex
  refine ⟨tWhile tc tb, ps_while hp pc pb, fun c D S h => ?_⟩
  refine ⟨fun m σ H => ∃ c2 : Cf, c2.s = σ ∧ c2.H = H ∧ Step c c2 ∧ Sim X.K c2 ∧ PstS X.K X.mg W c2 D (sWhile m t f c2.n), ⟨k, c, rfl, rfl, Step.refl _, S, h⟩, ?_⟩
  rintro m σ H ⟨c2, rfl, rfl, st2, S2, h2⟩
  cases m with
  | zero => exact h2.elim
  | succ m =>
    refine sc c2 _ S2 (Pst.seqS (rel := relT) h2 fun b n3 b' H3 F3 _ st3 S3 r h3 => ?_)
    cases r
    cases b with
    | false => exact iteF (h3 c2.s H3 F3 (Step.refl _) S3)
    | true =>
      refine iteT ⟨fun σ' H' => ∃ c3 : Cf, c3.s = σ' ∧ c3.H = H' ∧ Step c c3 ∧ Sim X.K c3 ∧ PstS X.K X.mg W c3 D (sWhile m t f c3.n), fun σ' H' q => ⟨m, Nat.lt_succ_self m, q⟩, ?_⟩
      refine sb ⟨n3, c2.s, H3, F3⟩ _ S3 ?_
      have h3 : PstS X.K X.mg W ⟨n3, c2.s, H3, F3⟩ D (match f n3 with
        | .nx n2 => sWhile m t f n2
        | .ct n2 => sWhile m t f n2
        | .brk n2 => .nx n2
        | r => r) := h3
      have st23 : Step c ⟨n3, c2.s, H3, F3⟩ := st2.trans st3
      cases er : f n3 with
      | nx n5 =>
        rw [er] at h3
        exact fun σ5 H5 F5 st5 S5 => ⟨⟨n5, σ5, H5, F5⟩, rfl, rfl, st23.trans st5, S5, PstS.step (c := ⟨n3, c2.s, H3, F3⟩) st5 h3⟩
      | ct n5 =>
        rw [er] at h3
        exact fun σ5 H5 F5 st5 S5 => ⟨⟨n5, σ5, H5, F5⟩, rfl, rfl, st23.trans st5, S5, PstS.step (c := ⟨n3, c2.s, H3, F3⟩) st5 h3⟩
      | brk n5 => rw [er] at h3; exact h3
      | ret d n5 => rw [er] at h3; exact h3
      | err x n5 => rw [er] at h3; exact h3
      | bad => rw [er] at h3; exact h3.elim
end

/-! ### defs -/
/-- a def's promise: g, over its arguments -/
def NProm (K : PySem.W.Frag) (mg : Str → Option Value) (k : Nat) (g : NExp) : Sp := fun vs H Q E => ∃ (a : NSt) (F : Fz), a.length = k ∧ (∀ (i : Nat) (xs : List PyData), a[i]? ≠ some (some (Sl.own xs))) ∧ (∀ o ∈ a, o ≠ none) ∧ Sim K ⟨a, vs.map some, H, F⟩ ∧
  Pst K mg (fun cls d _ H' => E cls d H') (relE K) ⟨a, vs.map some, H, F⟩ Q (g a)
/-- a def of the text, where it stands, what it promises -/
structure NFn (P : Program) (w : World) (K : PySem.W.Frag) (mg : Str → Option Value) (base : Heap) (k : Nat) (x : Str) (n : Nat) (g : NExp) : Prop where
  ex : ∃ (f : Addr) (fd : FuncData) (ps : List Str), FnOk P w K mg base (L2.CX P w) k f fd ps (NProm K mg n g) ∧ mg x = some (.ref f) ∧ PySem.W.keepIn K (.ref f) = true ∧ Binds K fd ps []
theorem NFn.mono {P : Program} {w : World} {K : PySem.W.Frag} {mg : Str → Option Value} {base : Heap} {k k' : Nat} {x : Str} {n : Nat} {g : NExp} (h : NFn P w K mg base k x n g) (hk : k ≤ k') : NFn P w K mg base k' x n g :=
  let ⟨f, fd, ps, F, m, kp, b⟩ := h.ex; ⟨f, fd, ps, F.mono hk, m, kp, b⟩
def outs (a n' : NSt) : NSt := List.zipWith (fun s s' => match s with
  | some (.lent _) => s'
  | s => s) a n'
def runD (N : Nat) (body : NStm) : NExp := fun a => match body (a ++ List.replicate (N - a.length) none) with
  | .ret d n' => .ok d (outs a n')
  | .nx n' => .ok .none (outs a n')
  | .err x n' => .err x (outs a n')
  | _ => .bad
theorem outs_get {a n' : NSt} {i : Nat} {s : Option Sl} (h : a[i]? = some s) (hl : a.length ≤ n'.length) : (outs a n')[i]? = some (match s with
  | some (.lent _) => n'[i]?.getD none
  | s => s) := by
  unfold outs
  have hi : i < a.length := lt_of_get h
  have hi' : i < n'.length := Nat.lt_of_lt_of_le hi hl
  rw [List.getElem?_zipWith]
  cases s with
  | none => simp [h, List.getElem?_eq_getElem hi']
  | some sl => cases sl <;> simp [h, List.getElem?_eq_getElem hi']
theorem outs_len {a n' : NSt} (hl : a.length ≤ n'.length) : (outs a n').length = a.length := by
  unfold outs
  rw [List.length_zipWith]
  omega
section
variable {K : PySem.W.Frag}
/-- behind a body, seen by its arguments -/
theorem Sim.outs {a n' : NSt} {vs : List V} {H H' : Hp} {F F' : Fz} {N : Nat} {σ' : L2.St} (S0 : Sim K ⟨a, vs.map some, H, F⟩) (hl : a.length ≤ N) (no : ∀ (i : Nat) (xs : List PyData), a[i]? ≠ some (some (Sl.own xs)))
    (st : Step ⟨a ++ List.replicate (N - a.length) none, vs.map some ++ List.replicate (N - a.length) none, H, F⟩ ⟨n', σ', H', F'⟩) (S : Sim K ⟨n', σ', H', F'⟩) :
    Step ⟨a, vs.map some, H, F⟩ ⟨NL.outs a n', vs.map some, H', F'⟩ ∧ Sim K ⟨NL.outs a n', vs.map some, H', F'⟩ := by
  have hN : n'.length = N := by
    have := st.ln
    simp only [List.length_append, List.length_replicate] at this
    omega
  have hln : a.length ≤ n'.length := by omega
  have hav : a.length = (vs.map some).length := S0.len
  have big : ∀ (i : Nat) (s : Sl), a[i]? = some (some s) → (a ++ List.replicate (N - a.length) none)[i]? = some (some s) := fun i s e => by
    rw [List.getElem?_append_left (lt_of_get e)]; exact e
  have small : ∀ (i : Nat) (s : Sl), (a ++ List.replicate (N - a.length) none)[i]? = some (some s) → a[i]? = some (some s) ∧ i < a.length := fun i s e => by
    by_cases hi : i < a.length
    · rw [List.getElem?_append_left hi] at e
      exact ⟨e, hi⟩
    · rw [List.getElem?_append_right (by omega), List.getElem?_replicate] at e
      split at e <;> cases e
  have sv : ∀ (i : Nat), i < a.length → (vs.map some ++ List.replicate (N - a.length) none : L2.St)[i]? = (vs.map some)[i]? := fun i hi => List.getElem?_append_left (by rw [← hav]; exact hi)
  let cA : Cf := ⟨a, vs.map some, H, F⟩
  let c0 : Cf := ⟨a ++ List.replicate (N - a.length) none, vs.map some ++ List.replicate (N - a.length) none, H, F⟩
  have hd0 : ∀ b, c0.Hd b → cA.Hd b := fun b ⟨i, s, e1, e2, e3⟩ => by
    obtain ⟨e4, hi⟩ := small i s e1
    exact ⟨i, s, e4, e2, by rw [← sv i hi]; exact e3⟩
  have hdA : ∀ b, cA.Hd b → c0.Hd b := fun b ⟨i, s, e1, e2, e3⟩ => ⟨i, s, big i s e1, e2, by
    show (vs.map some ++ List.replicate (N - a.length) none : L2.St)[i]? = _
    rw [sv i (lt_of_get e1)]; exact e3⟩
  have ow0 : ∀ b, ¬ c0.Ow b := fun b ⟨i, xs, e1, e2⟩ => no i xs (small i _ e1).1
  have frA : ∀ b, F b → F' b ∧ H' b = H b := fun b f => ⟨st.fz b f, st.keep b (S0.fz b f) fun z => S0.nohd (c := cA) f (hd0 b z)⟩
  -- a lent slot
  have lent : ∀ (i : Nat) (xs : List PyData), a[i]? = some (some (.lent xs)) → ∃ ys, n'[i]? = some (some (.lent ys)) ∧ σ'[i]? = (vs.map some)[i]? ∧ (NL.outs a n')[i]? = some (some (.lent ys)) := fun i xs e => by
    obtain ⟨ys, e1, e2⟩ := st.mu i xs (big i _ e)
    have e1' : n'[i]? = some (some (.lent ys)) := e1
    refine ⟨ys, e1', by rw [← sv i (lt_of_get e)]; exact e2, ?_⟩
    rw [outs_get e hln]
    show some (n'[i]?.getD none) = _
    rw [e1']; rfl
  have slotOf : ∀ (i : Nat) (s : Sl), (NL.outs a n')[i]? = some (some s) → (∃ xs, s = .lent xs ∧ ∃ ys, a[i]? = some (some (.lent ys)) ∧ n'[i]? = some (some (.lent xs)) ∧ σ'[i]? = (vs.map some)[i]?) ∨ (a[i]? = some (some s) ∧ s.held = false) := fun i s e => by
    have hi : i < a.length := by
      have := lt_of_get e
      rw [outs_len hln] at this; exact this
    cases q : a[i]? with
    | none => rw [List.getElem?_eq_getElem hi] at q; cases q
    | some o =>
      cases o with
      | none =>
        rw [outs_get q hln] at e
        cases e
      | some t =>
        cases t with
        | lent ys =>
          obtain ⟨zs, e1, e2, e3⟩ := lent i ys q
          rw [e3] at e
          cases e
          exact .inl ⟨zs, rfl, ys, rfl, e1, e2⟩
        | own ys => exact absurd q (no i ys)
        | val d =>
          rw [outs_get q hln] at e
          cases e
          exact .inr ⟨rfl, rfl⟩
        | scr d =>
          rw [outs_get q hln] at e
          cases e
          exact .inr ⟨rfl, rfl⟩
  have hdO : ∀ b, (⟨NL.outs a n', vs.map some, H', F'⟩ : Cf).Hd b → cA.Hd b := fun b ⟨i, s, e1, e2, e3⟩ => by
    rcases slotOf i s e1 with ⟨xs, rfl, ys, h1, h2, h3⟩ | ⟨h1, h2⟩
    · exact ⟨i, _, h1, rfl, e3⟩
    · rw [h2] at e2; cases e2
  refine ⟨⟨fun b n nh => st.keep b n fun z => nh (hd0 b z), st.live, st.fz, fun b f => ?_, fun b h => .inl (hdO b h), fun b ⟨i, xs, e1, e2⟩ => ?_, fun i xs e => ?_, outs_len hln⟩, ⟨by rw [show (NL.outs a n').length = a.length from outs_len hln]; exact hav, fun i s e => ?_, fun i j si sj b e1 e2 h1 h2 q1 q2 => ?_, S.fz⟩⟩
  · rcases st.fn b f with z | z | z
    · exact .inl z
    · exact .inr (.inl z)
    · exact absurd z (ow0 b)
  · rcases slotOf i _ e1 with ⟨zs, z, _⟩ | ⟨h1, h2⟩
    · cases z
    · cases h2
  · obtain ⟨ys, _, _, e3⟩ := lent i xs e
    exact ⟨ys, e3, rfl⟩
  · rcases slotOf i s e with ⟨xs, rfl, ys, h1, h2, h3⟩ | ⟨h1, h2⟩
    · obtain ⟨v, e1, r⟩ := S.slot i _ h2
      exact ⟨v, by show (vs.map some)[i]? = _; rw [← h3]; exact e1, r⟩
    · obtain ⟨v, e1, r⟩ := S0.slot i s h1
      refine ⟨v, e1, ?_⟩
      cases s with
      | val d => exact Rep.keep frA d v r
      | own d => cases h2
      | lent d => cases h2
      | scr d =>
        obtain ⟨b, ns, e2, e3, z⟩ := r
        refine ⟨b, ns, e2, e3, ?_⟩
        rcases z with ⟨o, z⟩ | z
        · refine .inl ⟨o, (st.keep b (by show H b ≠ none; rw [show H b = _ from z]; simp) fun hh => ?_).trans z⟩
          obtain ⟨k, t, q1, q2, q3⟩ := hd0 b hh
          obtain ⟨u, q4, q5⟩ := S0.slot k t q1
          have q3' : (vs.map some)[k]? = some (some (V.ref b)) := q3
          have q4' : (vs.map some)[k]? = some (some u) := q4
          rw [q3'] at q4'
          cases q4'
          cases t with
          | val d => cases q2
          | scr d => cases q2
          | own d =>
            obtain ⟨b', ws, y1, _, y2, _⟩ := q5
            cases y1
            have z2 := z.symm.trans y2
            cases z2
          | lent d =>
            obtain ⟨b', ws, y1, _, y2, _⟩ := q5
            cases y1
            have z2 := z.symm.trans y2
            cases z2
        · exact .inr z
  · have low : ∀ (i : Nat) (s : Sl), (NL.outs a n')[i]? = some (some s) → s.held = true → ∃ t : Sl, a[i]? = some (some t) ∧ t.held = true := fun i s e hh => by
      rcases slotOf i s e with ⟨xs, rfl, ys, h1, h2, h3⟩ | ⟨h1, h2⟩
      · exact ⟨_, h1, rfl⟩
      · rw [h2] at hh; cases hh
    obtain ⟨t1, z1, y1⟩ := low i si e1 h1
    obtain ⟨t2, z2, y2⟩ := low j sj e2 h2
    exact S0.sep i j t1 t2 b z1 z2 y1 y2 q1 q2
theorem map_some_none {vs : List V} {m : Nat} : (vs.map some ++ List.replicate m none : L2.St) = vs.map some ++ List.replicate m none := rfl
/-- ahead of a body -/
theorem Sim.enter {a : NSt} {vs : List V} {H : Hp} {F : Fz} (S : Sim K ⟨a, vs.map some, H, F⟩) (m : Nat) : Sim K ⟨a ++ List.replicate m none, vs.map some ++ List.replicate m none, H, F⟩ := by
  have hav : a.length = (vs.map some).length := S.len
  have small : ∀ (i : Nat) (s : Sl), (a ++ List.replicate m none)[i]? = some (some s) → a[i]? = some (some s) ∧ i < a.length := fun i s e => by
    by_cases hi : i < a.length
    · rw [List.getElem?_append_left hi] at e
      exact ⟨e, hi⟩
    · rw [List.getElem?_append_right (by omega), List.getElem?_replicate] at e
      split at e <;> cases e
  have sv : ∀ (i : Nat), i < a.length → (vs.map some ++ List.replicate m none : L2.St)[i]? = (vs.map some)[i]? := fun i hi => List.getElem?_append_left (by rw [← hav]; exact hi)
  refine ⟨by simp only [List.length_append, List.length_replicate]; rw [hav], fun i s e => ?_, fun i j si sj b e1 e2 h1 h2 q1 q2 => ?_, S.fz⟩
  · obtain ⟨e1, hi⟩ := small i s e
    obtain ⟨v, e2, r⟩ := S.slot i s e1
    exact ⟨v, by show (vs.map some ++ List.replicate m none : L2.St)[i]? = _; rw [sv i hi]; exact e2, r⟩
  · obtain ⟨e1, hi⟩ := small i si e1
    obtain ⟨e2, hj⟩ := small j sj e2
    refine S.sep i j si sj b e1 e2 h1 h2 ?_ ?_
    · show (vs.map some)[i]? = _
      rw [← sv i hi]; exact q1
    · show (vs.map some)[j]? = _
      rw [← sv j hj]; exact q2
end
section
variable {P : Program} {w : World} {K : PySem.W.Frag} {mg : Str → Option Value} {base : Heap}
/-- THE RULE for a def -/
theorem NFn.ok {nm qual : Str} {params : Arguments} {sbody : List Stmt} {scope : Scope} {f : Addr} {fd : FuncData} {N ps : List Str} {k n : Nat} {body : NStm} (F : FunD K nm qual params sbody scope [] [] f fd) (S : FnScope N ps scope)
    (hn : n = ps.length)
    (hbody : ∀ (cdv : Value) (A : Around) (outer : List Env) (s : Shared) (H : Hp) (E : XK), Room k (A.deeper (envOfC qual scope s.heap.objs.size f cdv)) →
      NSs (cxOf (L2.CX P w) P w K mg base N qual scope f cdv A outer s H E) (fun cls d _ H' => E cls d H') sbody body) : FnOk P w K mg base (L2.CX P w) (k + 1) f fd ps (NProm K mg n (runD N.length body)) := by
  refine F.ok S (fun vs H Q E ⟨a, F', hl, _, _, S0, _⟩ => ?_) fun cdv A outer s H vs Q E hr hsp => ?_
  · have h1 : a.length = (vs.map some).length := S0.len
    rw [List.length_map] at h1
    omega
  · obtain ⟨t, p, sd⟩ := (hbody cdv A outer s H E hr).ex
    refine ⟨t, p, ?_⟩
    obtain ⟨a, F', hl, no, _, S0, q⟩ := hsp
    have h1 : a.length = (vs.map some).length := S0.len
    have hvl : vs.length = a.length := by rw [List.length_map] at h1; exact h1.symm
    have hN : a.length ≤ N.length := by
      have := congrArg List.length S.pre
      rw [List.length_take] at this
      omega
    have est : start N vs = vs.map some ++ List.replicate (N.length - a.length) none := by
      unfold start
      rw [hvl]
    rw [est]
    refine sd ⟨a ++ List.replicate (N.length - a.length) none, vs.map some ++ List.replicate (N.length - a.length) none, H, F'⟩ _ (S0.enter _) ?_
    unfold runD at q
    cases er : body (a ++ List.replicate (N.length - a.length) none) with
    | nx n' =>
      rw [er] at q
      intro σ' H' F2 st S2
      obtain ⟨st3, S3⟩ := Sim.outs S0 hN no st S2
      exact q .non H' F2 st3 S3 Rep.mkNone
    | ret d n' =>
      rw [er] at q
      intro v σ' H' F2 st S2 r
      obtain ⟨st3, S3⟩ := Sim.outs S0 hN no st S2
      exact q v H' F2 st3 S3 r
    | err x n' =>
      rw [er] at q
      intro cls d σ' H' F2 st S2 r
      obtain ⟨st3, S3⟩ := Sim.outs S0 hN no st S2
      exact q cls d H' F2 st3 S3 r
    | brk n' => rw [er] at q; exact q.elim
    | ct n' => rw [er] at q; exact q.elim
    | bad => rw [er] at q; exact q.elim
theorem NFn.of {x nm qual : Str} {params : Arguments} {sbody : List Stmt} {scope : Scope} {f : Addr} {fd : FuncData} {N ps : List Str} {k n : Nat} {body : NStm} (F : FunD K nm qual params sbody scope [] [] f fd) (hm : mg x = some (.ref f)) (S : FnScope N ps scope)
    (hb : Binds K fd ps []) (hn : n = ps.length)
    (hbody : ∀ (cdv : Value) (A : Around) (outer : List Env) (s : Shared) (H : Hp) (E : XK), Room k (A.deeper (envOfC qual scope s.heap.objs.size f cdv)) →
      NSs (cxOf (L2.CX P w) P w K mg base N qual scope f cdv A outer s H E) (fun cls d _ H' => E cls d H') sbody body) : NFn P w K mg base (k + 1) x n (runD N.length body) :=
  ⟨f, fd, ps, NFn.ok F S hn hbody, hm, F.kp, hb⟩
end
/-! ### calls -/
/-- the arguments, resolved in the state of the call -/
def resolve (n : NSt) : List AV → Option NSt
  | [] => some []
  | .v d :: as => (resolve n as).map (some (Sl.val d) :: ·)
  | .o i :: as => match n[i]? with
    | some (some (.own xs)) => (resolve n as).map (some (Sl.lent xs) :: ·)
    | some (some (.lent xs)) => (resolve n as).map (some (Sl.lent xs) :: ·)
    | some (some (.scr xs)) => (resolve n as).map (some (Sl.scr xs) :: ·)
    | _ => none
def ixs : List AV → List Nat
  | [] => []
  | .v _ :: as => ixs as
  | .o i :: as => i :: ixs as
/-- the lent lists come back -/
def putBack (n : NSt) (i : Nat) (o : Option Sl) : NSt := match o with
  | some (.lent ys) => (match n[i]? with
    | some (some sl) => n.set i (some (sl.put ys))
    | _ => n)
  | _ => n
def back (n : NSt) : List AV → NSt → NSt
  | [], _ => n
  | .v _ :: as, os => back n as os.tail
  | .o i :: as, os => back (putBack n i (os.head?.getD none)) as os.tail
def nCall (g : NExp) (fs : NSt → R (List AV)) : NExp := fun n => (fs n).bind fun as n1 => if (ixs as).Nodup then (match resolve n1 as with
  | some a => match g a with
    | .ok d os => .ok d (back n1 as os)
    | .err x os => .err x (back n1 as os)
    | .bad => .bad
  | none => .bad) else .bad

section
variable {K : PySem.W.Frag}
theorem resolve_len : ∀ {as : List AV} {n a : NSt}, resolve n as = some a → a.length = as.length
  | [], n, a, h => by cases h; rfl
  | .v d :: as, n, a, h => by
    unfold resolve at h
    cases e : resolve n as with
    | none => rw [e] at h; cases h
    | some b => rw [e] at h; cases h; simp [resolve_len e]
  | .o i :: as, n, a, h => by
    unfold resolve at h
    split at h
    all_goals first | cases h | skip
    all_goals
      cases e : resolve n as with
      | none => rw [e] at h; cases h
      | some b => rw [e] at h; cases h; simp [resolve_len e]
/-- where the j-th argument comes from -/
def From (n : NSt) (av : AV) (o : Option Sl) : Prop := match av with
  | .v d => o = some (.val d)
  | .o i => (∃ xs, n[i]? = some (some (.own xs)) ∧ o = some (.lent xs)) ∨ (∃ xs, n[i]? = some (some (.lent xs)) ∧ o = some (.lent xs)) ∨ (∃ xs, n[i]? = some (some (.scr xs)) ∧ o = some (.scr xs))
theorem resolve_at : ∀ {as : List AV} {n a : NSt} {j : Nat} {o : Option Sl}, resolve n as = some a → a[j]? = some o → ∃ av, as[j]? = some av ∧ From n av o
  | [], n, a, j, o, h, e => by cases h; simp at e
  | .v d :: as, n, a, j, o, h, e => by
    unfold resolve at h
    cases q : resolve n as with
    | none => rw [q] at h; cases h
    | some b =>
      rw [q] at h
      cases h
      cases j with
      | zero => simp at e; exact ⟨_, rfl, e.symm⟩
      | succ j =>
        obtain ⟨av, h1, h2⟩ := resolve_at (j := j) q (by simpa using e)
        exact ⟨av, by simpa using h1, h2⟩
  | .o i :: as, n, a, j, o, h, e => by
    unfold resolve at h
    split at h
    · rename_i xs hx
      cases q : resolve n as with
      | none => rw [q] at h; cases h
      | some b =>
        rw [q] at h
        cases h
        cases j with
        | zero => simp at e; exact ⟨_, rfl, .inl ⟨xs, hx, e.symm⟩⟩
        | succ j =>
          obtain ⟨av, h1, h2⟩ := resolve_at (j := j) q (by simpa using e)
          exact ⟨av, by simpa using h1, h2⟩
    · rename_i xs hx
      cases q : resolve n as with
      | none => rw [q] at h; cases h
      | some b =>
        rw [q] at h
        cases h
        cases j with
        | zero => simp at e; exact ⟨_, rfl, .inr (.inl ⟨xs, hx, e.symm⟩)⟩
        | succ j =>
          obtain ⟨av, h1, h2⟩ := resolve_at (j := j) q (by simpa using e)
          exact ⟨av, by simpa using h1, h2⟩
    · rename_i xs hx
      cases q : resolve n as with
      | none => rw [q] at h; cases h
      | some b =>
        rw [q] at h
        cases h
        cases j with
        | zero => simp at e; exact ⟨_, rfl, .inr (.inr ⟨xs, hx, e.symm⟩)⟩
        | succ j =>
          obtain ⟨av, h1, h2⟩ := resolve_at (j := j) q (by simpa using e)
          exact ⟨av, by simpa using h1, h2⟩
    · cases h
theorem ixs_mem : ∀ {as : List AV} {j i : Nat}, as[j]? = some (.o i) → i ∈ ixs as
  | [], j, i, h => by simp at h
  | .v d :: as, 0, i, h => by simp at h
  | .v d :: as, j + 1, i, h => by
    have := ixs_mem (as := as) (j := j) (i := i) (by simpa using h)
    simpa [ixs] using this
  | .o k :: as, 0, i, h => by simp at h; simp [ixs, h]
  | .o k :: as, j + 1, i, h => by
    have := ixs_mem (as := as) (j := j) (i := i) (by simpa using h)
    simp [ixs, this]
theorem ixs_inj : ∀ {as : List AV} {j k i : Nat}, (ixs as).Nodup → as[j]? = some (.o i) → as[k]? = some (.o i) → j = k
  | [], j, k, i, _, h, _ => by simp at h
  | .v d :: as, 0, k, i, _, h, _ => by simp at h
  | .v d :: as, j + 1, 0, i, _, _, h => by simp at h
  | .v d :: as, j + 1, k + 1, i, nd, h, h' => by
    exact congrArg (· + 1) (ixs_inj (as := as) (i := i) (j := j) (k := k) nd (by simpa using h) (by simpa using h'))
  | .o m :: as, 0, 0, i, _, _, _ => rfl
  | .o m :: as, 0, k + 1, i, nd, h, h' => by
    have e : m = i := by simpa using h
    subst e
    have := ixs_mem (as := as) (j := k) (i := m) (by simpa using h')
    exact absurd this (List.nodup_cons.mp nd).1
  | .o m :: as, j + 1, 0, i, nd, h, h' => by
    have e : m = i := by simpa using h'
    subst e
    have := ixs_mem (as := as) (j := j) (i := m) (by simpa using h)
    exact absurd this (List.nodup_cons.mp nd).1
  | .o m :: as, j + 1, k + 1, i, nd, h, h' => by
    exact congrArg (· + 1) (ixs_inj (as := as) (i := i) (j := j) (k := k) (List.nodup_cons.mp nd).2 (by simpa using h) (by simpa using h'))
theorem paired_at {α β : Type} {G : α → β → Prop} {l : List α} {m : List β} (h : Paired G l m) : ∀ {j : Nat} {a : α} {b : β}, l[j]? = some a → m[j]? = some b → G a b := by
  induction h with
  | nil => intro j a b e; simp at e
  | cons r t ih =>
    intro j a b e1 e2
    cases j with
    | zero => simp at e1 e2; subst e1 e2; exact r
    | succ j => exact ih (by simpa using e1) (by simpa using e2)
/-- what stands in a slot behind the call -/
theorem putBack_len {n : NSt} {i : Nat} {o : Option Sl} : (putBack n i o).length = n.length := by
  unfold putBack
  split
  · split <;> simp
  · rfl
theorem putBack_out {n : NSt} {i k : Nat} {o : Option Sl} (h : k ≠ i) : (putBack n k o)[i]? = n[i]? := by
  unfold putBack
  split
  · split
    · rw [List.getElem?_set_ne h]
    · rfl
  · rfl
theorem putBack_lent {n : NSt} {i : Nat} {ys : List PyData} {sl : Sl} (h : n[i]? = some (some sl)) : (putBack n i (some (.lent ys)))[i]? = some (some (sl.put ys)) := by
  unfold putBack
  simp only [h]
  rw [List.getElem?_set_self (lt_of_get h)]
theorem putBack_else {n : NSt} {i : Nat} {o : Option Sl} (h : ∀ ys, o ≠ some (.lent ys)) : putBack n i o = n := by
  unfold putBack
  split
  · rename_i ys
    exact absurd rfl (h ys)
  · rfl
theorem back_len : ∀ {as : List AV} {n os : NSt}, (back n as os).length = n.length
  | [], n, os => rfl
  | .v d :: as, n, os => by
    show (back n as os.tail).length = _
    exact back_len
  | .o i :: as, n, os => by
    show (back (putBack n i _) as os.tail).length = _
    rw [back_len, putBack_len]
theorem back_out : ∀ {as : List AV} {n os : NSt} {i : Nat}, i ∉ ixs as → (back n as os)[i]? = n[i]?
  | [], n, os, i, _ => rfl
  | .v d :: as, n, os, i, h => by
    show (back n as os.tail)[i]? = _
    exact back_out (as := as) (by simpa [ixs] using h)
  | .o k :: as, n, os, i, h => by
    have h1 : k ≠ i := fun z => h (by simp [ixs, z])
    have h2 : i ∉ ixs as := fun z => h (by simp [ixs, z])
    show (back (putBack n k _) as os.tail)[i]? = _
    rw [back_out (as := as) h2, putBack_out h1]
theorem back_at : ∀ {as : List AV} {n os : NSt} {i j : Nat} {sl : Sl}, (ixs as).Nodup → as[j]? = some (.o i) → n[i]? = some (some sl) →
    (∀ ys, os[j]? = some (some (.lent ys)) → (back n as os)[i]? = some (some (sl.put ys))) ∧ ((∀ ys, os[j]? ≠ some (some (.lent ys))) → (back n as os)[i]? = some (some sl))
  | [], n, os, i, j, sl, _, h, _ => by simp at h
  | .v d :: as, n, os, i, 0, sl, _, h, _ => by simp at h
  | .v d :: as, n, os, i, j + 1, sl, nd, h, e => by
    have := back_at (as := as) (n := n) (os := os.tail) (i := i) (j := j) (sl := sl) nd (by simpa using h) e
    have et : os.tail[j]? = os[j + 1]? := by cases os <;> simp
    rw [et] at this
    exact this
  | .o k :: as, n, os, i, 0, sl, nd, h, e => by
    have ek : k = i := by simpa using h
    subst ek
    have hk : k ∉ ixs as := (List.nodup_cons.mp nd).1
    have e0 : os[0]? = os.head? := by cases os <;> simp
    refine ⟨fun ys hy => ?_, fun hn => ?_⟩
    · rw [e0] at hy
      show (back (putBack n k (os.head?.getD none)) as os.tail)[k]? = _
      rw [back_out hk, hy]
      exact putBack_lent e
    · show (back (putBack n k (os.head?.getD none)) as os.tail)[k]? = _
      rw [back_out hk, putBack_else]
      · exact e
      · intro ys z
        cases q : os.head? with
        | none => rw [q] at z; cases z
        | some o =>
          rw [q] at z
          have z' : o = some (.lent ys) := z
          exact hn ys (by rw [e0, q, z'])
  | .o k :: as, n, os, i, j + 1, sl, nd, h, e => by
    have h' : as[j]? = some (.o i) := by simpa using h
    have hne : k ≠ i := fun z => by
      subst z
      exact (List.nodup_cons.mp nd).1 (ixs_mem h')
    have := back_at (as := as) (n := putBack n k (os.head?.getD none)) (os := os.tail) (i := i) (j := j) (sl := sl) (List.nodup_cons.mp nd).2 h' (by rw [putBack_out hne]; exact e)
    have et : os.tail[j]? = os[j + 1]? := by cases os <;> simp
    rw [et] at this
    exact this
theorem mem_ixs : ∀ {as : List AV} {i : Nat}, i ∈ ixs as → ∃ j : Nat, as[j]? = some (AV.o i)
  | [], i, h => by simp [ixs] at h
  | .v d :: as, i, h => by
    obtain ⟨j, e⟩ := mem_ixs (as := as) (i := i) (by simpa [ixs] using h)
    exact ⟨j + 1, by simpa using e⟩
  | .o k :: as, i, h => by
    by_cases e : i = k
    · exact ⟨0, by simp [e]⟩
    · obtain ⟨j, q⟩ := mem_ixs (as := as) (i := i) (by simpa [ixs, e] using h)
      exact ⟨j + 1, by simpa using q⟩
/-- the arguments as a state of their own -/
theorem Sim.args {c : Cf} (S : Sim K c) {as : List AV} {vs : List V} {a : NSt} (nd : (ixs as).Nodup) (r : Paired (AVRep K c) as vs) (e : resolve c.n as = some a) :
    Sim K ⟨a, vs.map some, c.H, c.F⟩ ∧ (∀ (i : Nat) (xs : List PyData), a[i]? ≠ some (some (Sl.own xs))) ∧ (∀ o ∈ a, o ≠ none) ∧ (∀ b, (⟨a, vs.map some, c.H, c.F⟩ : Cf).Hd b → ∃ (j i : Nat) (sl : Sl), as[j]? = some (.o i) ∧ c.n[i]? = some (some sl) ∧ sl.held = true ∧ c.s[i]? = some (some (.ref b))) := by
  have hlen : a.length = as.length := resolve_len e
  have hv : as.length = vs.length := Paired.length r
  have valAt : ∀ (j : Nat) (av : AV), as[j]? = some av → ∃ v, vs[j]? = some v ∧ AVRep K c av v := fun j av q => by
    have hj : j < vs.length := by rw [← hv]; exact lt_of_get q
    exact ⟨vs[j], List.getElem?_eq_getElem hj, paired_at r q (List.getElem?_eq_getElem hj)⟩
  have heldAt : ∀ (j : Nat) (s : Sl), a[j]? = some (some s) → s.held = true → ∃ (i : Nat) (xs : List PyData) (sl : Sl), as[j]? = some (.o i) ∧ c.n[i]? = some (some sl) ∧ sl.held = true ∧ sl.list? = some xs ∧ s = .lent xs := fun j s q hh => by
    obtain ⟨av, h1, h2⟩ := resolve_at e q
    cases av with
    | v d =>
      have h2' : some s = some (Sl.val d) := h2
      cases h2'; cases hh
    | o i =>
      rcases h2 with ⟨xs, h3, h4⟩ | ⟨xs, h3, h4⟩ | ⟨xs, h3, h4⟩
      · cases h4; exact ⟨i, xs, _, h1, h3, rfl, rfl, rfl⟩
      · cases h4; exact ⟨i, xs, _, h1, h3, rfl, rfl, rfl⟩
      · cases h4; cases hh
  have hdAt : ∀ (j : Nat) (s : Sl) (b : Addr), a[j]? = some (some s) → s.held = true → (vs.map some)[j]? = some (some (V.ref b)) → ∃ (i : Nat) (sl : Sl), as[j]? = some (.o i) ∧ c.n[i]? = some (some sl) ∧ sl.held = true ∧ c.s[i]? = some (some (.ref b)) := fun j s b q hh es => by
    obtain ⟨i, xs, sl, h1, h2, h3, _, _⟩ := heldAt j s q hh
    obtain ⟨v, hv1, hv2⟩ := valAt j _ h1
    have es' : (vs.map some)[j]? = some (some v) := by rw [List.getElem?_map, hv1]; rfl
    rw [es'] at es
    cases es
    exact ⟨i, sl, h1, h2, h3, hv2⟩
  refine ⟨⟨by show a.length = (vs.map some).length; rw [List.length_map]; omega, fun j s q => ?_, fun j k sj sk b e1 e2 h1 h2 q1 q2 => ?_, S.fz⟩, fun j xs q => ?_, fun o ho => ?_, fun b ⟨j, s, q, hh, es⟩ => ?_⟩
  · obtain ⟨av, h1, h2⟩ := resolve_at e q
    obtain ⟨v, hv1, hv2⟩ := valAt j av h1
    refine ⟨v, by show (vs.map some)[j]? = _; rw [List.getElem?_map, hv1]; rfl, ?_⟩
    cases av with
    | v d =>
      have h2' : some s = some (Sl.val d) := h2
      cases h2'
      exact hv2
    | o i =>
      have hv2' : c.s[i]? = some (some v) := hv2
      rcases h2 with ⟨xs, h3, h4⟩ | ⟨xs, h3, h4⟩ | ⟨xs, h3, h4⟩
      · cases h4
        obtain ⟨u, u1, u2⟩ := S.slot i _ h3
        rw [hv2'] at u1; cases u1
        exact u2
      · cases h4
        obtain ⟨u, u1, u2⟩ := S.slot i _ h3
        rw [hv2'] at u1; cases u1
        exact u2
      · cases h4
        obtain ⟨u, u1, u2⟩ := S.slot i _ h3
        rw [hv2'] at u1; cases u1
        exact u2
  · obtain ⟨i1, s1, z1, z2, z3, z4⟩ := hdAt j sj b e1 h1 q1
    obtain ⟨i2, s2, y1, y2, y3, y4⟩ := hdAt k sk b e2 h2 q2
    have := S.sep i1 i2 s1 s2 b z2 y2 z3 y3 z4 y4
    subst this
    exact ixs_inj nd z1 y1
  · obtain ⟨av, h1, h2⟩ := resolve_at e q
    cases av with
    | v d =>
      have h2' : some (Sl.own xs) = some (Sl.val d) := h2
      cases h2'
    | o i => rcases h2 with ⟨xs, h3, h4⟩ | ⟨xs, h3, h4⟩ | ⟨xs, h3, h4⟩ <;> cases h4
  · obtain ⟨j, hj⟩ := List.mem_iff_getElem?.mp ho
    obtain ⟨av, h1, h2⟩ := resolve_at e hj
    cases av with
    | v d =>
      have h2' : o = some (Sl.val d) := h2
      rw [h2']; simp
    | o i => rcases h2 with ⟨xs, h3, h4⟩ | ⟨xs, h3, h4⟩ | ⟨xs, h3, h4⟩ <;> (rw [h4]; simp)
  · obtain ⟨i, sl, h1, h2, h3, h4⟩ := hdAt j s b q hh es
    exact ⟨j, i, sl, h1, h2, h3, h4⟩
/-- behind the call -/
theorem Sim.back {c : Cf} (S : Sim K c) {as : List AV} {vs : List V} {a os : NSt} {H' : Hp} {F' : Fz} (nd : (ixs as).Nodup) (r : Paired (AVRep K c) as vs) (e : resolve c.n as = some a)
    (st : Step ⟨a, vs.map some, c.H, c.F⟩ ⟨os, vs.map some, H', F'⟩) (S' : Sim K ⟨os, vs.map some, H', F'⟩) :
    Step c ⟨back c.n as os, c.s, H', F'⟩ ∧ Sim K ⟨back c.n as os, c.s, H', F'⟩ ∧ ∀ b, (⟨back c.n as os, c.s, H', F'⟩ : Cf).Hd b → c.Hd b := by
  obtain ⟨SA, noown, _, hdA⟩ := S.args nd r e
  have hv : as.length = vs.length := Paired.length r
  have hdC : ∀ b, (⟨a, vs.map some, c.H, c.F⟩ : Cf).Hd b → c.Hd b := fun b h => let ⟨j, i, sl, h1, h2, h3, h4⟩ := hdA b h; ⟨i, sl, h2, h3, h4⟩
  have fr : ∀ b, c.F b → F' b ∧ H' b = c.H b := fun b f => ⟨st.fz b f, st.keep b (S.fz b f) fun z => S.nohd f (hdC b z)⟩
  have f' : ∀ b, F' b → c.F b ∨ c.H b = none := fun b f => by
    rcases st.fn b f with z | z | ⟨i, xs, z, _⟩
    · exact .inl z
    · exact .inr z
    · exact absurd z (noown i xs)
  -- the kind of a slot is kept
  have kind : ∀ (i : Nat) (sl : Sl), (NL.back c.n as os)[i]? = some (some sl) → ∃ sl0 : Sl, c.n[i]? = some (some sl0) ∧ (sl = sl0 ∨ ∃ ys, sl = sl0.put ys) := fun i sl q => by
    by_cases hi : i ∈ ixs as
    · obtain ⟨j, hj⟩ := mem_ixs hi
      have hn : i < c.n.length := by
        have := lt_of_get q
        rw [back_len] at this; exact this
      cases q0 : c.n[i]? with
      | none => rw [List.getElem?_eq_getElem hn] at q0; cases q0
      | some o =>
        cases o with
        | none =>
          -- an unset slot can't be an argument
          have : ∀ {as : List AV} {n a : NSt} {j : Nat}, resolve n as = some a → as[j]? = some (.o i) → n[i]? ≠ some none := fun {as n a j} h1 h2 h3 => by
            have hl := resolve_len h1
            have hja : j < a.length := by rw [hl]; exact lt_of_get h2
            obtain ⟨av, h4, h5⟩ := resolve_at h1 (List.getElem?_eq_getElem hja)
            rw [h2] at h4
            cases h4
            rcases h5 with ⟨xs, h6, _⟩ | ⟨xs, h6, _⟩ | ⟨xs, h6, _⟩ <;> (rw [h3] at h6; cases h6)
          exact absurd q0 (this e hj)
        | some sl0 =>
          obtain ⟨b1, b2⟩ := back_at (os := os) nd hj q0
          refine ⟨sl0, rfl, ?_⟩
          by_cases hy : ∃ ys, os[j]? = some (some (.lent ys))
          · obtain ⟨ys, hy⟩ := hy
            rw [b1 ys hy] at q
            cases q
            exact .inr ⟨ys, rfl⟩
          · rw [b2 fun ys z => hy ⟨ys, z⟩] at q
            cases q
            exact .inl rfl
    · rw [back_out hi] at q
      exact ⟨sl, q, .inl rfl⟩
  have putHeld : ∀ (sl0 sl : Sl), (sl = sl0 ∨ ∃ ys, sl = sl0.put ys) → sl.held = true → sl0.held = true := fun sl0 sl h hh => by
    rcases h with rfl | ⟨ys, rfl⟩
    · exact hh
    · cases sl0 <;> first | rfl | exact hh
  have hd' : ∀ b, (⟨NL.back c.n as os, c.s, H', F'⟩ : Cf).Hd b → c.Hd b := fun b ⟨i, sl, q, hh, es⟩ => by
    obtain ⟨sl0, q0, k⟩ := kind i sl q
    exact ⟨i, sl0, q0, putHeld sl0 sl k hh, es⟩
  refine ⟨⟨fun b n nh => st.keep b n fun z => nh (hdC b z), st.live, st.fz, fun b f => ?_, fun b h => .inl (hd' b h), fun b ⟨i, xs, q, es⟩ => ?_, fun i xs q => ?_, back_len⟩, ⟨by show (NL.back c.n as os).length = _; rw [back_len]; exact S.len, fun i sl q => ?_, fun i j si sj b e1 e2 h1 h2 q1 q2 => ?_, S'.fz⟩, hd'⟩
  · rcases f' b f with z | z
    · exact .inl z
    · exact .inr (.inl z)
  · obtain ⟨sl0, q0, k⟩ := kind i _ q
    rcases k with k | ⟨ys, k⟩
    · subst k
      exact .inl ⟨i, xs, q0, es⟩
    · cases sl0 with
      | own zs => exact .inl ⟨i, zs, q0, es⟩
      | lent zs => cases k
      | val zs => cases k
      | scr zs => cases k
  · show ∃ ys : List PyData, (NL.back c.n as os)[i]? = some (some (Sl.lent ys)) ∧ c.s[i]? = c.s[i]?
    by_cases hi : i ∈ ixs as
    · obtain ⟨j, hj⟩ := mem_ixs hi
      obtain ⟨b1, b2⟩ := back_at (os := os) nd hj q
      by_cases hy : ∃ ys, os[j]? = some (some (.lent ys))
      · obtain ⟨ys, hy⟩ := hy
        exact ⟨ys, b1 ys hy, rfl⟩
      · exact ⟨xs, b2 fun ys z => hy ⟨ys, z⟩, rfl⟩
    · exact ⟨xs, by rw [back_out hi]; exact q, rfl⟩
  · obtain ⟨sl0, q0, k⟩ := kind i sl q
    obtain ⟨v, e1, rv⟩ := S.slot i sl0 q0
    refine ⟨v, e1, ?_⟩
    -- an own list that was not lent
    have away : ∀ (b : Addr) (sl1 : Sl), c.n[i]? = some (some sl1) → sl1.held = true → c.s[i]? = some (some (.ref b)) → i ∉ ixs as → H' b = c.H b := fun b sl1 q1 hh es hi => by
      refine st.keep b (S.hdH ⟨i, sl1, q1, hh, es⟩) fun z => ?_
      obtain ⟨j, k, sl2, h1, h2, h3, h4⟩ := hdA b z
      have := S.sep i k sl1 sl2 b q1 h2 hh h3 es h4
      subst this
      exact hi (ixs_mem h1)
    cases sl0 with
    | val d =>
      have : sl = .val d := by rcases k with k | ⟨ys, k⟩ <;> exact k
      subst this
      exact Rep.keep fr d v rv
    | scr d =>
      have : sl = .scr d := by rcases k with k | ⟨ys, k⟩ <;> exact k
      subst this
      obtain ⟨b, ns, e2, e3, z⟩ := rv
      refine ⟨b, ns, e2, e3, ?_⟩
      rcases z with ⟨o, z⟩ | z
      · refine .inl ⟨o, (st.keep b (by show c.H b ≠ none; rw [z]; simp) fun hh => ?_).trans z⟩
        obtain ⟨k1, t, q1, q2, q3⟩ := hdC b hh
        obtain ⟨u, q4, q5⟩ := S.slot k1 t q1
        rw [q3] at q4
        cases q4
        cases t with
        | val d => cases q2
        | scr d => cases q2
        | own d =>
          obtain ⟨b', ws, y1, _, y2, _⟩ := q5
          cases y1
          have z2 := z.symm.trans y2
          cases z2
        | lent d =>
          obtain ⟨b', ws, y1, _, y2, _⟩ := q5
          cases y1
          have z2 := z.symm.trans y2
          cases z2
      · exact .inr z
    | own xs =>
      obtain ⟨b, ws, rfl, nf, hH, rr⟩ := rv
      by_cases hi : i ∈ ixs as
      · obtain ⟨j, hj⟩ := mem_ixs hi
        obtain ⟨b1, b2⟩ := back_at (os := os) nd hj q0
        have haj : a[j]? = some (some (.lent xs)) := by
          have hja : j < a.length := by rw [resolve_len e]; exact lt_of_get hj
          obtain ⟨av, h4, h5⟩ := resolve_at e (List.getElem?_eq_getElem hja)
          rw [hj] at h4
          cases h4
          rcases h5 with ⟨zs, h6, h7⟩ | ⟨zs, h6, h7⟩ | ⟨zs, h6, h7⟩
          · rw [q0] at h6; cases h6
            rw [List.getElem?_eq_getElem hja, h7]
          · rw [q0] at h6; cases h6
          · rw [q0] at h6; cases h6
        obtain ⟨ys, o1, o2⟩ := st.mu j xs haj
        have o1' : os[j]? = some (some (.lent ys)) := o1
        have q' := q
        rw [b1 ys o1'] at q'
        cases q'
        obtain ⟨u, u1, u2⟩ := S'.slot j _ o1'
        have vj : vs[j]? = some (.ref b) := by
          have hjv : j < vs.length := by rw [← hv]; exact lt_of_get hj
          have := paired_at r hj (List.getElem?_eq_getElem hjv)
          have e1' : c.s[i]? = some (some vs[j]) := this
          have z := Option.some.inj (Option.some.inj (e1.symm.trans e1'))
          rw [List.getElem?_eq_getElem hjv, ← z]
        have u1' : (vs.map some)[j]? = some (some u) := u1
        rw [List.getElem?_map, vj] at u1'
        cases u1'
        exact u2
      · have q' := q
        rw [back_out hi, q0] at q'
        cases q'
        refine ⟨b, ws, rfl, fun z => ?_, (away b _ q0 rfl e1 hi).trans hH, Reps.keep fr _ _ rr⟩
        rcases f' b z with y | y
        · exact nf y
        · rw [hH] at y; cases y
    | lent xs =>
      obtain ⟨b, ws, rfl, nf, hH, rr⟩ := rv
      by_cases hi : i ∈ ixs as
      · obtain ⟨j, hj⟩ := mem_ixs hi
        obtain ⟨b1, b2⟩ := back_at (os := os) nd hj q0
        have haj : a[j]? = some (some (.lent xs)) := by
          have hja : j < a.length := by rw [resolve_len e]; exact lt_of_get hj
          obtain ⟨av, h4, h5⟩ := resolve_at e (List.getElem?_eq_getElem hja)
          rw [hj] at h4
          cases h4
          rcases h5 with ⟨zs, h6, h7⟩ | ⟨zs, h6, h7⟩ | ⟨zs, h6, h7⟩
          · rw [q0] at h6; cases h6
          · rw [q0] at h6; cases h6
            rw [List.getElem?_eq_getElem hja, h7]
          · rw [q0] at h6; cases h6
        obtain ⟨ys, o1, o2⟩ := st.mu j xs haj
        have o1' : os[j]? = some (some (.lent ys)) := o1
        have q' := q
        rw [b1 ys o1'] at q'
        cases q'
        obtain ⟨u, u1, u2⟩ := S'.slot j _ o1'
        have vj : vs[j]? = some (.ref b) := by
          have hjv : j < vs.length := by rw [← hv]; exact lt_of_get hj
          have := paired_at r hj (List.getElem?_eq_getElem hjv)
          have e1' : c.s[i]? = some (some vs[j]) := this
          have z := Option.some.inj (Option.some.inj (e1.symm.trans e1'))
          rw [List.getElem?_eq_getElem hjv, ← z]
        have u1' : (vs.map some)[j]? = some (some u) := u1
        rw [List.getElem?_map, vj] at u1'
        cases u1'
        exact u2
      · have q' := q
        rw [back_out hi, q0] at q'
        cases q'
        refine ⟨b, ws, rfl, fun z => ?_, (away b _ q0 rfl e1 hi).trans hH, Reps.keep fr _ _ rr⟩
        rcases f' b z with y | y
        · exact nf y
        · rw [hH] at y; cases y
  · obtain ⟨t1, z1, k1⟩ := kind i si e1
    obtain ⟨t2, z2, k2⟩ := kind j sj e2
    exact S.sep i j t1 t2 b z1 z2 (putHeld _ _ k1 h1) (putHeld _ _ k2 h2) q1 q2
end
section
variable {X : Cx} {W : WX}
/-- f(..), an own def -/
theorem ne_call {k n : Nat} {x : Str} {g : NExp} {e : Expr} {es : List Expr} {fs : NSt → R (List AV)} {p pos : Pos} (F : NFn X.prog X.w X.K X.mg X.base k x n g) (hr : Room k X.A) (tk : Takes X W) (ha : NA X W (e :: es) fs) (hn : (e :: es).length = n) (hg : Gl X x := by rfl)
    (hl : ∀ (m : NSt) (as : List AV) (m' : NSt), fs m = .ok as m' → as.length = n)
    (hdb : (x == ("__debug__" : Str)) = false := by decide) (he : starEach (e :: es) X.env = (false, eval e X.env) :: starEach es X.env := by rfl) (hpl : (backTo pos (starEach es X.env)).any (·.1) = false := by rfl) :
    NE X W (.Call (.Name x p) (e :: es) [] pos) (nCall g fs) := by
  obtain ⟨f, fd, ps, G, hm, hk, hb⟩ := F.ex
  obtain ⟨t, pa, s⟩ := ha.ex
  refine ⟨_, pe_callS G hr hg hm hk hb (passAt tk) pa hdb he hpl, fun c Q S h => ?_⟩
  refine s c _ S (Pst.seq (rel := relA X.K) (rel' := relE X.K) mono_E h fun as n1 vs H1 F1 eok st1 S1 r1 h1 => ?_)
  split at h1
  · rename_i nd
    cases er : resolve n1 as with
    | none => rw [er] at h1; exact h1.elim
    | some a =>
      rw [er] at h1
      obtain ⟨SA, no, nn, _⟩ := Sim.args (c := ⟨n1, c.s, H1, F1⟩) S1 nd r1 er
      refine ⟨a, F1, by rw [resolve_len er]; exact hl _ _ _ eok, no, nn, SA, ?_⟩
      dsimp only at h1
      cases eg : g a with
      | ok d os =>
        rw [eg] at h1
        intro v H' F' st S' rv
        obtain ⟨st2, S2, _⟩ := Sim.back (c := ⟨n1, c.s, H1, F1⟩) S1 nd r1 er st S'
        exact h1 v H' F' st2 S2 rv
      | err x os =>
        rw [eg] at h1
        intro cls d H' F' st S' rv
        obtain ⟨st2, S2, _⟩ := Sim.back (c := ⟨n1, c.s, H1, F1⟩) S1 nd r1 er st S'
        exact h1 cls d H' F' st2 S2 rv
      | bad => rw [eg] at h1; exact h1.elim
  · exact h1.elim
end
end NL
end L2
/-! NL6: what is walked; list comprehensions. -/
namespace L2
namespace NL
open PySem PySem.Spec PyProof.Rows

/-! ### readings by the plain result -/
def cE (K : PySem.W.Frag) (mg : Str → Option Value) (W : WX) (f : NExp) : TE := fun σ H Q => ∃ c : Cf, c.s = σ ∧ c.H = H ∧ Sim K c ∧ Pst K mg W (relE K) c Q (f c.n)
def cT (K : PySem.W.Frag) (mg : Str → Option Value) (W : WX) (f : NSt → R Bool) : TT := fun σ H Q => ∃ c : Cf, c.s = σ ∧ c.H = H ∧ Sim K c ∧ Pst K mg W relT c Q (f c.n)
def cG (K : PySem.W.Frag) (vs : List Nat) (g : PyData → NSt → Option NSt) : TG := fun v σ H Q => ∃ (c : Cf) (d : PyData) (n' : NSt), c.s = σ ∧ c.H = H ∧ Sim K c ∧ Rep K c.H c.F d v ∧ g d c.n = some n' ∧
  ∀ σ', Step c ⟨n', σ', c.H, c.F⟩ → Sim K ⟨n', σ', c.H, c.F⟩ → (∀ j, j ∉ vs → σ'[j]? = c.s[j]? ∧ n'[j]? = c.n[j]?) → σ'.length = c.s.length → Q σ' c.H
theorem NE.canon {X : Cx} {W : WX} {e : Expr} {f : NExp} (h : NE X W e f) : PE X e (cE X.K X.mg W f) := by
  obtain ⟨t, p, s⟩ := h.ex
  exact ⟨fun pins s0 σ H Q I ⟨c, e1, e2, S, q⟩ => by subst e1 e2; exact p.run pins s0 c.s c.H Q I (s c Q S q)⟩
theorem NT.canon {X : Cx} {W : WX} {e : Expr} {f : NSt → R Bool} (h : NT X W e f) : PT X e (cT X.K X.mg W f) := by
  obtain ⟨t, p, s⟩ := h.ex
  exact ⟨fun pins s0 σ H Q I ⟨c, e1, e2, S, q⟩ => by subst e1 e2; exact p.run pins s0 c.s c.H Q I (s c Q S q)⟩
theorem NG.canon {X : Cx} {tg : Expr} {vs : List Nat} {g : PyData → NSt → Option NSt} (h : NG X tg vs g) : PG X tg (cG X.K vs g) := by
  obtain ⟨t, p, s⟩ := h.ex
  exact ⟨fun pins s0 σ H v u Q I r ⟨c, d, n', e1, e2, S, rr, eg, q⟩ => by subst e1 e2; exact p.run pins s0 c.s c.H v u Q I r (s c d v n' Q S rr eg q)⟩
abbrev W0 : WX := fun _ _ _ _ => False

/-! ### wiped slots -/
def wipeN (n : NSt) : List Nat → NSt
  | [] => n
  | v :: vs => (wipeN n vs).set v none
def restoreN (n n1 : NSt) : List Nat → NSt
  | [] => n
  | v :: vs => (restoreN n n1 vs).set v (n1[v]?.getD none)
theorem wipeN_len {n : NSt} : ∀ {vs : List Nat}, (wipeN n vs).length = n.length
  | [] => rfl
  | v :: vs => by unfold wipeN; rw [List.length_set, wipeN_len]
theorem restoreN_len {n n1 : NSt} : ∀ {vs : List Nat}, (restoreN n n1 vs).length = n.length
  | [] => rfl
  | v :: vs => by unfold restoreN; rw [List.length_set, restoreN_len]
theorem wipeN_out {n : NSt} {j : Nat} : ∀ {vs : List Nat}, j ∉ vs → (wipeN n vs)[j]? = n[j]?
  | [], _ => rfl
  | v :: vs, h => by
    unfold wipeN
    rw [List.getElem?_set_ne (fun z => h (by simp [z])), wipeN_out fun z => h (by simp [z])]
theorem restoreN_out {n n1 : NSt} {j : Nat} : ∀ {vs : List Nat}, j ∉ vs → (restoreN n n1 vs)[j]? = n[j]?
  | [], _ => rfl
  | v :: vs, h => by
    unfold restoreN
    rw [List.getElem?_set_ne (fun z => h (by simp [z])), restoreN_out fun z => h (by simp [z])]
theorem wipeN_in {n : NSt} {j : Nat} {sl : Sl} : ∀ {vs : List Nat}, j ∈ vs → (wipeN n vs)[j]? ≠ some (some sl)
  | [], h => by simp at h
  | v :: vs, h => by
    unfold wipeN
    by_cases e : v = j
    · subst e
      by_cases hl : v < (wipeN n vs).length
      · rw [List.getElem?_set_self hl]; simp
      · rw [List.getElem?_eq_none (by simpa using hl)]; simp
    · rw [List.getElem?_set_ne e]
      exact wipeN_in (by simpa [Ne.symm e] using h)
theorem restoreN_in {n n1 : NSt} {j : Nat} (hl : n.length = n1.length) : ∀ {vs : List Nat}, j ∈ vs → (restoreN n n1 vs)[j]? = n1[j]?
  | [], h => by simp at h
  | v :: vs, h => by
    unfold restoreN
    by_cases e : v = j
    · subst e
      by_cases hv : v < n1.length
      · rw [List.getElem?_set_self (by rw [restoreN_len]; omega), List.getElem?_eq_getElem hv]; rfl
      · rw [List.getElem?_eq_none (by rw [List.length_set, restoreN_len]; omega), List.getElem?_eq_none (by omega)]
    · rw [List.getElem?_set_ne e]
      exact restoreN_in hl (by simpa [Ne.symm e] using h)
theorem wipe_out' {σ : L2.St} {j : Nat} : ∀ {vs : List Nat}, j ∉ vs → (wipe σ vs)[j]? = σ[j]?
  | [], _ => rfl
  | v :: vs, h => by
    unfold wipe
    rw [List.getElem?_set_ne (fun z => h (by simp [z])), wipe_out' fun z => h (by simp [z])]
theorem wipe_in {σ : L2.St} {j : Nat} : ∀ {vs : List Nat}, j ∈ vs → (wipe σ vs)[j]? = if j < σ.length then some none else none
  | [], h => by simp at h
  | v :: vs, h => by
    unfold wipe
    by_cases e : v = j
    · subst e
      by_cases hl : v < σ.length
      · rw [List.getElem?_set_self (by rw [wipe_length]; exact hl), if_pos hl]
      · rw [List.getElem?_eq_none (by rw [List.length_set, wipe_length]; omega), if_neg hl]
    · rw [List.getElem?_set_ne e]
      exact wipe_in (by simpa [Ne.symm e] using h)
theorem wipe_eq {σ τ : L2.St} {vs : List Nat} (hl : τ.length = σ.length) (h : ∀ j, j ∉ vs → τ[j]? = (wipe σ vs)[j]?) : wipe τ vs = wipe σ vs := by
  apply List.ext_getElem?
  intro j
  by_cases hj : j ∈ vs
  · rw [wipe_in hj, wipe_in hj, hl]
  · rw [wipe_out' hj]; exact h j hj
def noHeld (n : NSt) (vs : List Nat) : Bool := vs.all fun v => match n[v]? with
  | some (some sl) => !sl.held
  | _ => true
theorem noHeld_ok {n : NSt} {vs : List Nat} (h : noHeld n vs = true) {v : Nat} (hv : v ∈ vs) {sl : Sl} (e : n[v]? = some (some sl)) : sl.held = false := by
  have := List.all_eq_true.mp h v hv
  rw [e] at this
  simpa using this

/-! ### the comprehension -/
def nLcL (g : PyData → NSt → Option NSt) (t : NSt → R Bool) (f : NExp) (vs : List Nat) : List PyData → List PyData → NSt → R (List PyData)
  | [], acc, n => .ok acc n
  | d :: ds, acc, n => match g d n with
    | none => .bad
    | some n1 => (t n1).bind fun b n2 => if b = true then (f n2).bind fun y n3 => if acc.length < sizeLine then nLcL g t f vs ds (acc ++ [y]) (wipeN n3 vs) else .bad
      else nLcL g t f vs ds acc (wipeN n2 vs)
def nLc (fi : NSt → R (List PyData)) (g : PyData → NSt → Option NSt) (t : NSt → R Bool) (f : NExp) (vs : List Nat) : NSt → R (List PyData) := fun n => (fi n).bind fun ds n1 => if noHeld n1 vs = true then (match nLcL g t f vs ds [] (wipeN n1 vs) with
  | .ok acc n2 => .ok acc (restoreN n2 n1 vs)
  | _ => .bad) else .bad
section
variable {K : PySem.W.Frag}
/-- a list that stands apart: D, in none of the slots -/
structure Apart (K : PySem.W.Frag) (c : Cf) (D : Addr) (acc : List PyData) : Prop where
  ex : ∃ ws, c.H D = some (.lst ws) ∧ Reps K c.H c.F acc ws
  nf : ¬ c.F D
  nh : ¬ c.Hd D
theorem Apart.step {c c' : Cf} {D : Addr} {acc : List PyData} (a : Apart K c D acc) (S : Sim K c) (st : Step c c') : Apart K c' D acc := by
  obtain ⟨ws, h, r⟩ := a.ex
  have hn : c.H D ≠ none := by rw [h]; simp
  refine ⟨⟨ws, (st.keep D hn a.nh).trans h, st.reps S r⟩, fun f => ?_, fun hd => ?_⟩
  · rcases st.fn D f with z | z | z
    · exact a.nf z
    · exact hn z
    · exact a.nh z.hd
  · rcases st.hd D hd with z | z
    · exact a.nh z
    · exact hn z
/-- D is written, slots are wiped -/
theorem Sim.wipeD {c1 c4 : Cf} {vs : List Nat} {D : Addr} {acc acc' : List PyData} {us : List V} (nv : ∀ v ∈ vs, ∀ sl : Sl, c1.n[v]? = some (some sl) → sl.held = false) (st : Step c1 c4) (S : Sim K c4) (hD : c1.H D = none) (nfD : ¬ c4.F D) (nhD : ¬ c4.Hd D) (hDl : ∀ o u, c4.H D ≠ some (.frz o u)) (sl : wipe c4.s vs = wipe c1.s vs)
    (r : Reps K c4.H c4.F acc' us) :
    let c5 : Cf := ⟨wipeN c4.n vs, wipe c1.s vs, upd c4.H D (.lst us), c4.F⟩; Step c1 c5 ∧ Sim K c5 ∧ Apart K c5 D acc' := by
  intro c5
  have fr : ∀ a, c4.F a → c4.F a ∧ upd c4.H D (.lst us) a = c4.H a := fun a f => ⟨f, upd_ne fun z => by subst z; exact nfD f⟩
  have old : ∀ (j : Nat) (s : Sl), (wipeN c4.n vs)[j]? = some (some s) → j ∉ vs ∧ c4.n[j]? = some (some s) := fun j s e => by
    by_cases hj : j ∈ vs
    · exact absurd e (wipeN_in hj)
    · rw [wipeN_out hj] at e; exact ⟨hj, e⟩
  have oldS : ∀ {j : Nat}, j ∉ vs → (wipe c1.s vs)[j]? = c4.s[j]? := fun {j} hj => by rw [← sl, wipe_out' hj]
  have hd5 : ∀ a, c5.Hd a → c4.Hd a := fun a ⟨j, s, e, hh, es⟩ => by
    obtain ⟨hj, e1⟩ := old j s e
    exact ⟨j, s, e1, hh, by rw [← oldS hj]; exact es⟩
  have hlen : c4.s.length = c1.s.length := by
    have h1 := wipe_length c4.s vs
    have h2 := wipe_length c1.s vs
    rw [sl] at h1
    omega
  refine ⟨⟨fun a n nh => ?_, fun a n => ?_, st.fz, st.fn, fun a h => st.hd a (hd5 a h), fun a ⟨j, xs, e, es⟩ => ?_, fun i xs e => ?_, by show (wipeN c4.n vs).length = _; rw [wipeN_len]; exact st.ln⟩, ⟨?_, fun j s e => ?_, fun i j si sj b e1 e2 h1 h2 q1 q2 => ?_, fun a f => ?_⟩, ⟨⟨us, upd_same, Reps.keep fr _ _ r⟩, nfD, fun h => nhD (hd5 D h)⟩⟩
  · have : a ≠ D := fun z => by subst z; exact n hD
    show upd c4.H D (.lst us) a = _
    rw [upd_ne this]; exact st.keep a n nh
  · have : a ≠ D := fun z => by subst z; exact n hD
    show upd c4.H D (.lst us) a ≠ none
    rw [upd_ne this]; exact st.live a n
  · obtain ⟨hj, e1⟩ := old j _ e
    exact st.ow a ⟨j, xs, e1, by rw [← oldS hj]; exact es⟩
  · obtain ⟨ys, e1, e2⟩ := st.mu i xs e
    have hi : i ∉ vs := fun z => by have := nv i z _ e; cases this
    exact ⟨ys, by show (wipeN c4.n vs)[i]? = _; rw [wipeN_out hi]; exact e1, by show (wipe c1.s vs)[i]? = _; rw [wipe_out' hi]⟩
  · show (wipeN c4.n vs).length = (wipe c1.s vs).length
    rw [wipeN_len, wipe_length, ← hlen]; exact S.len
  · obtain ⟨hj, e1⟩ := old j s e
    obtain ⟨v, e2, q⟩ := S.slot j s e1
    refine ⟨v, by show (wipe c1.s vs)[j]? = _; rw [oldS hj]; exact e2, ?_⟩
    have away : ∀ b, s.held = true → v = .ref b → b ≠ D := fun b hh z y => by
      subst z; subst y
      exact nhD ⟨j, s, e1, hh, e2⟩
    cases s with
    | val d => exact Rep.keep fr d v q
    | own xs =>
      obtain ⟨b, ws, rfl, nb, hb, rb⟩ := q
      exact ⟨b, ws, rfl, nb, (upd_ne (away b rfl rfl)).trans hb, Reps.keep fr _ _ rb⟩
    | lent xs =>
      obtain ⟨b, ws, rfl, nb, hb, rb⟩ := q
      exact ⟨b, ws, rfl, nb, (upd_ne (away b rfl rfl)).trans hb, Reps.keep fr _ _ rb⟩
    | scr xs =>
      obtain ⟨b, ns, rfl, e3, z⟩ := q
      refine ⟨b, ns, rfl, e3, ?_⟩
      rcases z with ⟨o, z⟩ | z
      · refine .inl ⟨o, (upd_ne fun y => ?_).trans z⟩
        subst y
        exact hDl _ _ z
      · exact .inr z
  · obtain ⟨hi, e1⟩ := old i si e1
    obtain ⟨hj, e2⟩ := old j sj e2
    exact S.sep i j si sj b e1 e2 h1 h2 (by rw [← oldS hi]; exact q1) (by rw [← oldS hj]; exact q2)
  · show upd c4.H D (.lst us) a ≠ none
    rw [(fr a f).2]; exact S.fz a f
/-- the slots as they were -/
theorem Sim.restoreD {c c1 cc : Cf} {vs : List Nat} {D : Addr} {acc : List PyData} (nv : ∀ v ∈ vs, ∀ sl : Sl, c1.n[v]? = some (some sl) → sl.held = false) (st0 : Step c c1) (S1 : Sim K c1) (st : Step c1 cc) (S : Sim K cc) (hs : c1.s = c.s) (hs2 : cc.s = wipe c1.s vs) (hD : c1.H D = none) (ap : Apart K cc D acc) :
    let c6 : Cf := ⟨restoreN cc.n c1.n vs, c.s, cc.H, cc.F⟩; Step c c6 ∧ Sim K c6 ∧ relO K c c6 acc (.ref D) := by
  intro c6
  have hl : cc.n.length = c1.n.length := st.ln
  have old : ∀ (j : Nat) (s : Sl), (restoreN cc.n c1.n vs)[j]? = some (some s) → (j ∈ vs ∧ c1.n[j]? = some (some s) ∧ s.held = false) ∨ (j ∉ vs ∧ cc.n[j]? = some (some s)) := fun j s e => by
    by_cases hj : j ∈ vs
    · rw [restoreN_in hl hj] at e
      exact .inl ⟨hj, e, nv j hj s e⟩
    · rw [restoreN_out hj] at e; exact .inr ⟨hj, e⟩
  have oldS : ∀ {j : Nat}, j ∉ vs → c.s[j]? = cc.s[j]? := fun {j} hj => by rw [hs2, wipe_out' hj, hs]
  have hd6 : ∀ a, c6.Hd a → cc.Hd a := fun a ⟨j, s, e, hh, es⟩ => by
    rcases old j s e with ⟨_, _, z⟩ | ⟨hj, e1⟩
    · rw [z] at hh; cases hh
    · exact ⟨j, s, e1, hh, by rw [← oldS hj]; exact es⟩
  have st2 := st0.trans st
  have cD : c.H D = none := Classical.byContradiction fun z => st0.live D z hD
  refine ⟨⟨st2.keep, st2.live, st2.fz, st2.fn, fun a h => st2.hd a (hd6 a h), fun a ⟨j, xs, e, es⟩ => ?_, fun i xs e => ?_, by show (restoreN cc.n c1.n vs).length = _; rw [restoreN_len]; exact st2.ln⟩, ⟨?_, fun j s e => ?_, fun i j si sj b e1 e2 h1 h2 q1 q2 => ?_, S.fz⟩, ?_⟩
  · rcases old j _ e with ⟨_, _, z⟩ | ⟨hj, e1⟩
    · cases z
    · exact st2.ow a ⟨j, xs, e1, by rw [← oldS hj]; exact es⟩
  · obtain ⟨ys, e1, e2⟩ := st0.mu i xs e
    have hi : i ∉ vs := fun z => by have := nv i z _ e1; cases this
    obtain ⟨zs, e3, e4⟩ := st.mu i ys e1
    exact ⟨zs, by show (restoreN cc.n c1.n vs)[i]? = _; rw [restoreN_out hi]; exact e3, rfl⟩
  · show (restoreN cc.n c1.n vs).length = c.s.length
    rw [restoreN_len, hl, ← hs]; exact S1.len
  · rcases old j s e with ⟨hj, e1, z⟩ | ⟨hj, e1⟩
    · obtain ⟨v, e2, q⟩ := S1.slot j s e1
      refine ⟨v, by rw [← hs]; exact e2, ?_⟩
      cases s with
      | val d => exact st.rep S1 q
      | own d => cases z
      | lent d => cases z
      | scr d =>
        obtain ⟨b, ns, rfl, e3, y⟩ := q
        refine ⟨b, ns, rfl, e3, ?_⟩
        rcases y with ⟨o, y⟩ | y
        · refine .inl ⟨o, (st.keep b (by rw [y]; simp) fun hh => ?_).trans y⟩
          obtain ⟨k1, t, q1, q2, q3⟩ := hh
          obtain ⟨u, q4, q5⟩ := S1.slot k1 t q1
          rw [q3] at q4
          cases q4
          cases t with
          | val d => cases q2
          | scr d => cases q2
          | own d =>
            obtain ⟨b', ws, y1, _, y2, _⟩ := q5
            cases y1
            have z2 := y.symm.trans y2
            cases z2
          | lent d =>
            obtain ⟨b', ws, y1, _, y2, _⟩ := q5
            cases y1
            have z2 := y.symm.trans y2
            cases z2
        · exact .inr y
    · obtain ⟨v, e2, q⟩ := S.slot j s e1
      exact ⟨v, by show c.s[j]? = _; rw [oldS hj]; exact e2, q⟩
  · rcases old i si e1 with ⟨_, _, z⟩ | ⟨hi, e1⟩
    · rw [z] at h1; cases h1
    · rcases old j sj e2 with ⟨_, _, z⟩ | ⟨hj, e2⟩
      · rw [z] at h2; cases h2
      · exact S.sep i j si sj b e1 e2 h1 h2 (by rw [← oldS hi]; exact q1) (by rw [← oldS hj]; exact q2)
  · obtain ⟨ws, h, r⟩ := ap.ex
    exact ⟨D, ws, rfl, cD, ap.nf, h, fun hd => ap.nh (hd6 D hd), r⟩
end
section
variable {X : Cx} {W : WX}
theorem lc_st {own : List (Str × Nat)} {wi : TI} {fi : NSt → R (List PyData)} {gg : PyData → NSt → Option NSt} {t : NSt → R Bool} {f : NExp}
    (si : ∀ (c : Cf) (Q : It → Hp → Prop), Sim X.K c → Pst X.K X.mg W (fun _ c1 ds J => Gives X.K J ds c1) c Q (fi c.n) → wi c.s c.H Q)
    {c : Cf} {Q : VK} (S : Sim X.K c) (h : Pst X.K X.mg W (relO X.K) c Q (nLc fi gg t f (own.map (·.2)) c.n)) :
    tLc wi (cG X.K (own.map (·.2)) gg) (cT X.K X.mg W0 t) (cE X.K X.mg W0 f) (own.map (·.2)) c.s c.H Q := by
  generalize hvs : own.map (·.2) = vs at h ⊢
  refine si c _ S (Pst.seq (rel := fun _ c1 ds J => Gives X.K J ds c1) (rel' := relO X.K) mono_O h fun ds n1 J H1 F1 _ st1 S1 gv h1 => ?_)
  intro D hD
  split at h1
  · rename_i hnh
    have nv : ∀ v ∈ vs, ∀ sl : Sl, n1[v]? = some (some sl) → sl.held = false := fun v hv sl e => noHeld_ok hnh hv e
    cases el : nLcL gg t f vs ds [] (wipeN n1 vs) with
    | ok accF nF =>
      rw [el] at h1
      let c1 : Cf := ⟨n1, c.s, H1, F1⟩
      have S1' : Sim X.K c1 := S1
      have start := Sim.wipeD (K := X.K) (c1 := c1) (c4 := c1) (vs := vs) (D := D) (acc := []) (acc' := []) (us := []) nv (Step.refl _) S1' hD (fun f => S1'.fz D f hD) (fun hd => S1'.hdH hd hD) (fun o u z => by have z' : H1 D = _ := z; rw [hD] at z'; cases z') rfl Reps.nil
      refine ⟨fun i m H => ∃ (cc : Cf) (acc : List PyData), cc.s = wipe c.s vs ∧ cc.H = H ∧ i ≤ ds.length ∧ m = ds.length - i ∧ Step c1 cc ∧ Sim X.K cc ∧ Apart X.K cc D acc ∧ nLcL gg t f vs (ds.drop i) acc cc.n = .ok accF nF, ⟨ds.length, _, [], rfl, rfl, Nat.zero_le _, rfl, start.1, start.2.1, start.2.2, el⟩, ?_⟩
      rintro i m H ⟨cc, acc, hcs, rfl, hi, rfl, stc, Sc, ap, er⟩
      obtain ⟨gi, gs⟩ := gv cc stc Sc i hi
      by_cases hlt : i < ds.length
      · have ed : ds[i]? = some ds[i] := List.getElem?_eq_getElem hlt
        obtain ⟨go, gy⟩ := gi _ ed
        have edr : ds.drop i = ds[i] :: ds.drop (i + 1) := List.drop_eq_getElem_cons hlt
        rw [edr] at er
        unfold nLcL at er
        refine .inr ⟨go, fun H' => ∃ (cc' : Cf) (acc' : List PyData), cc'.s = wipe c.s vs ∧ cc'.H = H' ∧ Step c1 cc' ∧ Sim X.K cc' ∧ Apart X.K cc' D acc' ∧ nLcL gg t f vs (ds.drop (i + 1)) acc' cc'.n = .ok accF nF,
          fun H' ⟨cc', acc', z1, z2, z3, z4, z5, z6⟩ => ⟨ds.length - (i + 1), by omega, cc', acc', z1, z2, hlt, rfl, z3, z4, z5, z6⟩, fun x H' y => ?_⟩
        obtain ⟨F', st3, S3, r3⟩ := gy x H' y
        cases eg : gg ds[i] cc.n with
        | none => rw [eg] at er; cases er
        | some n3 =>
          rw [eg] at er
          dsimp only at er
          refine ⟨⟨cc.n, cc.s, H', F'⟩, ds[i], n3, hcs, rfl, S3, r3, eg, fun σ4 st4 S4 kk ll => ?_⟩
          have st34 : Step cc ⟨n3, σ4, H', F'⟩ := st3.trans st4
          have w4 : wipe σ4 vs = wipe c.s vs := wipe_eq (by have l1 : σ4.length = cc.s.length := ll; rw [l1, hcs, wipe_length]) fun j hj => by
            have := (kk j hj).1
            have this' : σ4[j]? = cc.s[j]? := this
            rw [this', hcs]
          refine ⟨w4, ⟨n3, σ4, H', F'⟩, rfl, rfl, S4, ?_⟩
          cases et : t n3 with
          | bad => rw [et] at er; cases er
          | err x n5 => rw [et] at er; cases er
          | ok b n5 =>
            rw [et] at er
            intro b' H5 F5 st5 S5 rb
            cases rb
            have st35 : Step cc ⟨n5, σ4, H5, F5⟩ := st34.trans st5
            have er' : (if b = true then (f n5).bind fun y n3 => if acc.length < sizeLine then nLcL gg t f vs (ds.drop (i + 1)) (acc ++ [y]) (wipeN n3 vs) else .bad
              else nLcL gg t f vs (ds.drop (i + 1)) acc (wipeN n5 vs)) = .ok accF nF := er
            cases b with
            | false =>
              refine iteF ?_
              have a5 := ap.step Sc st35
              obtain ⟨ws, hw, rw5⟩ := a5.ex
              have fin := Sim.wipeD (K := X.K) (c1 := c1) (c4 := ⟨n5, σ4, H5, F5⟩) (vs := vs) (D := D) (acc := acc) (acc' := acc) (us := ws) nv (stc.trans st35) S5 hD a5.nf a5.nh (fun o u z => by have z' := hw.symm.trans z; cases z') w4 rw5
              have eH : upd H5 D (.lst ws) = H5 := by
                funext b
                by_cases hb : b = D
                · subst hb; rw [upd_same]; exact hw.symm
                · rw [upd_ne hb]
              refine ⟨_, acc, rfl, ?_, fin.1, fin.2.1, fin.2.2, er'⟩
              exact eH
            | true =>
              refine iteT ?_
              refine ⟨⟨n5, σ4, H5, F5⟩, rfl, rfl, S5, ?_⟩
              cases ef : f n5 with
              | bad => simp only [if_true] at er'; rw [ef] at er'; cases er'
              | err x n6 => simp only [if_true] at er'; rw [ef] at er'; cases er'
              | ok y' n6 =>
                simp only [if_true] at er'
                rw [ef] at er'
                intro v6 H6 F6 st6 S6 r6
                have er2 : (if acc.length < sizeLine then nLcL gg t f vs (ds.drop (i + 1)) (acc ++ [y']) (wipeN n6 vs) else R.bad) = .ok accF nF := er'
                split at er2
                · rename_i hz
                  have st36 : Step cc ⟨n6, σ4, H6, F6⟩ := st35.trans st6
                  have a6 := ap.step Sc st36
                  obtain ⟨ws, hw, rw6⟩ := a6.ex
                  refine ⟨ws, hw, by rw [rw6.length]; exact hz, ?_⟩
                  have fin := Sim.wipeD (K := X.K) (c1 := c1) (c4 := ⟨n6, σ4, H6, F6⟩) (vs := vs) (D := D) (acc := acc) (acc' := acc ++ [y']) (us := ws ++ [v6]) nv (stc.trans st36) S6 hD a6.nf a6.nh (fun o u z => by have z' := hw.symm.trans z; cases z') w4 (rw6.append (Reps.cons r6 Reps.nil))
                  exact ⟨_, acc ++ [y'], rfl, rfl, fin.1, fin.2.1, fin.2.2, er2⟩
                · cases er2
      · have e : i = ds.length := by omega
        subst e
        refine .inl ⟨gs rfl, ?_⟩
        rw [List.drop_length] at er
        unfold nLcL at er
        cases er
        have fin := Sim.restoreD (K := X.K) (c := ⟨n1, c.s, H1, F1⟩) (c1 := c1) (cc := cc) nv (Step.refl _) S1' stc Sc rfl hcs hD ap
        exact h1 (.ref D) cc.H cc.F fin.1 fin.2.1 fin.2.2
    | err x n => rw [el] at h1; exact h1.elim
    | bad => rw [el] at h1; exact h1.elim
  · exact h1.elim
abbrev BX (X : Cx) (s : Shared) (H : Hp) (scope : Scope) (C : Addr) (cl : List (Str × Addr)) (fp : List Addr) : Cx := X.blk s H scope (compEnvC scope cl C X.env) fp
def tYesN : NSt → R Bool := fun n => .ok true n
theorem neo_lc {elt tg iter : Expr} {ifs : List Expr} {scope : Scope} {own : List (Str × Nat)} {pos : Pos} {fi : NSt → R (List PyData)} {gg : PyData → NSt → Option NSt} {t : NSt → R Bool} {f : NExp} (hc : X.calm = true) (hN : X.N.Nodup) (hi : NI X W tg iter fi) (ok : BlkOk X.N X.env.scope scope own)
    (hg : ∀ s H C cl fp, NG (BX X s H scope C cl fp) tg (own.map (·.2)) gg) (ht : ∀ s H C cl fp, PTs (BX X s H scope C cl fp) ifs (cT X.K X.mg W0 t)) (he : ∀ s H C cl fp, NE (BX X s H scope C cl fp) W0 elt f)
    (hs : ∀ x, foldedSetIterable iter X.env x = pure x := by intro _; rfl) : NEo X W (.ListComp elt [⟨tg, iter, ifs, 0⟩] scope pos) (nLc fi gg t f (own.map (·.2))) := by
  obtain ⟨wi, pi, si⟩ := hi.ex
  exact ⟨_, pe_lc hc hN pi ok (fun s H C cl fp => (hg s H C cl fp).canon) ht (fun s H C cl fp => (he s H C cl fp).canon) hs, fun c Q S h => lc_st si S h⟩
/-- x = [.. for ..] on one line -/
theorem ns_ownLc (i : Nat) {y : Str} {py : Pos} {elt tg iter : Expr} {ifs : List Expr} {scope : Scope} {own : List (Str × Nat)} {pos spos : Pos} {fi : NSt → R (List PyData)} {gg : PyData → NSt → Option NSt} {t : NSt → R Bool} {f : NExp} (hc : X.calm = true) (hN : X.N.Nodup) (hy : X.N[i]? = some y) (hyl : X.env.scope.names.lookup y = some .local)
    (hsw : swapsWith (.ListComp elt [⟨tg, iter, ifs, 0⟩] scope pos) (some (.Name y py)) spos.line X.env = pure true) (hi : NI X W tg iter fi) (ok : BlkOk X.N X.env.scope scope own)
    (hg : ∀ s H C cl fp, NG (BX X s H scope C cl fp) tg (own.map (·.2)) gg) (ht : ∀ s H C cl fp, PTs (BX X s H scope C cl fp) ifs (cT X.K X.mg W0 t)) (he : ∀ s H C cl fp, NE (BX X s H scope C cl fp) W0 elt f)
    (hs : ∀ x, foldedSetIterable iter X.env x = pure x := by intro _; rfl) : NS X W (.Assign [.Name y py] (.ListComp elt [⟨tg, iter, ifs, 0⟩] scope pos) spos) (sOwn i (nLc fi gg t f (own.map (·.2)))) := by
  obtain ⟨wi, pi, si⟩ := hi.ex
  exact ⟨_, ps_setLc hc hN hy hyl hsw pi ok (fun s H C cl fp => (hg s H C cl fp).canon) ht (fun s H C cl fp => (he s H C cl fp).canon) hs, fun c D S h => own_st (fun c Q S h => lc_st si S h) S h⟩
/-- .. a value -/
def sSetL (i : Nat) (fo : NSt → R (List PyData)) : NStm := fun n => (fo n).st fun xs n1 => if notLent n1 i = true then .nx (n1.set i (some (.val (.list xs)))) else .bad
theorem setL_st {i : Nat} {fo : NSt → R (List PyData)} {t : TE} (s : ∀ (c : Cf) (Q : VK), Sim X.K c → Pst X.K X.mg W (relO X.K) c Q (fo c.n) → t c.s c.H Q) {c : Cf} {D : Ends} (S : Sim X.K c) (h : PstS X.K X.mg W c D (sSetL i fo c.n)) :
    t c.s c.H fun x H1 => D.nx (c.s.set i (some x)) H1 := by
  refine s c _ S ?_
  unfold sSetL at h
  cases q : fo c.n with
  | ok xs n1 =>
    rw [q] at h
    intro x H1 F1 st1 S1 r
    have h' : PstS X.K X.mg W c D (if notLent n1 i = true then .nx (n1.set i (some (.val (.list xs)))) else .bad) := h
    split at h'
    · rename_i hl
      obtain ⟨F2, S2, st2, r2⟩ := Sim.freeze S st1 S1 r
      obtain ⟨S3, st3⟩ := Sim.setVal S2 hl r2
      exact h' _ _ _ (st2.trans st3) S3
    · exact h'.elim
  | err x n1 => rw [q] at h; exact fun cls d H' F' s1 S1 r1 => h cls d c.s H' F' s1 S1 r1
  | bad => rw [q] at h; exact h
theorem ns_setLc (i : Nat) {y : Str} {py : Pos} {elt tg iter : Expr} {ifs : List Expr} {scope : Scope} {own : List (Str × Nat)} {pos spos : Pos} {fi : NSt → R (List PyData)} {gg : PyData → NSt → Option NSt} {t : NSt → R Bool} {f : NExp} (hc : X.calm = true) (hN : X.N.Nodup) (hy : X.N[i]? = some y) (hyl : X.env.scope.names.lookup y = some .local)
    (hsw : swapsWith (.ListComp elt [⟨tg, iter, ifs, 0⟩] scope pos) (some (.Name y py)) spos.line X.env = pure true) (hi : NI X W tg iter fi) (ok : BlkOk X.N X.env.scope scope own)
    (hg : ∀ s H C cl fp, NG (BX X s H scope C cl fp) tg (own.map (·.2)) gg) (ht : ∀ s H C cl fp, PTs (BX X s H scope C cl fp) ifs (cT X.K X.mg W0 t)) (he : ∀ s H C cl fp, NE (BX X s H scope C cl fp) W0 elt f)
    (hs : ∀ x, foldedSetIterable iter X.env x = pure x := by intro _; rfl) : NS X W (.Assign [.Name y py] (.ListComp elt [⟨tg, iter, ifs, 0⟩] scope pos) spos) (sSetL i (nLc fi gg t f (own.map (·.2)))) := by
  obtain ⟨wi, pi, si⟩ := hi.ex
  exact ⟨_, ps_setLc hc hN hy hyl hsw pi ok (fun s H C cl fp => (hg s H C cl fp).canon) ht (fun s H C cl fp => (he s H C cl fp).canon) hs, fun c D S h => setL_st (fun c Q S h => lc_st si S h) S h⟩
theorem pts_nilN {s : Shared} {H : Hp} {scope : Scope} {C : Addr} {cl : List (Str × Addr)} {fp : List Addr} : PTs (BX X s H scope C cl fp) [] (cT X.K X.mg W0 tYesN) :=
  ⟨fun pins s0 σ H Q I ⟨c, e1, e2, S, q⟩ => by subst e1 e2; exact pts_nil.run pins s0 c.s c.H Q I (q true c.H c.F (Step.refl _) S rfl)⟩
theorem pts_oneN {s : Shared} {H : Hp} {scope : Scope} {C : Addr} {cl : List (Str × Addr)} {fp : List Addr} {e : Expr} {t : NSt → R Bool} (h : NT (BX X s H scope C cl fp) W0 e t) : PTs (BX X s H scope C cl fp) [e] (cT X.K X.mg W0 t) := pts_one h.canon
end
/-! ### what is walked -/
section
variable {X : Cx} {W : WX} {tg e : Expr} {f : NExp}
def iAnyN (K : PySem.W.Frag) (tl : TE) : TI := fun σ H R => tl σ H fun x H1 => (∃ a, x = .ref a ∧ (∃ xs, SqL K H1 a xs) ∧ R (Itl K a) H1) ∨ (∃ a, x = .ref a ∧ (∃ xs, SqT K H1 a xs) ∧ R (Itt K a) H1) ∨ (∃ x', x = .str x' ∧ R (Its x') H1)
theorem pi_anyN {l : Expr} {tl : TE} (hl : PE X l tl) : PI X tg l (iAnyN X.K tl) := by
  refine ⟨fun pins s σ H R I h => ?_⟩
  refine thn (hl.run pins s σ H _ I h) fun v s1 ⟨x, H1, I1, r1, q1⟩ => ?_
  rcases q1 with ⟨a, e, ⟨xs, hq⟩, q⟩ | ⟨a, e, ⟨xs, hq⟩, q⟩ | ⟨x', e, q⟩
  · subst e
    cases r1
    obtain ⟨its, rv, p, hz⟩ := I1.list hq
    refine wpAny_pyIter_list p.isList ?_
    refine ⟨s1.heap.objs.size, [s1.heap.objs.size], _, _, H1, rfl, I1.kept (t' := s1.toks) fun b o e => Heap.get?_push_of_some _ e, turn_list a _, ⟨_, Heap.get?_push_size _ rfl, rfl, rfl⟩, fun b hb => ?_, q⟩
    have e : b = s1.heap.objs.size := by simpa using hb
    subst e
    exact I1.fpOk (Nat.le_refl _) (I1.hok.fresh (Nat.le_refl _))
  · subst e
    cases r1
    obtain ⟨its, rv, p, hz⟩ := I1.tuple hq
    refine wpAny_pyIter_tuple (show s1.heap.IsTuple a its.toArray from p) ?_
    refine ⟨s1.heap.objs.size, [s1.heap.objs.size], _, _, H1, rfl, I1.kept (t' := s1.toks) fun b o e => Heap.get?_push_of_some _ e, turn_tuple a _, ⟨_, Heap.get?_push_size _ rfl, rfl, rfl⟩, fun b hb => ?_, q⟩
    have e : b = s1.heap.objs.size := by simpa using hb
    subst e
    exact I1.fpOk (Nat.le_refl _) (I1.hok.fresh (Nat.le_refl _))
  · subst e
    obtain ⟨t, rfl⟩ := r1
    cases ha : x'.cps.all (· < 128)
    · exact wpAny_pyIter_wide ha (pi_one (tk := s1.toks) I1 _ (turn_str _ x' t "str_iterator" (.inr rfl)) ⟨_, Heap.get?_push_size _ rfl, rfl, rfl⟩ q)
    · exact wpAny_pyIter_ascii ha (pi_one (tk := s1.toks) I1 _ (turn_str _ x' t "str_ascii_iterator" (.inl rfl)) ⟨_, Heap.get?_push_size _ rfl, rfl, rfl⟩ q)
def seqOf : PyData → Option (List PyData)
  | .list xs => some xs
  | .tuple xs => some xs
  | .str z => some (z.cps.toList.map fun c => .str ⟨#[c]⟩)
  | _ => none
theorem gives_list {K : PySem.W.Frag} {c1 : Cf} {a : Addr} {ds : List PyData} {vs : List V} (S1 : Sim K c1) (f : c1.F a) (h : c1.H a = some (.lst vs)) (r : Reps K c1.H c1.F ds vs) : Gives K (Itl K a) ds c1 := fun c2 st S2 i hi => by
  have h2 : SqL K c2.H a vs := SqL.of ((st.frz S1 a f).2.trans h)
  have r2 := st.reps S1 r
  refine ⟨fun d ed => ?_, fun e => ⟨vs, h2, by rw [r.length]; omega⟩⟩
  obtain ⟨v, ev, rv⟩ := r2.get ed
  refine ⟨⟨vs, v, h2, ev⟩, fun x H' ⟨e1, e2⟩ => ?_⟩
  subst e1
  have e3 := e2 vs h2
  rw [ev] at e3
  cases e3
  exact ⟨c2.F, Step.refl _, S2, rv⟩
theorem gives_tup {K : PySem.W.Frag} {c1 : Cf} {a : Addr} {ds : List PyData} {vs : List V} (S1 : Sim K c1) (f : (c1.F a ∧ c1.H a = some (.tup vs)) ∨ ∀ H', SqT K H' a vs) (r : Reps K c1.H c1.F ds vs) : Gives K (Itt K a) ds c1 := fun c2 st S2 i hi => by
  have h2 : SqT K c2.H a vs := by
    rcases f with ⟨f, h⟩ | f
    · exact SqT.of ((st.frz S1 a f).2.trans h)
    · exact f _
  have r2 := st.reps S1 r
  refine ⟨fun d ed => ?_, fun e => ⟨vs, h2, by rw [r.length]; omega⟩⟩
  obtain ⟨v, ev, rv⟩ := r2.get ed
  refine ⟨⟨vs, v, h2, ev⟩, fun x H' ⟨e1, e2⟩ => ?_⟩
  subst e1
  have e3 := e2 vs h2
  rw [ev] at e3
  cases e3
  exact ⟨c2.F, Step.refl _, S2, rv⟩
theorem gives_str {K : PySem.W.Frag} {c1 : Cf} {z : Str} : Gives K (Its z) (z.cps.toList.map fun c => PyData.str ⟨#[c]⟩) c1 := fun c2 st S2 i hi => by
  rw [List.length_map, Array.length_toList] at hi
  refine ⟨fun d ed => ?_, fun e => by rw [List.length_map, Array.length_toList] at e; exact Nat.le_of_eq e.symm⟩
  rw [List.getElem?_map, Array.getElem?_toList] at ed
  cases q : z.cps[i]? with
  | none => rw [q] at ed; cases ed
  | some k =>
    rw [q] at ed
    cases ed
    refine ⟨?_, fun x H' ⟨e1, k', e2, e3⟩ => ?_⟩
    · obtain ⟨hlt, _⟩ := Array.getElem?_eq_some_iff.mp q
      exact hlt
    · subst e1 e3
      rw [q] at e2
      cases e2
      exact ⟨c2.F, Step.refl _, S2, Rep.mkStr⟩
def iV (f : NExp) : NSt → R (List PyData) := fun n => (f n).bind fun d n' => liftO (seqOf d) n'
theorem ni_v (h : NE X W e f) : NI X W tg e (iV f) := by
  obtain ⟨t, p, s⟩ := h.ex
  refine ⟨iAnyN X.K t, pi_anyN p, fun c Q S q => ?_⟩
  refine s c _ S (Pst.seq (rel := relE X.K) (rel' := fun _ c1 ds J => Gives X.K J ds c1) mono_I q fun d n' v H' F' _ st S' r q' => ?_)
  cases d with
  | list xs =>
    obtain ⟨a, vs, rfl, f, h, rs⟩ := Rep.list (K := X.K) (H := H') (F := F') r
    exact .inl ⟨a, rfl, ⟨vs, SqL.of h⟩, q' (Itl X.K a) H' F' (Step.refl _) S' (gives_list S' f h rs)⟩
  | tuple xs =>
    have r' : Rep X.K H' F' (.tuple xs) v := r
    unfold Rep at r'
    obtain ⟨a, vs, rfl, f, rs⟩ := r'
    refine .inr (.inl ⟨a, rfl, ⟨vs, ?_⟩, q' (Itt X.K a) H' F' (Step.refl _) S' (gives_tup S' f rs)⟩)
    rcases f with ⟨f, h⟩ | f
    · exact SqT.of h
    · exact f _
  | str z => exact .inr (.inr ⟨z, Rep.str (K := X.K) (H := H') (F := F') r, q' (Its z) H' F' (Step.refl _) S' gives_str⟩)
  | _ => exact q'.elim
/-- the script -/
def iScr (i : Nat) : NSt → R (List PyData) := fun n => match n[i]? with
  | some (some (.scr xs)) => .ok xs n
  | _ => .bad
theorem ni_scr (i : Nat) {x : Str} {pos : Pos} (hN : X.N[i]? = some x := by rfl) (hv : Vis X.env.scope x := by first | exact Or.inl rfl | exact Or.inr (Or.inl rfl) | exact Or.inr (Or.inr rfl)) (hd : (x == ("__debug__" : Str)) = false := by decide)
    (hcd : (x == ("__classdict__" : Str)) = false := by decide) : NI X W tg (.Name x pos) (iScr i) := by
  refine ⟨iList X.K (tVar i), pi_list (pe_var hN hv hd hcd), fun c Q S q => ?_⟩
  unfold iScr at q
  split at q
  · rename_i xs e
    obtain ⟨v, e1, a, ns, rfl, e2, ok⟩ := S.slot i _ e
    subst e2
    refine ⟨_, e1, a, rfl, ⟨_, ok.sq⟩, q (Itl X.K a) c.H c.F (Step.refl _) S fun c2 st S2 j hj => ?_⟩
    have h2 : SqL X.K c2.H a (ns.map V.int) := by
      rcases ok with ⟨o, ok⟩ | ok
      · refine .inl (.inr ⟨o, (st.keep a (by rw [ok]; simp) fun hh => ?_).trans ok⟩)
        obtain ⟨k1, t, q1, q2, q3⟩ := hh
        obtain ⟨u, q4, q5⟩ := S.slot k1 t q1
        rw [q3] at q4
        cases q4
        cases t with
        | val d => cases q2
        | scr d => cases q2
        | own d =>
          obtain ⟨b', ws, y1, _, y2, _⟩ := q5
          cases y1
          have z2 := ok.symm.trans y2
          cases z2
        | lent d =>
          obtain ⟨b', ws, y1, _, y2, _⟩ := q5
          cases y1
          have z2 := ok.symm.trans y2
          cases z2
      · exact ok _
    rw [List.length_map] at hj
    refine ⟨fun d ed => ?_, fun e => ⟨_, h2, by rw [List.length_map]; rw [List.length_map] at e; omega⟩⟩
    rw [List.getElem?_map] at ed
    cases q0 : ns[j]? with
    | none => rw [q0] at ed; cases ed
    | some k =>
      rw [q0] at ed
      cases ed
      have ek : (ns.map V.int)[j]? = some (.int k) := by rw [List.getElem?_map, q0]; rfl
      refine ⟨⟨_, _, h2, ek⟩, fun x H' ⟨e1, e2⟩ => ?_⟩
      subst e1
      have e3 := e2 _ h2
      rw [ek] at e3
      cases e3
      exact ⟨c2.F, Step.refl _, S2, Rep.mkInt⟩
  · exact q.elim
def rgD (lo hi : Int) : List PyData := (List.range (hi - lo).toNat).map fun (i : Nat) => .int (lo + (i : Int))
def rgOk (i : Int) : Bool := decide (-(2 ^ 62) ≤ i) && decide (i < 2 ^ 62)
theorem gives_rng {K : PySem.W.Frag} {c1 : Cf} {lo hi : Int} : Gives K (Itr lo (hi - lo).toNat) (rgD lo hi) c1 := fun c2 st S2 i hi' => by
  unfold rgD at hi' ⊢
  rw [List.length_map, List.length_range] at hi'
  refine ⟨fun d ed => ?_, fun e => by rw [List.length_map, List.length_range] at e; exact Nat.le_of_eq e.symm⟩
  rw [List.getElem?_map] at ed
  cases q : (List.range (hi - lo).toNat)[i]? with
  | none => rw [q] at ed; cases ed
  | some k =>
    rw [q] at ed
    cases ed
    obtain ⟨hlt, hk⟩ := List.getElem?_eq_some_iff.mp q
    rw [List.length_range] at hlt
    rw [List.getElem_range] at hk
    subst hk
    exact ⟨hlt, fun x H' ⟨e1, e2⟩ => by subst e1 e2; exact ⟨c2.F, Step.refl _, S2, Rep.mkInt⟩⟩
def iRg1 (f : NSt → R (List AV)) : NSt → R (List PyData) := fun n => (f n).bind fun as n' => match as with
  | [.v (.int j)] => if rgOk j = true then .ok (rgD 0 j) n' else .bad
  | _ => .bad
theorem rgOk_ok {i : Int} (h : rgOk i = true) : -(2 ^ 62) ≤ i ∧ i < 2 ^ 62 := by
  unfold rgOk at h
  obtain ⟨h1, h2⟩ := Bool.and_eq_true_iff.mp h
  exact ⟨of_decide_eq_true h1, of_decide_eq_true h2⟩
theorem ni_rg1 {a : Expr} {fs : NSt → R (List AV)} {p pos : Pos} (hm : X.mg "range" = none) (ha : NA X W [a] fs) (hg : Gl X "range" := by rfl) (hs : starEach [a] X.env = [(false, eval a X.env)] := by rfl) : NI X W tg (.Call (.Name "range" p) [a] [] pos) (iRg1 fs) := by
  obtain ⟨t, pa, s⟩ := ha.ex
  refine ⟨iRng1 t, pi_range1 hg hm pa hs, fun c Q S q => ?_⟩
  refine s c _ S (Pst.seq (rel := relA X.K) (rel' := fun _ c1 ds J => Gives X.K J ds c1) mono_I q fun as n' vs H' F' _ st S' r q' => ?_)
  split at q'
  · rename_i j _
    split at q'
    · rename_i hz
      cases r with
      | cons r1 rr =>
        cases rr
        obtain ⟨h1, h2⟩ := rgOk_ok hz
        have e1 : _ = V.int j := Rep.int (K := X.K) (H := H') (F := F') r1
        subst e1
        have gg : Gives X.K (Itr 0 j.toNat) (rgD 0 j) ⟨n', c.s, H', F'⟩ := by
          have := gives_rng (K := X.K) (c1 := ⟨n', c.s, H', F'⟩) (lo := 0) (hi := j)
          rw [Int.sub_zero] at this
          exact this
        exact ⟨j, rfl, h1, h2, q' (Itr 0 j.toNat) H' F' (Step.refl _) S' gg⟩
    · exact q'.elim
  · exact q'.elim
def iRg2 (f : NSt → R (List AV)) : NSt → R (List PyData) := fun n => (f n).bind fun as n' => match as with
  | [.v (.int i), .v (.int j)] => if rgOk i = true ∧ rgOk j = true then .ok (rgD i j) n' else .bad
  | _ => .bad
theorem ni_rg2 {a b : Expr} {fs : NSt → R (List AV)} {p pos : Pos} (hm : X.mg "range" = none) (ha : NA X W [a, b] fs) (hg : Gl X "range" := by rfl) (hs : starEach [a, b] X.env = [(false, eval a X.env), (false, eval b X.env)] := by rfl) (hs2 : starEach [b] X.env = [(false, eval b X.env)] := by rfl) :
    NI X W tg (.Call (.Name "range" p) [a, b] [] pos) (iRg2 fs) := by
  obtain ⟨t, pa, s⟩ := ha.ex
  refine ⟨iRng2 t, pi_range2 hg hm pa hs hs2, fun c Q S q => ?_⟩
  refine s c _ S (Pst.seq (rel := relA X.K) (rel' := fun _ c1 ds J => Gives X.K J ds c1) mono_I q fun as n' vs H' F' _ st S' r q' => ?_)
  split at q'
  · rename_i i j _
    split at q'
    · rename_i hz
      cases r with
      | cons r1 rr =>
        cases rr with
        | cons r2 rr =>
          cases rr
          obtain ⟨h1, h2⟩ := rgOk_ok hz.1
          obtain ⟨h3, h4⟩ := rgOk_ok hz.2
          have e1 : _ = V.int i := Rep.int (K := X.K) (H := H') (F := F') r1
          have e2 : _ = V.int j := Rep.int (K := X.K) (H := H') (F := F') r2
          subst e1 e2
          exact ⟨i, j, rfl, ⟨h1, h2, h3, h4⟩, q' (Itr i (j - i).toNat) H' F' (Step.refl _) S' gives_rng⟩
    · exact q'.elim
  · exact q'.elim
/-- zip of two lists, of two tuples -/
def zipD (xs ys : List PyData) : List PyData := List.zipWith (fun x y => .tuple [x, y]) xs ys
def iZp (f : NSt → R (List AV)) : NSt → R (List PyData) := fun n => (f n).bind fun as n' => match as with
  | [.v (.list xs), .v (.list ys)] => .ok (zipD xs ys) n'
  | [.v (.tuple xs), .v (.tuple ys)] => .ok (zipD xs ys) n'
  | _ => .bad
theorem ni_zip {a b : Expr} {fs : NSt → R (List AV)} {p pos tpos : Pos} {elts : List Expr} {kk : Nat} (hm : X.mg "zip" = none) (ha : NA X W [a, b] fs) (hg : Gl X "zip" := by rfl) (hs : starEach [a, b] X.env = (false, eval a X.env) :: starEach [b] X.env := by rfl) (hpl : (backTo pos (starEach [b] X.env)).any (·.1) = false := by rfl) :
    NI X W (.Tuple elts kk tpos) (.Call (.Name "zip" p) [a, b] [] pos) (iZp fs) := by
  obtain ⟨t, pa, s⟩ := ha.ex
  refine ⟨RZ.iZipA X.K t, RZ.pi_zipA hg hm pa hs hpl, fun c Q S q => ?_⟩
  refine s c _ S (Pst.seq (rel := relA X.K) (rel' := fun _ c1 ds J => Gives X.K J ds c1) mono_I q fun as n' vs H' F' _ st S' r q' => ?_)
  have pair : ∀ (c2 : Cf) (x y : PyData) (u w : V) (T : Addr), Sim X.K c2 → Rep X.K c2.H c2.F x u → Rep X.K c2.H c2.F y w → c2.H T = none → ∃ F', Step c2 ⟨c2.n, c2.s, upd c2.H T (.tup [u, w]), F'⟩ ∧ Sim X.K ⟨c2.n, c2.s, upd c2.H T (.tup [u, w]), F'⟩ ∧ Rep X.K (upd c2.H T (.tup [u, w])) F' (.tuple [x, y]) (.ref T) := fun c2 x y u w T S2 r1 r2 hT => by
    obtain ⟨h1, h2, h3⟩ := S2.newTup (p := T) hT (Reps.cons r1 (Reps.cons r2 Reps.nil))
    exact ⟨_, h2, h1, h3⟩
  have zget : ∀ (xs ys : List PyData) (i : Nat) (d : PyData), (zipD xs ys)[i]? = some d → ∃ x y, xs[i]? = some x ∧ ys[i]? = some y ∧ d = .tuple [x, y] := fun xs ys i d e => by
    unfold zipD at e
    rw [List.getElem?_zipWith] at e
    cases e1 : xs[i]? with
    | none => rw [e1] at e; simp at e
    | some x =>
      cases e2 : ys[i]? with
      | none => rw [e1, e2] at e; simp at e
      | some y => rw [e1, e2] at e; simp at e; exact ⟨x, y, rfl, rfl, e.symm⟩
  split at q'
  · rename_i xs ys _
    cases r with
    | cons r1 rr =>
      cases rr with
      | cons r2 rr =>
        cases rr
        obtain ⟨a, us, rfl, fa, ha', ra⟩ := Rep.list (K := X.K) (H := H') (F := F') r1
        obtain ⟨b, ws, rfl, fb, hb', rb⟩ := Rep.list (K := X.K) (H := H') (F := F') r2
        refine ⟨a, b, us, ws, rfl, .inl ⟨SqL.of ha', SqL.of hb', q' (Itz X.K a b) H' F' (Step.refl _) S' fun c2 st2 S2 i hi => ?_⟩⟩
        have ha2 : SqL X.K c2.H a us := SqL.of ((st2.frz S' a fa).2.trans ha')
        have hb2 : SqL X.K c2.H b ws := SqL.of ((st2.frz S' b fb).2.trans hb')
        refine ⟨fun d ed => ?_, fun e => ⟨us, ws, ha2, hb2, ?_⟩⟩
        · obtain ⟨x, y, e1, e2, rfl⟩ := zget xs ys i d ed
          obtain ⟨u, eu, ru⟩ := (st2.reps S' ra).get e1
          obtain ⟨w, ew, rw'⟩ := (st2.reps S' rb).get e2
          refine ⟨⟨us, ws, u, w, ha2, hb2, eu, ew⟩, fun v H2 ⟨T, u', w', e3, hT, e4, e5, e6⟩ => ?_⟩
          have e5' := e5 us ha2
          have e6' := e6 ws hb2
          rw [eu] at e5'
          rw [ew] at e6'
          cases e5'
          cases e6'
          subst e3 e4
          exact pair c2 x y u w T S2 ru rw' hT
        · unfold zipD at e
          rw [List.length_zipWith] at e
          rw [ra.length, rb.length]
          omega
  · rename_i xs ys _
    cases r with
    | cons r1 rr =>
      cases rr with
      | cons r2 rr =>
        cases rr
        have r1' : Rep X.K H' F' (.tuple xs) _ := r1
        have r2' : Rep X.K H' F' (.tuple ys) _ := r2
        unfold Rep at r1' r2'
        obtain ⟨a, us, rfl, fa, ra⟩ := r1'
        obtain ⟨b, ws, rfl, fb, rb⟩ := r2'
        have sq : ∀ (a : Addr) (us : List V), ((F' a ∧ H' a = some (.tup us)) ∨ ∀ H', SqT X.K H' a us) → ∀ c2 : Cf, Step ⟨n', c.s, H', F'⟩ c2 → SqT X.K c2.H a us := fun a us f c2 st2 => by
          rcases f with ⟨f, h⟩ | f
          · exact SqT.of ((st2.frz S' a f).2.trans h)
          · exact f _
        refine ⟨a, b, us, ws, rfl, .inr ⟨sq a us fa _ (Step.refl _), sq b ws fb _ (Step.refl _), q' (RZ.ItzT X.K a b) H' F' (Step.refl _) S' fun c2 st2 S2 i hi => ?_⟩⟩
        have ha2 := sq a us fa c2 st2
        have hb2 := sq b ws fb c2 st2
        refine ⟨fun d ed => ?_, fun e => ⟨us, ws, ha2, hb2, ?_⟩⟩
        · obtain ⟨x, y, e1, e2, rfl⟩ := zget xs ys i d ed
          obtain ⟨u, eu, ru⟩ := (st2.reps S' ra).get e1
          obtain ⟨w, ew, rw'⟩ := (st2.reps S' rb).get e2
          refine ⟨⟨us, ws, u, w, ha2, hb2, eu, ew⟩, fun v H2 ⟨T, u', w', e3, hT, e4, e5, e6⟩ => ?_⟩
          have e5' := e5 us ha2
          have e6' := e6 ws hb2
          rw [eu] at e5'
          rw [ew] at e6'
          cases e5'
          cases e6'
          subst e3 e4
          exact pair c2 x y u w T S2 ru rw' hT
        · unfold zipD at e
          rw [List.length_zipWith] at e
          rw [ra.length, rb.length]
          omega
  · exact q'.elim
/-- enumerate of a list -/
def enumD (k : Nat) : List PyData → List PyData
  | [] => []
  | x :: xs => .tuple [.int (k : Nat), x] :: enumD (k + 1) xs
theorem enumD_get : ∀ {xs : List PyData} {k i : Nat}, (enumD k xs)[i]? = (xs[i]?).map fun x => PyData.tuple [.int ((k + i : Nat) : Int), x]
  | [], k, i => by simp [enumD]
  | x :: xs, k, 0 => by simp [enumD]
  | x :: xs, k, i + 1 => by
    simp only [enumD, List.getElem?_cons_succ]
    rw [enumD_get]
    have e : k + 1 + i = k + (i + 1) := by omega
    rw [e]
theorem enumD_len : ∀ {xs : List PyData} {k : Nat}, (enumD k xs).length = xs.length
  | [], k => rfl
  | x :: xs, k => by simp [enumD, enumD_len]
def iEn (f : NSt → R (List AV)) : NSt → R (List PyData) := fun n => (f n).bind fun as n' => match as with
  | [.v (.list xs)] => .ok (enumD 0 xs) n'
  | _ => .bad
theorem ni_enum {a : Expr} {fs : NSt → R (List AV)} {p pos tpos : Pos} {elts : List Expr} {kk : Nat} (hm : X.mg "enumerate" = none) (ha : NA X W [a] fs) (hg : Gl X "enumerate" := by rfl) (hs : starEach [a] X.env = [(false, eval a X.env)] := by rfl) :
    NI X W (.Tuple elts kk tpos) (.Call (.Name "enumerate" p) [a] [] pos) (iEn fs) := by
  obtain ⟨t, pa, s⟩ := ha.ex
  refine ⟨iEnum X.K t, pi_enum hg hm pa hs, fun c Q S q => ?_⟩
  refine s c _ S (Pst.seq (rel := relA X.K) (rel' := fun _ c1 ds J => Gives X.K J ds c1) mono_I q fun as n' vs H' F' _ st S' r q' => ?_)
  split at q'
  · rename_i xs _
    cases r with
    | cons r1 rr =>
      cases rr
      obtain ⟨a, us, rfl, fa, ha', ra⟩ := Rep.list (K := X.K) (H := H') (F := F') r1
      refine ⟨a, us, rfl, SqL.of ha', q' (Ite X.K a) H' F' (Step.refl _) S' fun c2 st2 S2 i hi => ?_⟩
      have ha2 : SqL X.K c2.H a us := SqL.of ((st2.frz S' a fa).2.trans ha')
      refine ⟨fun d ed => ?_, fun e => ⟨us, ha2, by rw [ra.length]; rw [enumD_len] at e; omega⟩⟩
      rw [enumD_get] at ed
      cases e1 : xs[i]? with
      | none => rw [e1] at ed; cases ed
      | some x =>
        rw [e1] at ed
        cases ed
        obtain ⟨u, eu, ru⟩ := (st2.reps S' ra).get e1
        refine ⟨⟨us, u, ha2, eu⟩, fun v H2 ⟨T, u', e3, hT, e4, e5⟩ => ?_⟩
        have e5' := e5 us ha2
        rw [eu] at e5'
        cases e5'
        subst e3 e4
        have e0 : 0 + i = i := Nat.zero_add i
        rw [e0]
        obtain ⟨h1, h2, h3⟩ := S2.newTup (p := T) hT (Reps.cons (Rep.mkInt (i := (i : Int))) (Reps.cons ru Reps.nil))
        exact ⟨_, h2, h1, h3⟩
  · exact q'.elim
end
end NL
end L2
/-! NL7: items, slices, built-ins, the methods of lists. -/
namespace L2
namespace NL
open PySem PySem.Spec PyProof.Rows

section
variable {K : PySem.W.Frag} {H : Hp} {F : Fz}
theorem Reps.at {ds : List PyData} {vs : List V} {i : Int} {d : PyData} (r : Reps K H F ds vs) (h : atI ds i = some d) : ∃ v, atI vs i = some v ∧ Rep K H F d v := by
  unfold atI at h ⊢
  rw [r.length]
  cases q : ixN ds.length i with
  | none => rw [q] at h; cases h
  | some j =>
    rw [q] at h
    exact r.get h
theorem Reps.bools : ∀ {bs : List Bool} {vs : List V}, Reps K H F (bs.map PyData.bool) vs → vs = bs.map V.bl
  | [], vs, r => by have r' : Reps K H F [] vs := r; unfold Reps at r'; exact r'
  | b :: bs, vs, r => by
    have r' : Reps K H F (.bool b :: bs.map PyData.bool) vs := r
    unfold Reps at r'
    obtain ⟨v, ws, rfl, r1, r2⟩ := r'
    rw [r1.bool, Reps.bools r2]; rfl
theorem Reps.ints' : ∀ {bs : List Int} {vs : List V}, Reps K H F (bs.map PyData.int) vs → vs = bs.map V.int
  | [], vs, r => by have r' : Reps K H F [] vs := r; unfold Reps at r'; exact r'
  | b :: bs, vs, r => by
    have r' : Reps K H F (.int b :: bs.map PyData.int) vs := r
    unfold Reps at r'
    obtain ⟨v, ws, rfl, r1, r2⟩ := r'
    rw [r1.int, Reps.ints' r2]; rfl
theorem Reps.strs' : ∀ {bs : List Str} {vs : List V}, Reps K H F (bs.map PyData.str) vs → vs = bs.map V.str
  | [], vs, r => by have r' : Reps K H F [] vs := r; unfold Reps at r'; exact r'
  | b :: bs, vs, r => by
    have r' : Reps K H F (.str b :: bs.map PyData.str) vs := r
    unfold Reps at r'
    obtain ⟨v, ws, rfl, r1, r2⟩ := r'
    rw [r1.str, Reps.strs' r2]; rfl
end
def boolsOf : List PyData → Option (List Bool)
  | [] => some []
  | .bool b :: ds => (boolsOf ds).map (b :: ·)
  | _ => none
def intsOf : List PyData → Option (List Int)
  | [] => some []
  | .int b :: ds => (intsOf ds).map (b :: ·)
  | _ => none
def strsOf : List PyData → Option (List Str)
  | [] => some []
  | .str b :: ds => (strsOf ds).map (b :: ·)
  | _ => none
theorem boolsOf_eq : ∀ {ds : List PyData} {bs : List Bool}, boolsOf ds = some bs → ds = bs.map PyData.bool
  | [], bs, h => by cases h; rfl
  | .bool b :: ds, bs, h => by
    unfold boolsOf at h
    cases q : boolsOf ds with
    | none => rw [q] at h; cases h
    | some cs => rw [q] at h; cases h; rw [boolsOf_eq q]; rfl
  | .none :: _, _, h => by cases h
  | .int _ :: _, _, h => by cases h
  | .str _ :: _, _, h => by cases h
  | .list _ :: _, _, h => by cases h
  | .tuple _ :: _, _, h => by cases h
  | .dict _ :: _, _, h => by cases h
theorem intsOf_eq : ∀ {ds : List PyData} {bs : List Int}, intsOf ds = some bs → ds = bs.map PyData.int
  | [], bs, h => by cases h; rfl
  | .int b :: ds, bs, h => by
    unfold intsOf at h
    cases q : intsOf ds with
    | none => rw [q] at h; cases h
    | some cs => rw [q] at h; cases h; rw [intsOf_eq q]; rfl
  | .none :: _, _, h => by cases h
  | .bool _ :: _, _, h => by cases h
  | .str _ :: _, _, h => by cases h
  | .list _ :: _, _, h => by cases h
  | .tuple _ :: _, _, h => by cases h
  | .dict _ :: _, _, h => by cases h
theorem strsOf_eq : ∀ {ds : List PyData} {bs : List Str}, strsOf ds = some bs → ds = bs.map PyData.str
  | [], bs, h => by cases h; rfl
  | .str b :: ds, bs, h => by
    unfold strsOf at h
    cases q : strsOf ds with
    | none => rw [q] at h; cases h
    | some cs => rw [q] at h; cases h; rw [strsOf_eq q]; rfl
  | .none :: _, _, h => by cases h
  | .bool _ :: _, _, h => by cases h
  | .int _ :: _, _, h => by cases h
  | .list _ :: _, _, h => by cases h
  | .tuple _ :: _, _, h => by cases h
  | .dict _ :: _, _, h => by cases h
theorem intsOf_map (ns : List Int) : intsOf (ns.map PyData.int) = some ns := by
  induction ns with
  | nil => rfl
  | cons n ns ih => show (intsOf (ns.map PyData.int)).map (n :: ·) = _; rw [ih]; rfl
theorem boolsOf_map (ns : List Bool) : boolsOf (ns.map PyData.bool) = some ns := by
  induction ns with
  | nil => rfl
  | cons n ns ih => show (boolsOf (ns.map PyData.bool)).map (n :: ·) = _; rw [ih]; rfl
theorem strsOf_map (ns : List Str) : strsOf (ns.map PyData.str) = some ns := by
  induction ns with
  | nil => rfl
  | cons n ns ih => show (strsOf (ns.map PyData.str)).map (n :: ·) = _; rw [ih]; rfl

section
variable {X : Cx} {W : WX} {e e2 : Expr} {p q : Opd} {pos : Pos}
/-! ### o[i] -/
def oIx : PyData → PyData → Option PyData
  | .list xs, .int i => atI xs i
  | .tuple xs, .int i => atI xs i
  | .str z, .int i => if z.length ≤ sizeLine then (atI z.cps.toList i).map fun c => .str ⟨#[c]⟩ else none
  | _, _ => none
theorem no_ix : Op2 X (rIx X.K) oIx := by
  intro c x y z vx vy Q S rx ry e h
  unfold oIx at e
  split at e
  · obtain ⟨a, vs, rfl, ha, ra⟩ := rx.list
    obtain ⟨v, ev, rv⟩ := ra.at e
    exact .inl ⟨a, vs, _, v, rfl, ry.int, SqL.of ha, ev, fin0 S h rv⟩
  · obtain ⟨a, vs, rfl, ha, ra⟩ := rx.tuple
    obtain ⟨v, ev, rv⟩ := ra.at e
    exact .inr (.inl ⟨a, vs, _, v, rfl, ry.int, ha, ev, fin0 S h rv⟩)
  · split at e
    · rename_i s i hz
      cases q : atI s.cps.toList i with
      | none => rw [q] at e; cases e
      | some k =>
        rw [q] at e
        cases e
        exact .inr (.inr ⟨s, i, k, rx.str, ry.int, hz, q, fin0 S h Rep.mkStr⟩)
    · cases e
  · cases e
theorem ne_ix (ha : NO X W e p) (hb : NO X W e2 q) (hs : PlainIx e2 := by exact fun _ _ => rfl) : NE X W (.Subscript e e2 pos) (nOp2 oIx p q) := by
  obtain ⟨ta, pa, sa⟩ := ha.ex
  obtain ⟨tb, pb, sb⟩ := hb.ex
  exact ⟨tOp (rIx X.K) ta tb, pe_ix ix_seq pa pb hs, fun c Q S h => two sa sb no_ix S h⟩
/-! ### o[i:j] -/
def cutP (xs : List PyData) (lo hi : Option Int) : List PyData := (xs.drop (HT.sIx xs.length 0 lo)).take (HT.sIx xs.length xs.length hi - HT.sIx xs.length 0 lo)
structure NP (X : Cx) (W : WX) (e : Option Expr) (f : NSt → R (Option Int)) : Prop where
  ex : ∃ t, PO X e t ∧ ∀ (c : Cf) (Q : Option Int → Hp → Prop), Sim X.K c → Pst X.K X.mg W (fun _ _ a b => a = b) c Q (f c.n) → t c.s c.H Q
def pNone : NSt → R (Option Int) := fun n => .ok none n
def pSome (f : NExp) : NSt → R (Option Int) := fun n => (f n).bind fun d n' => match d with
  | .int i => .ok (some i) n'
  | _ => .bad
theorem mono_P : Mono (fun (_ _ : Cf) (a b : Option Int) => a = b) := fun _ _ _ _ _ _ h => h
theorem np_none : NP X W none pNone := ⟨tNoPart, po_none, fun c Q S h => h none c.H c.F (Step.refl _) S rfl⟩
theorem np_some {f : NExp} (h : NE X W e f) : NP X W (some e) (pSome f) := by
  obtain ⟨t, pe, s⟩ := h.ex
  refine ⟨tPart t, po_some pe, fun c Q S q => ?_⟩
  refine s c _ S (Pst.seq (rel := relE X.K) (rel' := fun _ _ a b => a = b) mono_P q fun d n' v H' F' _ st S' r q' => ?_)
  cases d with
  | int i => exact ⟨i, Rep.int (K := X.K) (H := H') (F := F') r, q' (some i) H' F' (Step.refl _) S' rfl⟩
  | _ => exact q'.elim
def oSl (x : PyData) (lo hi : Option Int) : Option PyData := match x with
  | .list xs => some (.list (cutP xs lo hi))
  | .tuple xs => some (.tuple (cutP xs lo hi))
  | .str z => if z.length ≤ sizeLine then some (.str (cutS z lo hi)) else none
  | _ => none
def nSl (p : Opd) (fl fh : NSt → R (Option Int)) : NExp := fun n => (p.run n).bind fun a n1 => (fl n1).bind fun l n2 => (fh n2).bind fun h n3 => match a.get n3 with
  | some x => liftO (oSl x l h) n3
  | none => .bad
def rSlN (K : PySem.W.Frag) : V → Option Int → Option Int → Hp → VK → Prop := fun x lo hi H Q => rSlL K x lo hi H Q ∨ rSlA K x lo hi H Q ∨ rSlS x lo hi H Q
theorem sl_N : SlR X (rSlN X.K) := sl_list.or (sl_tupA.or sl_str)
theorem cut_rep {K : PySem.W.Frag} {H : Hp} {F : Fz} {ds : List PyData} {vs : List V} {lo hi : Option Int} (r : Reps K H F ds vs) : Reps K H F (cutP ds lo hi) (cutV vs lo hi) := by
  unfold cutP cutV
  rw [r.length]
  exact (r.drop _).take _
theorem ne_sl {lo hi : Option Expr} {fl fh : NSt → R (Option Int)} {p2 : Pos} (ha : NO X W e p) (hl : NP X W lo fl) (hh : NP X W hi fh) : NE X W (.Subscript e (.Slice lo hi none p2) pos) (nSl p fl fh) := by
  obtain ⟨ta, pa, sa⟩ := ha.ex
  obtain ⟨tl, pl, sl⟩ := hl.ex
  obtain ⟨th, ph, sh⟩ := hh.ex
  refine ⟨tSl (rSlN X.K) ta tl th, pe_slice sl_N pa pl ph, fun c Q S h => ?_⟩
  refine sa c _ S (Pst.seq (rel := relV X.K) (rel' := relE X.K) mono_E h fun a n1 vx H1 F1 _ st1 S1 rx h1 => ?_)
  refine sl ⟨n1, c.s, H1, F1⟩ _ S1 (Pst.seq (rel := fun _ _ a b => a = b) (rel' := relE X.K) mono_E h1 fun l n2 l' H2 F2 _ st2 S2 r2 h2 => ?_)
  refine sh ⟨n2, c.s, H2, F2⟩ _ S2 (Pst.seq (rel := fun _ _ a b => a = b) (rel' := relE X.K) mono_E h2 fun hh n3 h' H3 F3 _ st3 S3 r3 h3 => ?_)
  subst r2 r3
  have rx3 : AVRep X.K ⟨n3, c.s, H3, F3⟩ a vx := AVRep.step st3 S2 rfl (AVRep.step st2 S1 rfl rx)
  cases ea : a.get n3 with
  | none => rw [ea] at h3; exact h3.elim
  | some x =>
    rw [ea] at h3
    dsimp only at h3
    have rr := S3.avGet rx3 ea
    cases x with
    | list xs =>
      obtain ⟨a, vs, rfl, hA, ra⟩ := rr.list
      exact .inl ⟨a, vs, rfl, SqL.of hA, finLst S3 (fun v H' F' st' S' r' => h3 v H' F' st' S' r') (cut_rep ra)⟩
    | tuple xs =>
      obtain ⟨a, vs, rfl, hA, ra⟩ := rr.tuple
      refine .inr (.inl ⟨a, vs, rfl, hA, fun ⟨z1, z2⟩ => ?_, fun _ => finTup S3 (fun v H' F' st' S' r' => h3 v H' F' st' S' r') (cut_rep ra)⟩)
      refine fin0 S3 (fun v H' F' st' S' r' => h3 v H' F' st' S' r') ?_
      have e : cutP xs l hh = xs := by
        rw [ra.length] at z1 z2
        unfold cutP
        rw [z1, z2]; simp
      rw [e]
      exact tup_refl rr fun _ z => by cases z
    | str z =>
      have h4 : Pst X.K X.mg W (relE X.K) ⟨n3, c.s, H3, F3⟩ Q (liftO (if z.length ≤ sizeLine then some (.str (cutS z l hh)) else none) n3) := h3
      split at h4
      · rename_i hz
        exact .inr (.inr ⟨z, rr.str, hz, h4 _ H3 F3 (Step.refl _) S3 Rep.mkStr⟩)
      · exact h4.elim
    | _ => exact h3.elim
/-! ### built-ins -/
def bLen : List PyData → Option PyData
  | [.list xs] => some (.int xs.length)
  | [.tuple xs] => some (.int xs.length)
  | [.str z] => if z.length ≤ sizeLine then some (.int z.length) else none
  | _ => none
theorem cn_len : CallN X (fun xs H Q => ∃ x n, xs = [x] ∧ LenV X.K x H n ∧ Q (.int n) H) bLen := by
  intro c ds z vs Q S r e h
  unfold bLen at e
  split at e
  · cases e
    cases r with
    | cons r1 rr =>
      cases rr
      obtain ⟨a, us, rfl, ha, ra⟩ := r1.list
      refine ⟨_, _, rfl, .inl ⟨us, SqL.of ha, rfl⟩, fin0 S h ?_⟩
      rw [ra.length]; exact Rep.mkInt
  · cases e
    cases r with
    | cons r1 rr =>
      cases rr
      obtain ⟨a, us, rfl, ha, ra⟩ := r1.tuple
      refine ⟨_, _, rfl, .inr ⟨us, ha, rfl⟩, fin0 S h ?_⟩
      rw [ra.length]; exact Rep.mkInt
  · split at e
    · rename_i hz
      cases e
      cases r with
      | cons r1 rr =>
        cases rr
        have := r1.str
        subst this
        exact ⟨_, _, rfl, ⟨hz, rfl⟩, fin0 S h Rep.mkInt⟩
    · cases e
  · cases e
theorem ne_len {x : Expr} {fs : NSt → R (List AV)} {p : Pos} (hm : X.mg "len" = none) (ha : NA X W [x] fs) (hg : Gl X "len" := by rfl) (he : starEach [x] X.env = (false, eval x X.env) :: starEach [] X.env := by rfl) (hpl : (backTo pos (starEach [] X.env)).any (·.1) = false := by rfl) : NE X W (.Call (.Name "len" p) [x] [] pos) (nCB bLen fs) :=
  ne_cb call_len cn_len hm PySem.boot_len ha hg (by decide) (by decide) he hpl
def bAll : List PyData → Option PyData
  | [.list xs] => (boolsOf xs).map fun bs => .bool (bs.all id)
  | _ => none
def bAny : List PyData → Option PyData
  | [.list xs] => (boolsOf xs).map fun bs => .bool (bs.any id)
  | _ => none
theorem cn_all : CallN X (rAll X.K) bAll := by
  intro c ds z vs Q S r e h
  unfold bAll at e
  split at e
  · cases q : boolsOf _ with
    | none => rw [q] at e; cases e
    | some bs =>
      rw [q] at e
      cases e
      cases r with
      | cons r1 rr =>
        cases rr
        obtain ⟨a, us, rfl, ha, ra⟩ := r1.list
        rw [boolsOf_eq q] at ra
        have := ra.bools
        subst this
        exact ⟨a, bs, rfl, SqL.of ha, fin0 S h Rep.mkBool⟩
  · cases e
theorem cn_any : CallN X (rAny X.K) bAny := by
  intro c ds z vs Q S r e h
  unfold bAny at e
  split at e
  · cases q : boolsOf _ with
    | none => rw [q] at e; cases e
    | some bs =>
      rw [q] at e
      cases e
      cases r with
      | cons r1 rr =>
        cases rr
        obtain ⟨a, us, rfl, ha, ra⟩ := r1.list
        rw [boolsOf_eq q] at ra
        have := ra.bools
        subst this
        exact ⟨a, bs, rfl, SqL.of ha, fin0 S h Rep.mkBool⟩
  · cases e
def bSum : List PyData → Option PyData
  | [.list xs] => (intsOf xs).map fun ns => .int ns.sum
  | _ => none
theorem cn_sum : CallN X (rSum X.K) bSum := by
  intro c ds z vs Q S r e h
  unfold bSum at e
  split at e
  · cases q : intsOf _ with
    | none => rw [q] at e; cases e
    | some bs =>
      rw [q] at e
      cases e
      cases r with
      | cons r1 rr =>
        cases rr
        obtain ⟨a, us, rfl, ha, ra⟩ := r1.list
        rw [intsOf_eq q] at ra
        have := ra.ints'
        subst this
        exact ⟨a, bs, rfl, SqL.of ha, fin0 S h Rep.mkInt⟩
  · cases e
def maxL : List Int → Int
  | [] => 0
  | [x] => x
  | x :: y :: r => max x (maxL (y :: r))
def minL : List Int → Int
  | [] => 0
  | [x] => x
  | x :: y :: r => min x (minL (y :: r))
theorem maxL_ge : ∀ {ns : List Int} {y : Int}, y ∈ ns → y ≤ maxL ns
  | [x], y, h => by simp at h; subst h; exact Int.le_refl _
  | x :: z :: r, y, h => by
    unfold maxL
    rcases List.mem_cons.mp h with h | h
    · subst h; omega
    · have := maxL_ge h; omega
theorem maxL_mem : ∀ {ns : List Int}, ns ≠ [] → maxL ns ∈ ns
  | [x], _ => by simp [maxL]
  | x :: z :: r, _ => by
    have h := maxL_mem (ns := z :: r) (by simp)
    unfold maxL
    by_cases q : x ≤ maxL (z :: r)
    · rw [Int.max_eq_right q]; exact List.mem_cons_of_mem _ h
    · rw [Int.max_eq_left (by omega)]; exact List.mem_cons_self
theorem minL_le : ∀ {ns : List Int} {y : Int}, y ∈ ns → minL ns ≤ y
  | [x], y, h => by simp at h; subst h; exact Int.le_refl _
  | x :: z :: r, y, h => by
    unfold minL
    rcases List.mem_cons.mp h with h | h
    · subst h; omega
    · have := minL_le h; omega
theorem minL_mem : ∀ {ns : List Int}, ns ≠ [] → minL ns ∈ ns
  | [x], _ => by simp [minL]
  | x :: z :: r, _ => by
    have h := minL_mem (ns := z :: r) (by simp)
    unfold minL
    by_cases q : x ≤ minL (z :: r)
    · rw [Int.min_eq_left q]; exact List.mem_cons_self
    · rw [Int.min_eq_right (by omega)]; exact List.mem_cons_of_mem _ h
def bMax : List PyData → Option PyData
  | [.list xs] => (intsOf xs).bind fun ns => if ns = [] then none else some (.int (maxL ns))
  | [.int a, .int b] => some (.int (max a b))
  | _ => none
def bMin : List PyData → Option PyData
  | [.list xs] => (intsOf xs).bind fun ns => if ns = [] then none else some (.int (minL ns))
  | [.int a, .int b] => some (.int (min a b))
  | _ => none
def rMaxN (K : PySem.W.Frag) : List V → Hp → VK → Prop := fun xs H Q => rMax K xs H Q ∨ ∃ i j, xs = [.int i, .int j] ∧ Q (.int (if j > i then j else i)) H
def rMinN (K : PySem.W.Frag) : List V → Hp → VK → Prop := fun xs H Q => rMin K xs H Q ∨ ∃ i j, xs = [.int i, .int j] ∧ Q (.int (if j < i then j else i)) H
theorem cr_maxN (hc : X.calm = true) : CallR X (.builtin "max") (rMaxN X.K) := (cr_max hc).or (call_max2 hc)
theorem cr_minN (hc : X.calm = true) : CallR X (.builtin "min") (rMinN X.K) := (cr_min hc).or (call_min2 hc)
theorem cn_max : CallN X (rMaxN X.K) bMax := by
  intro c ds z vs Q S r e h
  unfold bMax at e
  split at e
  · cases q : intsOf _ with
    | none => rw [q] at e; cases e
    | some bs =>
      rw [q] at e
      have e' : (if bs = [] then none else some (PyData.int (maxL bs))) = some z := e
      split at e'
      · cases e'
      · rename_i hne
        cases e'
        cases r with
        | cons r1 rr =>
          cases rr
          obtain ⟨a, us, rfl, ha, ra⟩ := r1.list
          rw [intsOf_eq q] at ra
          have := ra.ints'
          subst this
          refine .inl ⟨a, bs, rfl, SqL.of ha, List.length_pos_iff.mpr hne, fun m hm hle => ?_⟩
          have h1 := hle _ (maxL_mem hne)
          have h2 := maxL_ge hm
          have : m = maxL bs := by omega
          subst this
          exact fin0 S h Rep.mkInt
  · cases e
    cases r with
    | cons r1 rr =>
      cases rr with
      | cons r2 rr =>
        cases rr
        have e1 := r1.int
        have e2 := r2.int
        subst e1 e2
        refine .inr ⟨_, _, rfl, ?_⟩
        rename_i i j
        have : (if j > i then j else i) = max i j := by split <;> omega
        rw [this]
        exact fin0 S h Rep.mkInt
  · cases e
theorem cn_min : CallN X (rMinN X.K) bMin := by
  intro c ds z vs Q S r e h
  unfold bMin at e
  split at e
  · cases q : intsOf _ with
    | none => rw [q] at e; cases e
    | some bs =>
      rw [q] at e
      have e' : (if bs = [] then none else some (PyData.int (minL bs))) = some z := e
      split at e'
      · cases e'
      · rename_i hne
        cases e'
        cases r with
        | cons r1 rr =>
          cases rr
          obtain ⟨a, us, rfl, ha, ra⟩ := r1.list
          rw [intsOf_eq q] at ra
          have := ra.ints'
          subst this
          refine .inl ⟨a, bs, rfl, SqL.of ha, List.length_pos_iff.mpr hne, fun m hm hle => ?_⟩
          have h1 := hle _ (minL_mem hne)
          have h2 := minL_le hm
          have : m = minL bs := by omega
          subst this
          exact fin0 S h Rep.mkInt
  · cases e
    cases r with
    | cons r1 rr =>
      cases rr with
      | cons r2 rr =>
        cases rr
        have e1 := r1.int
        have e2 := r2.int
        subst e1 e2
        refine .inr ⟨_, _, rfl, ?_⟩
        rename_i i j
        have : (if j < i then j else i) = min i j := by split <;> omega
        rw [this]
        exact fin0 S h Rep.mkInt
  · cases e
def bAbs : List PyData → Option PyData
  | [.int i] => some (.int (i.natAbs : Nat))
  | _ => none
theorem cn_abs : CallN X (fun xs H Q => ∃ i, xs = [.int i] ∧ Q (.int (if i < 0 then -i else i)) H) bAbs := by
  intro c ds z vs Q S r e h
  unfold bAbs at e
  split at e
  · cases e
    cases r with
    | cons r1 rr =>
      cases rr
      have e1 := r1.int
      subst e1
      rename_i i
      refine ⟨i, rfl, ?_⟩
      have : (if i < 0 then -i else i) = (i.natAbs : Nat) := by split <;> omega
      rw [this]
      exact fin0 S h Rep.mkInt
  · cases e
def bInt : List PyData → Option PyData
  | [.int i] => some (.int i)
  | [.bool k] => some (.int (if k then 1 else 0))
  | _ => none
theorem cn_int : CallN X (fun xs H Q => (∃ i, xs = [.int i] ∧ Q (.int i) H) ∨ ∃ k, xs = [.bl k] ∧ Q (.int (if k then 1 else 0)) H) bInt := by
  intro c ds z vs Q S r e h
  unfold bInt at e
  split at e
  · cases e
    cases r with
    | cons r1 rr =>
      cases rr
      have e1 := r1.int
      subst e1
      exact .inl ⟨_, rfl, fin0 S h Rep.mkInt⟩
  · cases e
    cases r with
    | cons r1 rr =>
      cases rr
      have e1 := r1.bool
      subst e1
      exact .inr ⟨_, rfl, fin0 S h Rep.mkInt⟩
  · cases e
def bList : List PyData → Option PyData
  | [.list xs] => some (.list xs)
  | [.tuple xs] => some (.list xs)
  | _ => none
theorem cn_list : CallN X (fun xs H Q => ∃ p ys, xs = [.ref p] ∧ (SqL X.K H p ys ∨ SqT X.K H p ys) ∧ ∀ l, H l = none → Q (.ref l) (upd H l (.lst ys))) bList := by
  intro c ds z vs Q S r e h
  unfold bList at e
  split at e
  · cases e
    cases r with
    | cons r1 rr =>
      cases rr
      obtain ⟨a, us, rfl, ha, ra⟩ := r1.list
      exact ⟨a, us, rfl, .inl (SqL.of ha), finLst S h ra⟩
  · cases e
    cases r with
    | cons r1 rr =>
      cases rr
      obtain ⟨a, us, rfl, ha, ra⟩ := r1.tuple
      exact ⟨a, us, rfl, .inr ha, finLst S h ra⟩
  · cases e
def bTuple : List PyData → Option PyData
  | [.list xs] => some (.tuple xs)
  | [.tuple xs] => some (.tuple xs)
  | _ => none
theorem cn_tuple : CallN X (fun xs H Q => ∃ p ys, xs = [.ref p] ∧ ((SqL X.K H p ys ∧ ∀ l, H l = none → Q (.ref l) (upd H l (.tup ys))) ∨ (SqT X.K H p ys ∧ Q (.ref p) H))) bTuple := by
  intro c ds z vs Q S r e h
  unfold bTuple at e
  split at e
  · cases e
    cases r with
    | cons r1 rr =>
      cases rr
      obtain ⟨a, us, rfl, ha, ra⟩ := r1.list
      exact ⟨a, us, rfl, .inl ⟨SqL.of ha, finTup S h ra⟩⟩
  · cases e
    cases r with
    | cons r1 rr =>
      cases rr
      obtain ⟨a, us, e1, ha, ra⟩ := r1.tuple
      subst e1
      exact ⟨a, us, rfl, .inr ⟨ha, fin0 S h (tup_refl r1 fun _ z => by cases z)⟩⟩
  · cases e
/-! ### isinstance -/
def tyN : PyData → String
  | .none => "NoneType"
  | .bool _ => "bool"
  | .int _ => "int"
  | .str _ => "str"
  | .list _ => "list"
  | .tuple _ => "tuple"
  | .dict _ => "dict"
def isTy (T : String) (d : PyData) : Bool := tyN d == T || (T == "int" && tyN d == "bool")
theorem Rep1.tyX {K : PySem.W.Frag} {H : Hp} {F : Fz} {d : PyData} {v : V} (r : Rep1 K H F d v) : TyX K H v (.type (tyN d)) := by
  cases d with
  | none => rw [r.none]; exact .base .non
  | bool b => rw [r.bool]; exact .base (.bl _)
  | int b => rw [r.int]; exact .base (.int _)
  | str b => rw [r.str]; exact .base (.str _)
  | list b =>
    obtain ⟨a, us, rfl, ha, ra⟩ := r.list
    exact .base (.lst ha)
  | tuple b =>
    rcases r with r | ⟨a, ws, xs, e, _⟩
    · unfold Rep at r
      obtain ⟨a, us, rfl, f, ra⟩ := r
      rcases f with ⟨f, hq⟩ | f
      · exact .base (.tup hq)
      · rcases f (fun _ => Option.none) with z | ⟨o, its, n, z1, z2, _⟩
        · rcases z with z | ⟨o, z⟩ <;> cases z
        · exact .kTuple z1 z2
    · cases e
  | dict b =>
    obtain ⟨a, ws, rfl, _, ⟨o, kx, h, _⟩, _⟩ := r.dict.dict
    exact .fDict h
def kitAll (T : String) : Bool := decide (kitB "NoneType" T = some ("NoneType" == T || (T == "int" && "NoneType" == "bool"))) && (decide (kitB "bool" T = some ("bool" == T || (T == "int" && "bool" == "bool"))) && (decide (kitB "int" T = some ("int" == T || (T == "int" && "int" == "bool"))) &&
  (decide (kitB "str" T = some ("str" == T || (T == "int" && "str" == "bool"))) && (decide (kitB "list" T = some ("list" == T || (T == "int" && "list" == "bool"))) && (decide (kitB "tuple" T = some ("tuple" == T || (T == "int" && "tuple" == "bool"))) && decide (kitB "dict" T = some ("dict" == T || (T == "int" && "dict" == "bool")))))))) 
theorem kitAll_ok {T : String} (h : kitAll T = true) (d : PyData) : kitB (tyN d) T = some (isTy T d) := by
  unfold kitAll at h
  simp only [Bool.and_eq_true, decide_eq_true_eq] at h
  obtain ⟨h1, h2, h3, h4, h5, h6, h7⟩ := h
  cases d <;> assumption
theorem kit_int : kitAll "int" = true := by decide +kernel
theorem kit_bool : kitAll "bool" = true := by decide +kernel
theorem kit_str : kitAll "str" = true := by decide +kernel
theorem kit_list : kitAll "list" = true := by decide +kernel
theorem kit_tuple : kitAll "tuple" = true := by decide +kernel
theorem kit_dict : kitAll "dict" = true := by decide +kernel
def nIsi (T : String) (p : Opd) : NExp := fun n => (p.run n).bind fun a n1 => match a.get n1 with
  | some d => .ok (.bool (isTy T d)) n1
  | none => .bad
theorem ne_isi {T : String} {x : Str} {p0 p1 : Pos} (k : kitAll T = true) (ha : NO X W e p) (hm : X.mg "isinstance" = none) (hm2 : X.mg x = none) (hv : bootBuiltins x = some (.type T)) (hg : Gl X "isinstance" := by rfl) (hg2 : Gl X x := by rfl) (hn : x ≠ "__name__" := by decide) (hdb : (x == ("__debug__" : Str)) = false := by decide)
    (he : starEach [e, .Name x p1] X.env = (false, eval e X.env) :: starEach [.Name x p1] X.env := by rfl) (he2 : starEach [.Name x p1] X.env = (false, eval (.Name x p1) X.env) :: starEach [] X.env := by rfl) (hpl : (backTo pos (starEach [.Name x p1] X.env)).any (·.1) = false := by rfl) :
    NE X W (.Call (.Name "isinstance" p0) [e, .Name x p1] [] pos) (nIsi T p) := by
  obtain ⟨t, pa, s⟩ := ha.ex
  refine ⟨_, pe_callB call_isi hg hm (by decide +kernel) (pa_cons pa (pa_cons (pe_bltn (v := .ty T) hg2 hm2 hv rfl hn hdb) pa_nil he2) he) (by decide) (by decide) he hpl, fun c Q S h => ?_⟩
  refine s c _ S (Pst.seq (rel := relV X.K) (rel' := relE X.K) mono_E h fun a n1 vx H1 F1 _ st1 S1 rx h1 => ?_)
  cases ea : a.get n1 with
  | none => rw [ea] at h1; exact h1.elim
  | some d =>
    rw [ea] at h1
    exact ⟨vx, .ty T, .type (tyN d), .type T, isTy T d, rfl, .ty T, (S1.avGet rx ea).tyX, kit_ty (kitAll_ok k d), h1 _ H1 F1 (Step.refl _) S1 Rep.mkBool⟩
/-! ### the methods of a held list -/
def heldAt (n : NSt) (i : Nat) : Option (Sl × List PyData) := match n[i]? with
  | some (some sl) => sl.list?.map fun xs => (sl, xs)
  | _ => none
theorem heldAt_ok {n : NSt} {i : Nat} {sl : Sl} {xs : List PyData} (h : heldAt n i = some (sl, xs)) : n[i]? = some (some sl) ∧ sl.list? = some xs := by
  unfold heldAt at h
  split at h
  · rename_i s e
    cases q : s.list? with
    | none => rw [q] at h; cases h
    | some ys =>
      rw [q] at h
      cases h
      exact ⟨e, q⟩
  · cases h
theorem Sim.tyHeld {K : PySem.W.Frag} {c : Cf} (S : Sim K c) {i : Nat} {sl : Sl} {xs : List PyData} (h : heldAt c.n i = some (sl, xs)) :
    sl.held = true ∧ ∃ a ws, c.s[i]? = some (some (.ref a)) ∧ ¬ c.F a ∧ c.H a = some (.lst ws) ∧ Reps K c.H c.F xs ws ∧ tyV K "list" (.ref a) c.H := by
  obtain ⟨e1, e2⟩ := heldAt_ok h
  obtain ⟨hh, a, ws, es, nf, hH, r⟩ := S.held e1 e2
  exact ⟨hh, a, ws, es, nf, hH, r, .inl ⟨rfl, ws, SqL.of hH⟩⟩
/-- o.m(e): what becomes of the list, what is handed back -/
def nMeth1 (i : Nat) (m : List PyData → PyData → Option (List PyData × PyData)) (p : Opd) : NExp := fun n => match heldAt n i with
  | none => .bad
  | some _ => (p.run n).bind fun a n1 => match heldAt n1 i, a.get n1 with
    | some (sl, xs), some d => (match m xs d with
      | some (ys, z) => .ok z (n1.set i (some (sl.put ys)))
      | none => .bad)
    | _, _ => .bad
def Meth1 (X : Cx) (r : V → List V → Hp → VK → Prop) (m : List PyData → PyData → Option (List PyData × PyData)) : Prop := ∀ (c : Cf) (xs ys : List PyData) (d z : PyData) (a : Addr) (ws : List V) (vx : V) (Q : VK), c.H a = some (.lst ws) → Reps X.K c.H c.F xs ws → Rep1 X.K c.H c.F d vx → m xs d = some (ys, z) →
  (∀ us vz, Reps X.K c.H c.F ys us → Rep X.K c.H c.F z vz → Q vz (upd c.H a (.lst us))) → r (.ref a) [vx] c.H Q
theorem meth1_st {i : Nat} {m : List PyData → PyData → Option (List PyData × PyData)} {r : V → List V → Hp → VK → Prop} {t : TE} (sa : ∀ (c : Cf) (Q : VK), Sim X.K c → Pst X.K X.mg W (relV X.K) c Q (p.run c.n) → t c.s c.H Q) (no : Meth1 X r m)
    {c : Cf} {Q : VK} (S : Sim X.K c) (h : Pst X.K X.mg W (relE X.K) c Q (nMeth1 i m p c.n)) : tBM X.K "list" r (tVar i) (tCons t tNil) c.s c.H Q := by
  unfold nMeth1 at h
  cases q0 : heldAt c.n i with
  | none => rw [q0] at h; exact h.elim
  | some q =>
    obtain ⟨sl0, xs0⟩ := q
    rw [q0] at h
    obtain ⟨_, a0, ws0, es0, _, _, _, ty0⟩ := S.tyHeld q0
    refine ⟨_, es0, ty0, ?_⟩
    refine sa c _ S (Pst.seq (rel := relV X.K) (rel' := relE X.K) mono_E h fun av n1 vx H1 F1 _ st1 S1 rx h1 => ?_)
    cases q1 : heldAt n1 i with
    | none => rw [q1] at h1; exact h1.elim
    | some q =>
      obtain ⟨sl, xs⟩ := q
      cases ea : av.get n1 with
      | none => rw [q1, ea] at h1; exact h1.elim
      | some d =>
        rw [q1, ea] at h1
        dsimp only at h1
        cases em : m xs d with
        | none => rw [em] at h1; exact h1.elim
        | some yz =>
          obtain ⟨ys, z⟩ := yz
          rw [em] at h1
          obtain ⟨hh, a, ws, es, nf, hH, rr, _⟩ := S1.tyHeld q1
          have es' : c.s[i]? = some (some (V.ref a)) := es
          rw [es0] at es'
          cases es'
          refine no ⟨n1, c.s, H1, F1⟩ xs ys d z a0 ws vx Q hH rr (S1.avGet rx ea) em fun us vz ru rz => ?_
          obtain ⟨S2, st2⟩ := S1.write (heldAt_ok q1).1 hh es nf hH ru
          exact h1 vz _ F1 st2 S2 (st2.rep S1 rz)
theorem ne_meth1 (i : Nat) {x m0 : Str} {p0 apos : Pos} {id : String} {r : V → List V → Hp → VK → Prop} {m : List PyData → PyData → Option (List PyData × PyData)} (slot : Slot "list" m0 id) (hty : typeOf (.builtin id) = pure (.type "method_descriptor")) (hm : MtR X id r) (no : Meth1 X r m) (ha : NO X W e p)
    (hN : X.N[i]? = some x := by rfl) (hv : Vis X.env.scope x := by first | exact Or.inl rfl | exact Or.inr (Or.inl rfl) | exact Or.inr (Or.inr rfl)) (hd : (x == ("__debug__" : Str)) = false := by decide) (hcd : (x == ("__classdict__" : Str)) = false := by decide)
    (hbase : attributeBase (.Name x p0) m0 X.env (eval (.Name x p0) X.env) = eval (.Name x p0) X.env := by rfl)
    (hfew : ((backTo pos (starEach [e] X.env)).all (fun x => !x.1) && (backToKw pos (keywordEach [] X.env)).all (fun x => x.1.isSome)
      && decide ([e].length + ([] : List Keyword).length + (if ([] : List Keyword).isEmpty then 0 else 1) < 30)) = true := by rfl)
    (hline : (apos.endLine == pos.line) = true := by rfl) (hs : starEach [e] X.env = (false, eval e X.env) :: starEach [] X.env := by rfl) (hplain : (backTo pos (starEach [] X.env)).any (·.1) = false := by rfl) :
    NE X W (.Call (.Attribute (.Name x p0) m0 apos) [e] [] pos) (nMeth1 i m p) := by
  obtain ⟨t, pa, s⟩ := ha.ex
  exact ⟨_, pe_bm PySem.F.plainAttrs_list slot hty hm (pe_var hN hv hd hcd) (pa_cons pa pa_nil hs) hbase hfew hline hs hplain, fun c Q S h => meth1_st s no S h⟩
def mAppend (xs : List PyData) (d : PyData) : Option (List PyData × PyData) := if xs.length < sizeLine ∧ noList d = true then some (xs ++ [d], .none) else none
where noList : PyData → Bool
  | _ => true
/-- .. an item is appended: a value -/
def nAppend (i : Nat) (f : NExp) : NExp := fun n => match heldAt n i with
  | none => .bad
  | some _ => (f n).bind fun d n1 => match heldAt n1 i with
    | some (sl, xs) => if xs.length < sizeLine then .ok .none (n1.set i (some (sl.put (xs ++ [d])))) else .bad
    | none => .bad
theorem ne_append (i : Nat) {x : Str} {p0 apos : Pos} {f : NExp} (ha : NE X W e f)
    (hN : X.N[i]? = some x := by rfl) (hv : Vis X.env.scope x := by first | exact Or.inl rfl | exact Or.inr (Or.inl rfl) | exact Or.inr (Or.inr rfl)) (hd : (x == ("__debug__" : Str)) = false := by decide) (hcd : (x == ("__classdict__" : Str)) = false := by decide)
    (hbase : attributeBase (.Name x p0) "append" X.env (eval (.Name x p0) X.env) = eval (.Name x p0) X.env := by rfl)
    (hfew : ((backTo pos (starEach [e] X.env)).all (fun x => !x.1) && (backToKw pos (keywordEach [] X.env)).all (fun x => x.1.isSome)
      && decide ([e].length + ([] : List Keyword).length + (if ([] : List Keyword).isEmpty then 0 else 1) < 30)) = true := by rfl)
    (hline : (apos.endLine == pos.line) = true := by rfl) (hs : starEach [e] X.env = (false, eval e X.env) :: starEach [] X.env := by rfl) (hplain : (backTo pos (starEach [] X.env)).any (·.1) = false := by rfl) :
    NE X W (.Call (.Attribute (.Name x p0) "append" apos) [e] [] pos) (nAppend i f) := by
  obtain ⟨t, pa, s⟩ := ha.ex
  refine ⟨_, pe_bm PySem.F.plainAttrs_list PySem.F.slot_list_append PySem.F.type_list_append mt_append (pe_var hN hv hd hcd) (pa_cons pa pa_nil hs) hbase hfew hline hs hplain, fun c Q S h => ?_⟩
  unfold nAppend at h
  cases q0 : heldAt c.n i with
  | none => rw [q0] at h; exact h.elim
  | some q =>
    obtain ⟨sl0, xs0⟩ := q
    rw [q0] at h
    obtain ⟨_, a0, ws0, es0, _, _, _, ty0⟩ := S.tyHeld q0
    refine ⟨_, es0, ty0, ?_⟩
    refine s c _ S (Pst.seq (rel := relE X.K) (rel' := relE X.K) mono_E h fun d n1 vx H1 F1 _ st1 S1 rx h1 => ?_)
    cases q1 : heldAt n1 i with
    | none => rw [q1] at h1; exact h1.elim
    | some q =>
      obtain ⟨sl, xs⟩ := q
      rw [q1] at h1
      dsimp only at h1
      split at h1
      · rename_i hz
        obtain ⟨hh, a, ws, es, nf, hH, rr, _⟩ := S1.tyHeld q1
        have es' : c.s[i]? = some (some (V.ref a)) := es
        rw [es0] at es'
        cases es'
        refine ⟨a0, ws, vx, rfl, rfl, hH, by rw [rr.length]; exact hz, ?_⟩
        obtain ⟨S2, st2⟩ := S1.write (heldAt_ok q1).1 hh es nf hH (rr.append (Reps.cons rx Reps.nil))
        exact h1 .non _ F1 st2 S2 Rep.mkNone
      · exact h1.elim
/-- o.pop() -/
def nPop (i : Nat) : NExp := fun n => match heldAt n i with
  | some (sl, xs) => (match xs[xs.length - 1]? with
    | some d => .ok d (n.set i (some (sl.put xs.dropLast)))
    | none => .bad)
  | none => .bad
theorem ne_pop (i : Nat) {x : Str} {p0 apos : Pos}
    (hN : X.N[i]? = some x := by rfl) (hv : Vis X.env.scope x := by first | exact Or.inl rfl | exact Or.inr (Or.inl rfl) | exact Or.inr (Or.inr rfl)) (hd : (x == ("__debug__" : Str)) = false := by decide) (hcd : (x == ("__classdict__" : Str)) = false := by decide)
    (hbase : attributeBase (.Name x p0) "pop" X.env (eval (.Name x p0) X.env) = eval (.Name x p0) X.env := by rfl) (hline : (apos.endLine == pos.line) = true := by rfl) :
    NE X W (.Call (.Attribute (.Name x p0) "pop" apos) [] [] pos) (nPop i) := by
  refine ⟨_, pe_bm0 PySem.F.plainAttrs_list PySem.F.slot_list_pop PySem.F.type_list_pop mt_pop (pe_var hN hv hd hcd) hbase hline, fun c Q S h => ?_⟩
  unfold nPop at h
  cases q0 : heldAt c.n i with
  | none => rw [q0] at h; exact h.elim
  | some q =>
    obtain ⟨sl, xs⟩ := q
    rw [q0] at h
    dsimp only at h
    obtain ⟨hh, a, ws, es, nf, hH, rr, ty⟩ := S.tyHeld q0
    cases ed : xs[xs.length - 1]? with
    | none => rw [ed] at h; exact h.elim
    | some d =>
      rw [ed] at h
      obtain ⟨v, ev, rv⟩ := rr.get ed
      refine ⟨_, es, ty, a, ws, v, rfl, rfl, hH, by rw [rr.length]; exact ev, ?_⟩
      obtain ⟨S2, st2⟩ := S.write (heldAt_ok q0).1 hh es nf hH rr.dropLast
      exact h v _ c.F st2 S2 (st2.rep S rv)
/-- list(reversed(o)) -/
def nLstRev (p : Opd) : NSt → R (List PyData) := fun n => (p.run n).bind fun a n1 => match a.get n1 with
  | some (.list xs) => .ok xs.reverse n1
  | _ => .bad
theorem neo_listRev {p0 p2 pos2 : Pos} (hc : X.calm = true) (hm : X.mg "list" = none) (hm2 : X.mg "reversed" = none) (ha : NO X W e p) (hg : Gl X "list" := by rfl) (hg2 : Gl X "reversed" := by rfl)
    (hs : starEach [e] X.env = (false, eval e X.env) :: starEach [] X.env := by rfl)
    (hs2 : starEach [.Call (.Name "reversed" p2) [e] [] pos2] X.env = (false, eval (.Call (.Name "reversed" p2) [e] [] pos2) X.env) :: starEach [] X.env := by rfl) :
    NEo X W (.Call (.Name "list" p0) [.Call (.Name "reversed" p2) [e] [] pos2] [] pos) (nLstRev p) := by
  obtain ⟨t, pa, s⟩ := ha.ex
  refine ⟨_, pe_listRev hc hg hm hg2 hm2 pa hs hs2, fun c Q S h => ?_⟩
  refine s c _ S (Pst.seq (rel := relV X.K) (rel' := relO X.K) mono_O h fun a n1 vx H1 F1 _ st1 S1 rx h1 => ?_)
  cases ea : a.get n1 with
  | none => rw [ea] at h1; exact h1.elim
  | some d =>
    rw [ea] at h1
    cases d with
    | list xs =>
      obtain ⟨b, ws, rfl, hH, rr⟩ := (S1.avGet rx ea).list
      refine ⟨b, ws, rfl, SqL.of hH, fun q hq => ?_⟩
      obtain ⟨S2, st2, r2⟩ := S1.newLst (p := q) hq rr.reverse
      exact h1 _ _ _ st2 S2 r2
    | _ => exact h1.elim
/-- list(x), a list of one's own -/
def nListO (p : Opd) : NSt → R (List PyData) := fun n => (p.run n).bind fun a n1 => match a.get n1 with
  | some (.list xs) => .ok xs n1
  | some (.tuple xs) => .ok xs n1
  | _ => .bad
theorem neo_list {x : Expr} {p0 : Pos} (hm : X.mg "list" = none) (ha : NO X W x p) (hg : Gl X "list" := by rfl) (he : starEach [x] X.env = (false, eval x X.env) :: starEach [] X.env := by rfl) (hpl : (backTo pos (starEach [] X.env)).any (·.1) = false := by rfl) :
    NEo X W (.Call (.Name "list" p0) [x] [] pos) (nListO p) := by
  obtain ⟨t, pa, s⟩ := ha.ex
  refine ⟨_, pe_callTy call_list_of hg hm boot_list (pa_cons pa pa_nil he) (by decide) (by decide) he hpl, fun c Q S h => ?_⟩
  refine s c _ S (Pst.seq (rel := relV X.K) (rel' := relO X.K) mono_O h fun a n1 vx H1 F1 _ st1 S1 rx h1 => ?_)
  cases ea : a.get n1 with
  | none => rw [ea] at h1; exact h1.elim
  | some d =>
    rw [ea] at h1
    cases d with
    | list xs =>
      obtain ⟨b, ws, rfl, hH, rr⟩ := (S1.avGet rx ea).list
      refine ⟨b, ws, rfl, .inl (SqL.of hH), fun q hq => ?_⟩
      obtain ⟨S2, st2, r2⟩ := S1.newLst (p := q) hq rr
      exact h1 _ _ _ st2 S2 r2
    | tuple xs =>
      obtain ⟨b, ws, rfl, hH, rr⟩ := (S1.avGet rx ea).tuple
      refine ⟨b, ws, rfl, .inr hH, fun q hq => ?_⟩
      obtain ⟨S2, st2, r2⟩ := S1.newLst (p := q) hq rr
      exact h1 _ _ _ st2 S2 r2
    | _ => exact h1.elim
/-- any operator that makes a list, a list of one's own -/
def Op2O (X : Cx) (r : R2) (o : PyData → PyData → Option (List PyData)) : Prop := ∀ (c : Cf) (x y : PyData) (zs : List PyData) (vx vy : V) (Q : VK), Sim X.K c → Rep1 X.K c.H c.F x vx → Rep1 X.K c.H c.F y vy → o x y = some zs →
  (∀ v H' F', Step c ⟨c.n, c.s, H', F'⟩ → Sim X.K ⟨c.n, c.s, H', F'⟩ → relO X.K c ⟨c.n, c.s, H', F'⟩ zs v → Q v H') → r vx vy c.H Q
def nOp2O (o : PyData → PyData → Option (List PyData)) (p q : Opd) : NSt → R (List PyData) := fun n => (p.run n).bind fun a n1 => (q.run n1).bind fun b n2 => match a.get n2, b.get n2 with
  | some x, some y => liftO (o x y) n2
  | _, _ => .bad
theorem neo_op {op : Operator} {r : R2} {o : PyData → PyData → Option (List PyData)} (ho : OpR X (binaryOp op) r) (no : Op2O X r o) (ha : NO X W e p) (hb : NO X W e2 q) : NEo X W (.BinOp e op e2 pos) (nOp2O o p q) := by
  obtain ⟨ta, pa, sa⟩ := ha.ex
  obtain ⟨tb, pb, sb⟩ := hb.ex
  refine ⟨tOp r ta tb, pe_op ho pa pb, fun c Q S h => ?_⟩
  refine sa c _ S (Pst.seq (rel := relV X.K) (rel' := relO X.K) mono_O h fun a n1 vx H1 F1 _ st1 S1 rx h1 => ?_)
  refine sb ⟨n1, c.s, H1, F1⟩ _ S1 (Pst.seq (rel := relV X.K) (rel' := relO X.K) mono_O h1 fun b n2 vy H2 F2 _ st2 S2 ry h2 => ?_)
  cases ea : a.get n2 with
  | none => rw [ea] at h2; exact h2.elim
  | some x =>
    cases eb : b.get n2 with
    | none => rw [ea, eb] at h2; exact h2.elim
    | some y =>
      rw [ea, eb] at h2
      dsimp only at h2
      cases eo : o x y with
      | none => rw [eo] at h2; exact h2.elim
      | some z =>
        rw [eo] at h2
        exact no ⟨n2, c.s, H2, F2⟩ x y z vx vy Q S2 (S2.avGet (AVRep.step st2 S1 rfl rx) ea) (S2.avGet ry eb) eo fun v H' F' st' S' r' => h2 v H' F' st' S' r'
def oCatO : PyData → PyData → Option (List PyData)
  | .list a, .list b => if a.length + b.length ≤ sizeLine then some (a ++ b) else none
  | _, _ => none
theorem no_catO : Op2O X (rAddN X.K) oCatO := by
  intro c x y z vx vy Q S rx ry e h
  unfold oCatO at e
  split at e
  · split at e
    · rename_i hz
      cases e
      obtain ⟨a, vs, rfl, ha, ra⟩ := rx.list
      obtain ⟨b, ws, rfl, hb, rb⟩ := ry.list
      refine .inr (.inr (.inr ⟨a, b, vs, ws, rfl, rfl, ha, hb, by rw [ra.length, rb.length]; exact hz, fun p hp => ?_⟩))
      obtain ⟨S2, st2, r2⟩ := S.newLst (p := p) hp (ra.append rb)
      exact h _ _ _ st2 S2 r2
    · cases e
  · cases e
def oRepO : PyData → PyData → Option (List PyData)
  | .list a, .int k => if -(2 ^ 63) ≤ k ∧ k < 2 ^ 63 ∧ a.length * k.toNat ≤ sizeLine then some (List.replicate k.toNat a).flatten else none
  | _, _ => none
theorem no_repO : Op2O X (rMulN X.K) oRepO := by
  intro c x y z vx vy Q S rx ry e h
  unfold oRepO at e
  split at e
  · split at e
    · rename_i hz
      cases e
      obtain ⟨a, vs, rfl, ha, ra⟩ := rx.list
      refine .inr (.inr (.inl ⟨a, _, vs, rfl, ry.int, ha, hz.1, hz.2.1, by rw [ra.length]; exact hz.2.2, fun p hp => ?_⟩))
      obtain ⟨S2, st2, r2⟩ := S.newLst (p := p) hp (ra.rep _)
      exact h _ _ _ st2 S2 r2
    · cases e
  · cases e
/-! ### o.extend(e), o[i] = e -/
def mExtend (xs : List PyData) : PyData → Option (List PyData × PyData)
  | .list zs => if xs.length + zs.length ≤ sizeLine then some (xs ++ zs, .none) else none
  | _ => none
theorem me_extend : Meth1 X rExtend mExtend := by
  intro c xs ys d z a ws vx Q hH r rd e h
  unfold mExtend at e
  split at e
  · split at e
    · rename_i hz
      cases e
      obtain ⟨b, us, rfl, hb, rb⟩ := rd.list
      exact ⟨a, b, ws, us, rfl, rfl, hH, hb, by rw [r.length, rb.length]; exact hz, h _ _ (r.append rb) Rep.mkNone⟩
    · cases e
  · cases e
/-- o[k] = e of a held list -/
def sSetI (i : Nat) (fk fe : NExp) : NStm := fun n => (fe n).st fun d n1 => match heldAt n1 i with
  | none => .bad
  | some _ => (fk n1).st fun k n2 => match heldAt n2 i, k with
    | some (sl, xs), .int j => (match ixN xs.length j with
      | some m => .nx (n2.set i (some (sl.put (xs.set m d))))
      | none => .bad)
    | _, _ => .bad
theorem ns_seti (i : Nat) {x : Str} {k : Expr} {p0 pos2 : Pos} {fk fe : NExp} (he : NE X W e fe) (hk : NE X W k fk)
    (hN : X.N[i]? = some x := by rfl) (hv : Vis X.env.scope x := by first | exact Or.inl rfl | exact Or.inr (Or.inl rfl) | exact Or.inr (Or.inr rfl)) (hd : (x == ("__debug__" : Str)) = false := by decide) (hcd : (x == ("__classdict__" : Str)) = false := by decide)
    (ha : ∀ v, assign (.Subscript (.Name x p0) k pos2) X.env v = (do
      let ov ← holding [v] (eval (.Name x p0) X.env)
      let iv ← holding [v, ov] (eval k X.env)
      standAt pos2
      holding [v, ov, iv] (setItem ov iv v)
      release [v, ov, iv] []) := by intro _; rfl)
    (hs : swapsWithSole [.Subscript (.Name x p0) k pos2] e pos.line X.env = pure false := by rfl) (hw : swappedStores [.Subscript (.Name x p0) k pos2] e X.env = pure none := by rfl) (h1 : (assignEach [.Subscript (.Name x p0) k pos2] X.env).map (·.2) = [assign (.Subscript (.Name x p0) k pos2) X.env] := by rfl) :
    NS X W (.Assign [.Subscript (.Name x p0) k pos2] e pos) (sSetI i fk fe) := by
  obtain ⟨te, pe, se⟩ := he.ex
  obtain ⟨tk, pk, sk⟩ := hk.ex
  refine ⟨_, ps_asg pe (pg_sub (pe_var hN hv hd hcd) pk set_list ha) hs hw h1, fun c D S h => ?_⟩
  refine se c _ S (Pst.seqS (rel := relE X.K) h fun d n1 vx H1 F1 _ st1 S1 rx h1 => ?_)
  cases q0 : heldAt n1 i with
  | none => rw [q0] at h1; exact h1.elim
  | some q =>
    obtain ⟨sl0, xs0⟩ := q
    rw [q0] at h1
    obtain ⟨_, a0, ws0, es0, _⟩ := S1.tyHeld q0
    refine ⟨_, es0, ?_⟩
    refine sk ⟨n1, c.s, H1, F1⟩ _ S1 (Pst.seqS (rel := relE X.K) h1 fun dk n2 vk H2 F2 _ st2 S2 rk h2 => ?_)
    cases q1 : heldAt n2 i with
    | none => rw [q1] at h2; exact h2.elim
    | some q =>
      obtain ⟨sl, xs⟩ := q
      rw [q1] at h2
      cases dk with
      | int j =>
        dsimp only at h2
        cases em : ixN xs.length j with
        | none => rw [em] at h2; exact h2.elim
        | some m =>
          rw [em] at h2
          obtain ⟨hh, a, ws, es, nf, hH, rr, _⟩ := S2.tyHeld q1
          have es' : c.s[i]? = some (some (V.ref a)) := es
          have es0' : c.s[i]? = some (some (V.ref a0)) := es0
          rw [es0'] at es'
          cases es'
          refine ⟨a0, ws, j, m, rfl, Rep.int (K := X.K) (H := H2) (F := F2) rk, hH, by rw [rr.length]; exact em, ?_⟩
          obtain ⟨S3, st3⟩ := S2.write (heldAt_ok q1).1 hh es nf hH (rr.set m (st2.rep S1 rx))
          exact h2 c.s _ F2 st3 S3
      | _ => exact h2.elim
/-- x += e of a value -/
def sAug (i : Nat) (o : PyData → PyData → Option PyData) (q : Opd) : NStm := fun n => match n[i]? with
  | some (some (.val x)) => (q.run n).st fun b n1 => match b.get n1 with
    | some y => (match o x y with
      | some z => if notLent n1 i = true then .nx (n1.set i (some (.val z))) else .bad
      | none => .bad)
    | none => .bad
  | _ => .bad
theorem ns_aug (i : Nat) {x : Str} {op : Operator} {ti : TIp} {o : PyData → PyData → Option PyData} {p0 : Pos} (ho : PIp X op ti) (no : Op2 X ti o) (hb : NO X W e q) (hN : X.N.Nodup) (hi : X.N[i]? = some x) (hx : Loc X.env.scope x)
    (hf : X.fn x = true ∨ X.env.scope.names.lookup x = some .local := by first | exact .inl rfl | exact .inr rfl | assumption) : NS X W (.AugAssign (.Name x p0) op e pos) (sAug i o q) := by
  obtain ⟨t, pe, s⟩ := hb.ex
  refine ⟨tAug i t ti, ps_aug hN hi hx pe ho hf, fun c D S h => ?_⟩
  unfold sAug at h
  split at h
  · rename_i dx e1
    obtain ⟨vx, e2, rx⟩ := S.slot i _ e1
    refine ⟨vx, e2, ?_⟩
    refine s c _ S (Pst.seqS (rel := relV X.K) h fun b n1 vy H1 F1 _ st1 S1 ry h1 => ?_)
    cases eb : b.get n1 with
    | none => rw [eb] at h1; exact h1.elim
    | some y =>
      rw [eb] at h1
      dsimp only at h1
      cases eo : o dx y with
      | none => rw [eo] at h1; exact h1.elim
      | some z =>
        rw [eo] at h1
        dsimp only at h1
        split at h1
        · rename_i hl
          refine no ⟨n1, c.s, H1, F1⟩ dx y z vx vy _ S1 (.inl (st1.rep S rx)) (S1.avGet ry eb) eo fun v H' F' st' S' r' => ?_
          obtain ⟨S3, st3⟩ := Sim.setVal S' hl r'
          exact h1 _ H' F' (st'.trans st3) S3
        · exact h1.elim
  · exact h.elim
theorem pip_of {op : Operator} {r : R2} (h : OpR X (inplaceOp op) r) : PIp X op r := fun pins s σ H x y v u Q I rx ry q => h pins s σ H x y v u Q I rx ry q
end
end NL
end L2
/-! NL8: two stores at one stroke, raise, try with its flags, a def chosen from a list. -/
namespace L2
namespace NL
open PySem PySem.Spec PyProof.Rows

/-! ### a, b = x, y -/
inductive EV where
  | v (d : PyData) | w (xs : List PyData)
def EV.sl : EV → Sl
  | .v d => .val d
  | .w xs => .own xs
def relEV (K : PySem.W.Frag) : Rel EV V := fun c0 c e v => match e with
  | .v d => Rep K c.H c.F d v
  | .w xs => relO K c0 c xs v
theorem mono_EV {K : PySem.W.Frag} : Mono (relEV K) := fun c c1 c2 a b st h => by
  cases a with
  | v d => exact h
  | w xs => exact mono_O c c1 c2 xs b st h
structure NV (X : Cx) (W : WX) (e : Expr) (f : NSt → R EV) : Prop where
  ex : ∃ t, PE X e t ∧ ∀ (c : Cf) (Q : VK), Sim X.K c → Pst X.K X.mg W (relEV X.K) c Q (f c.n) → t c.s c.H Q
def evV (f : NExp) : NSt → R EV := fun n => (f n).bind fun d n' => .ok (.v d) n'
def evO (f : NSt → R (List PyData)) : NSt → R EV := fun n => (f n).bind fun d n' => .ok (.w d) n'
section
variable {X : Cx} {W : WX} {e : Expr}
theorem nv_v {f : NExp} (h : NE X W e f) : NV X W e (evV f) := by
  obtain ⟨t, pe, s⟩ := h.ex
  exact ⟨t, pe, fun c Q S p => s c Q S (Pst.seq (rel := relE X.K) (rel' := relEV X.K) mono_EV p fun d n' v H' F' _ st S' r q => q v H' F' (Step.refl _) S' r)⟩
theorem nv_o {f : NSt → R (List PyData)} (h : NEo X W e f) : NV X W e (evO f) := by
  obtain ⟨t, pe, s⟩ := h.ex
  refine ⟨t, pe, fun c Q S p => s c Q S ?_⟩
  unfold evO at p
  cases q : f c.n with
  | ok xs n' =>
    rw [q] at p
    exact p
  | err x n' => rw [q] at p; exact p
  | bad => rw [q] at p; exact p
theorem relO.step {K : PySem.W.Frag} {c0 c1 c2 : Cf} {xs : List PyData} {v : V} (r : relO K c0 c1 xs v) (S1 : Sim K c1) (st : Step c1 c2) : relO K c0 c2 xs v := by
  obtain ⟨a, ws, e, h0, nf, hH, nh, rr⟩ := r
  have hn : c1.H a ≠ none := by rw [hH]; simp
  refine ⟨a, ws, e, h0, fun f => ?_, (st.keep a hn nh).trans hH, fun h => ?_, st.reps S1 rr⟩
  · rcases st.fn a f with z | z | z
    · exact nf z
    · exact hn z
    · exact nh z.hd
  · rcases st.hd a h with z | z
    · exact nh z
    · exact hn z
theorem relEV.step {K : PySem.W.Frag} {c0 c1 c2 : Cf} {x : EV} {v : V} (r : relEV K c0 c1 x v) (S1 : Sim K c1) (st : Step c1 c2) : relEV K c0 c2 x v := by
  cases x with
  | v d => exact st.rep S1 r
  | w xs => exact relO.step r S1 st
/-- a slot takes what has come -/
theorem Sim.setEV {K : PySem.W.Frag} {c0 c : Cf} (st : Step c0 c) (S : Sim K c) {i : Nat} {x : EV} {v : V} (hl : notLent c.n i = true) (r : relEV K c0 c x v) :
    let c' : Cf := ⟨c.n.set i (some x.sl), c.s.set i (some v), c.H, c.F⟩; Sim K c' ∧ Step c0 c' := by
  cases x with
  | v d =>
    obtain ⟨S', st'⟩ := Sim.setVal S hl r
    exact ⟨S', st.trans st'⟩
  | w xs => exact Sim.setOwn st S hl r
theorem hd_setEV {c : Cf} {i : Nat} {x : EV} {v : V} {b : Addr} (h : (⟨c.n.set i (some x.sl), c.s.set i (some v), c.H, c.F⟩ : Cf).Hd b) : c.Hd b ∨ v = .ref b := by
  obtain ⟨j, sl, e1, e2, e3⟩ := h
  by_cases hj : i = j
  · subst hj
    have hs : i < c.s.length := by
      have := lt_of_get e3
      simpa using this
    have e3' : (c.s.set i (some v))[i]? = some (some (V.ref b)) := e3
    rw [List.getElem?_set_self hs] at e3'
    exact .inr (Option.some.inj (Option.some.inj e3'))
  · have e1' : (c.n.set i (some x.sl))[j]? = some (some sl) := e1
    have e3' : (c.s.set i (some v))[j]? = some (some (V.ref b)) := e3
    rw [List.getElem?_set_ne hj] at e1' e3'
    exact .inl ⟨j, sl, e1', e2, e3'⟩
def sPar (i j : Nat) (fa fb : NSt → R EV) : NStm := fun n => (fa n).st fun x n1 => (fb n1).st fun y n2 => if notLent n2 i = true ∧ notLent n2 j = true then .nx ((n2.set i (some x.sl)).set j (some y.sl)) else .bad
theorem notLent_set {n : NSt} {i j : Nat} {x : EV} (h : notLent n j = true) : notLent (n.set i (some x.sl)) j = true := by
  obtain ⟨hj, nl⟩ := notLent_ok h
  unfold notLent
  by_cases e : i = j
  · subst e
    rw [List.getElem?_set_self hj]
    cases x <;> rfl
  · rw [List.getElem?_set_ne e]
    exact h
theorem mono_EVr {K : PySem.W.Frag} : Mono (relEV K) := mono_EV
theorem ns_par (i j : Nat) {x y : Str} {a b : Expr} {fa fb : NSt → R EV} {px py pt pos : Pos} {kt k2 pt2} (hc : X.calm = true) (hN : X.N.Nodup) (hi : X.N[i]? = some x) (hj : X.N[j]? = some y) (hij : i ≠ j)
    (hx : X.env.scope.names.lookup x = some .local) (hy : X.env.scope.names.lookup y = some .local) (ha : NV X W a fa) (hb : NV X W b fb)
    (hw : swappedStores [.Tuple [.Name x px, .Name y py] kt pt] (.Tuple [a, b] k2 pt2) X.env = pure (some [x, y]) := by rfl)
    (hs : swapsWithSole [.Tuple [.Name x px, .Name y py] kt pt] (.Tuple [a, b] k2 pt2) pos.line X.env = pure false := by rfl)
    (h1 : starEach [a, b] X.env = (false, eval a X.env) :: starEach [b] X.env := by rfl) (h2 : starEach [b] X.env = (false, eval b X.env) :: starEach [] X.env := by rfl) :
    NS X W (.Assign [.Tuple [.Name x px, .Name y py] kt pt] (.Tuple [a, b] k2 pt2) pos) (sPar i j fa fb) := by
  obtain ⟨ta, pa, sa⟩ := ha.ex
  obtain ⟨tb, pb, sb⟩ := hb.ex
  refine ⟨_, ps_par hc hN hi hj hij hx hy (pa_cons pa (pa_cons pb pa_nil h2) h1) hw hs, fun c D S h => ?_⟩
  show ta c.s c.H fun u H1 => tb c.s H1 fun v H2 => ∃ v', ∃ w', [u, v] = [v', w'] ∧ D.nx ((c.s.set i (some v')).set j (some w')) H2
  refine sa c _ S ?_
  unfold sPar at h
  cases q : fa c.n with
  | bad => rw [q] at h; exact h
  | err z n' => rw [q] at h; exact fun cls d H' F' s1 S1 r1 => h cls d c.s H' F' s1 S1 r1
  | ok ex n1 =>
    rw [q] at h
    intro u H1 F1 st1 S1 ru
    have h : PstS X.K X.mg W c D ((fb n1).st fun y n2 => if notLent n2 i = true ∧ notLent n2 j = true then .nx ((n2.set i (some ex.sl)).set j (some y.sl)) else .bad) := h
    refine sb ⟨n1, c.s, H1, F1⟩ _ S1 ?_
    cases q2 : fb n1 with
    | bad => rw [q2] at h; exact h
    | err z n' => rw [q2] at h; exact fun cls d H' F' s1 S2 r1 => h cls d c.s H' F' (st1.trans s1) S2 r1
    | ok ey n2 =>
      rw [q2] at h
      intro v H2 F2 st2 S2 rv
      have h : PstS X.K X.mg W c D (if notLent n2 i = true ∧ notLent n2 j = true then .nx ((n2.set i (some ex.sl)).set j (some ey.sl)) else .bad) := h
      refine ⟨u, v, rfl, ?_⟩
      split at h
      · rename_i hl
        have st12 : Step c ⟨n2, c.s, H2, F2⟩ := st1.trans st2
        have ru2 : relEV X.K c ⟨n2, c.s, H2, F2⟩ ex u := relEV.step ru S1 st2
        obtain ⟨S3, st3⟩ := Sim.setEV (c0 := c) (c := ⟨n2, c.s, H2, F2⟩) st12 S2 hl.1 ru2
        have rv3 : relEV X.K c ⟨n2.set i (some ex.sl), c.s.set i (some u), H2, F2⟩ ey v := by
          cases ey with
          | v d => exact rv
          | w ys =>
            obtain ⟨b', ws, e, h0, nf, hH, nh, rr⟩ := rv
            have hc0 : c.H b' = none := Classical.byContradiction fun z => st1.live b' z h0
            refine ⟨b', ws, e, hc0, nf, hH, fun hd => ?_, rr⟩
            rcases hd_setEV (c := ⟨n2, c.s, H2, F2⟩) hd with z | z
            · exact nh z
            · -- the first one stood ahead of the second
              cases ex with
              | v d =>
                have hd' : (⟨n2.set i (some (.val d)), c.s.set i (some u), H2, F2⟩ : Cf).Hd b' := hd
                obtain ⟨k, sl, e1, e2, e3⟩ := hd'
                by_cases hk : i = k
                · subst hk
                  have e1' : (n2.set i (some (.val d)))[i]? = some (some sl) := e1
                  rw [List.getElem?_set_self (notLent_ok hl.1).1] at e1'
                  cases e1'; cases e2
                · have e1' : (n2.set i (some (.val d)))[k]? = some (some sl) := e1
                  have e3' : (c.s.set i (some u))[k]? = some (some (V.ref b')) := e3
                  rw [List.getElem?_set_ne hk] at e1' e3'
                  exact nh ⟨k, sl, e1', e2, e3'⟩
              | w xs =>
                obtain ⟨a', us, ea, _, _, hHa, _, _⟩ := ru
                rw [ea] at z
                cases z
                have h0' : H1 b' = none := h0
                have hHa' : H1 b' = some (.lst us) := hHa
                rw [h0'] at hHa'
                cases hHa'
        obtain ⟨S4, st4⟩ := Sim.setEV (c0 := c) (c := ⟨n2.set i (some ex.sl), c.s.set i (some u), H2, F2⟩) st3 S3 (notLent_set hl.2) rv3
        exact h _ _ _ st4 S4
      · exact h.elim
end
/-! ### raise -/
structure ExcF (K : PySem.W.Frag) (mg : Str → Option Value) (x : Str) : Prop where
  ex : ∃ C, mg x = some (.ref C) ∧ PySem.W.excIn K C He.veBase "ValueError.__new__" = true ∧ PySem.W.keepIn K (.ref C) = true ∧ PySem.W.subIn K (.ref C) (.type "BaseException") = some true ∧ PySem.W.typeIn K (.ref C) = some (.type "type")
def sRaise (x : Str) : NStm := fun n => .err ⟨x, none⟩ n
section
variable {X : Cx} {W : WX}
theorem ns_raise {x m : Str} {j : Nat} {p p2 pos pos' : Pos} (E : ExcF X.K X.mg x) (hc : X.calm = true) (tk : Takes X W) (hg : Gl X x := by rfl) (hdb : (x == ("__debug__" : Str)) = false := by decide) :
    NS X W (.Raise (some (.Call (.Name x p) [.Constant (.str m) j p2] [] pos)) none pos') (sRaise x) := by
  obtain ⟨C, gC, q, kC, sC, tC⟩ := E.ex
  refine ⟨_, ps_raise hc tk (pmk_own PySem.F.excBase_ValueError q gC kC (raises_own sC tC) hg hdb), fun c D S h => ?_⟩
  exact h (.ref C) none c.s c.H c.F (Step.refl _) S ⟨gC, ⟨C, rfl⟩, rfl⟩
end
/-! ### the flags of a caught exception -/
/-- a def called where p's object is handled; it lets nothing out -/
structure FnQ (P : Program) (w : World) (K : PySem.W.Frag) (mg : Str → Option Value) (base : Heap) (k : Nat) (f : Addr) (fd : FuncData) (ps : List Str) (Z : Addr × Obj → Prop) (sp : Addr × Obj → List V → Hp → VK → Prop) : Prop where
  len : ∀ p vs H Q, sp p vs H Q → vs.length = ps.length
  run : ∀ (A : Around) (outer : List Env) (s : Shared) (H : Hp) (args : Args) (us : List Value) (vs : List V) (Q : VK) (p : Addr × Obj), L2H.RoomH k A → Z p → L2H.PinOk outer H s p → Env0 P w K mg base A outer s H → BindsTo s fd args (ps.zip us) → Vals vs us → sp p vs H Q →
    codeAny (model P w) A (.call (.ref f) args) (CR CX0 outer P w H s Q E0) s
theorem fn_ofQ {P : Program} {w : World} {K : PySem.W.Frag} {mg : Str → Option Value} {base : Heap} {k : Nat} {f : Addr} {name qual : Str} {params : Arguments} {body : List Stmt} {scope : Scope} {dV kV doc pm cdv ct oc : Value} {an od : Option Addr}
    {osl : Array (Option Value)} {N ps : List Str} {Z : Addr × Obj → Prop} {sp : Addr × Obj → List V → Hp → VK → Prop} (lk : K.lookup f = some ⟨oc, od, .func (PySem.W.fnOf name qual params body scope dV kV doc pm an cdv ct), osl⟩) (hcd : PySem.W.codeIn K cdv qual = true) (S : FnScope N ps scope)
    (len : ∀ p vs H Q, sp p vs H Q → vs.length = ps.length)
    (hbody : ∀ (A : Around) (outer : List Env) (s : Shared) (H : Hp) (vs : List V) (Q : VK) (p : Addr × Obj), Z p → L2H.RoomH k (A.deeper (envOfC qual scope s.heap.objs.size f cdv)) → sp p vs H Q →
      ∃ t, PSs (L2H.cxH CX0 P w K mg base N qual scope f cdv A outer s H E0 p).nox body t ∧ t { nx := fun _ H' => Q .non H', rt := Q } (L2.start N vs) H) :
    FnQ P w K mg base (k + 1) f (PySem.W.fnOf name qual params body scope dV kV doc pm an cdv ct) ps Z sp := by
  refine ⟨len, fun A outer s H args us vs Q p hr hot hpin e0 hb r hsp => ?_⟩
  have hl := len _ _ _ _ hsp
  have KX : K.In s.heap := e0.mod.kin.keeps fun b o e => (e0.bs b o e).1
  have lim : s.heap.NoLimit := e0.mod.nolimit.keeps fun b o e => (e0.bs b o e).1
  have hkind : ∀ y ∈ ps.zip us, scope.names.lookup y.1 = some .local ∨ (scope.names.lookup y.1 = some .cell ∧ ((cellsFrom (s.heap.objs.size + 1) scope.names []).lookup y.1).isSome = true) := fun ⟨n, v⟩ hy => by
    rcases S.par n (List.of_mem_zip hy).1 with q | q
    · exact .inl q
    · exact .inr ⟨q, PySem.W.cellsFrom_some _ _ _ (.inl q)⟩
  refine codeAny_call_function hr.depth (KX _ _ lk) rfl S.co S.gen rfl (PySem.W.codeRec_of KX hcd) (hb _ _ _ _ ?_)
  refine wpAny_newFunctionEnv_cells S.kind hkind fun env he s1 x => ?_
  subst he
  refine ⟨lim.keeps x.toInCall.keep, codeAny_func ?_⟩
  obtain ⟨t, ht, hq⟩ := hbody A outer s H vs Q p hot (hr.deeper _) hsp
  have I : Inv (L2H.cxH CX0 P w K mg base N qual scope f cdv A outer s H E0 p) [] (L2.start N vs) H s1 := L2H.inv_startH S hpin e0 hl r x
  refine wpAny_mono ((PSs.nox ht).run [] s1 (L2.start N vs) H _ I hq) (fun fl s' hs => ?_) fun e s' hs => hs
  have fin : ∀ {σ' : St} {H' : Hp} {v : V} {u : Value}, Inv (L2H.cxH CX0 P w K mg base N qual scope f cdv A outer s H E0 p) [] σ' H' s' → RelV v u → Q v H' → CE outer P w H s Q u s' :=
    fun {σ' H' v u} J rv q => ⟨v, H', J.os, J.bare, J.base, J.hok, rv, q⟩
  cases fl with
  | ret u =>
    obtain ⟨v, σ', H', J, rv, q⟩ := hs
    exact fin J rv q
  | next =>
    obtain ⟨σ', H', J, q⟩ := hs
    exact fin (v := V.non) (u := Value.none) J rfl q
  | brk =>
    obtain ⟨_, _, _, q⟩ := hs
    exact False.elim q
  | cont =>
    obtain ⟨_, _, _, q⟩ := hs
    exact False.elim q
section
variable {X : Cx} {k : Nat} {f : Addr} {fd : FuncData} {ps : List Str} {Z : Addr × Obj → Prop} {sp : Addr × Obj → List V → Hp → VK → Prop} {x : Str} {q pos : Pos} {e : Expr} {es : List Expr} {t : TA}
theorem pe_callQ {p : Addr × Obj} (F : FnQ X.prog X.w X.K X.mg X.base k f fd ps Z sp) (hr : L2H.RoomH k X.A) (hz : Z p) (hp : p ∈ X.pn) (hg : Gl X x) (hm : X.mg x = some (.ref f)) (hk : PySem.W.keepIn X.K (.ref f) = true) (hb : Binds X.K fd ps [])
    (ha : PA X (e :: es) t) (hdb : (x == ("__debug__" : Str)) = false := by decide) (he : starEach (e :: es) X.env = (false, eval e X.env) :: starEach es X.env := by rfl) (hpl : (backTo pos (starEach es X.env)).any (·.1) = false := by rfl) :
    PE X (.Call (.Name x q) (e :: es) [] pos) (fun σ H Q => t σ H fun vs H1 => sp p vs H1 Q) := by
  refine ⟨fun pins s σ H Q I h => ?_⟩
  refine wpAny_Call_Name_kw (ld_glob I hg hm ?_ hdb)
  refine PySem.W.callWith_K (h₀ := X.base) I.ok.mod.kin hk (thn (ha.run pos pins s σ H _ I h) fun us s1 ⟨vs, H1, I1, r, q⟩ => ⟨I1.kIn, ?_⟩) he hpl
  have hl : us.length = ps.length := by rw [← r.length]; exact F.len _ _ _ _ q
  have b := hb s1 us I1.kIn (by rw [List.append_nil]; exact hl)
  rw [List.append_nil] at b
  have P1 := I1.pin p (List.mem_append_left _ hp)
  have hpin : L2H.PinOk X.stack H1 s1 p := ⟨P1.1, P1.2.1, fun hm => (List.mem_cons.mp (I1.stkSub p.1 hm)).elim P1.2.2.1 P1.2.2.2.1, P1.2.2.2.2⟩
  refine wpAny_call (codeAny_mono (F.run X.A X.stack s1 H1 ⟨us, []⟩ us vs Q p hr hz hpin I1.env0 b r q) fun r s' hq => ?_)
  cases r with
  | error e => exact (show False from hq).elim
  | ok fl =>
    cases fl with
    | ret u => exact I1.after hq
    | next => exact False.elim hq
    | brk => exact False.elim hq
    | cont => exact False.elim hq
end
/-- isinstance(e, C), e the object of a pin -/
theorem call_isQ {X : Cx} {a D : Addr} {oe : Obj} (C : ExcC X.K D) (hz : Zc (.ref D) none oe) (hf : ∃ vs, oe.data = .fields vs) (hp : (a, oe) ∈ X.pn) : CallR X (.builtin "isinstance") (rIsE X.K D a) := by
  intro pins s σ H xs us Q I r h
  obtain ⟨c, cv, b, rfl, hcv, e, q⟩ := h
  cases r with
  | cons rx rr =>
    cases rr with
    | cons rt rr =>
      cases rr
      cases rx
      have ec := hcv _ rt
      subst ec
      obtain ⟨hget, _⟩ := I.pin (a, oe) (List.mem_append.mpr (.inl hp))
      obtain ⟨vs, hv⟩ := hf
      have J : PySem.W.InstAt s.heap a oe D none := by
        obtain ⟨oc, od, oda, osl⟩ := oe
        obtain ⟨h1, h2⟩ := hz
        dsimp only at h1 h2 hv
        subst h1 h2 hv
        exact ⟨hget, rfl, rfl, trivial⟩
      exact PySem.W.kia_one (PySem.W.handS_kitx_exc C.hg C.hk C.hs C.hd C.ha C.hn C.ht C.hm) I.kIn J e (fun z => nomatch z) fun tk => ⟨.bl b, H, I.kept (t' := tk) fun _ _ z => z, rfl, q⟩
/-- the classes that are asked, as the class D answers -/
structure Flg (K : PySem.W.Frag) (mg : Str → Option Value) (sub : Str → Str → Bool) (tbl : List Str) (x : Str) (D : Addr) : Prop where
  g : mg x = some (.ref D)
  c : ExcC K D
  a : ∀ y ∈ tbl, ∃ C, mg y = some (.ref C) ∧ PySem.W.kitOne K (.ref D) (.ref C) = some (sub x y)
/-- what the handled exception is -/
def ZF (K : PySem.W.Frag) (mg : Str → Option Value) (sub : Str → Str → Bool) (tbl : List Str) (p : Addr × Obj) : Prop := ∃ (x : Str) (D : Addr), Flg K mg sub tbl x D ∧ Zc (.ref D) none p.2 ∧ ∃ vs, p.2.data = .fields vs
/-- the flags' def: one row of isinstance(e, C) -/
def spFlags (K : PySem.W.Frag) (mg : Str → Option Value) (sub : Str → Str → Bool) (tbl : List Str) (p : Addr × Obj) : List V → Hp → VK → Prop := fun vs H Q => vs = [.ref p.1] ∧ ∀ (x : Str) (D : Addr), Flg K mg sub tbl x D → Zc (.ref D) none p.2 → ∀ q, H q = none → Q (.ref q) (upd H q (.lst (tbl.map fun y => V.bl (sub x y))))
/-- the items of the row -/
structure PFl (X : Cx) (p : Addr × Obj) (sub : Str → Str → Bool) (x : Str) (tbl : List Str) (es : List Expr) : Prop where
  run : PA X es (fun σ H Q => σ[0]? = some (some (.ref p.1)) ∧ Q (tbl.map fun y => V.bl (sub x y)) H)
section
variable {X : Cx} {p : Addr × Obj} {sub : Str → Str → Bool} {x : Str}
theorem pfl_nil : PFl X p sub x [] [] := ⟨⟨fun pos pins s σ H Q I h => pa_nil.run pos pins s σ H Q I h.2⟩⟩
theorem pfl_cons {y ev : Str} {tbl : List Str} {es : List Expr} {D C : Addr} {p0 p1 p2 pos : Pos} (hp : p ∈ X.pn) (cD : ExcC X.K D) (hz : Zc (.ref D) none p.2) (hf : ∃ vs, p.2.data = .fields vs) (gC : X.mg y = some (.ref C)) (k : PySem.W.kitOne X.K (.ref D) (.ref C) = some (sub x y)) (hm : X.mg "isinstance" = none)
    (h : PFl X p sub x tbl es) (hN : X.N[0]? = some ev) (hv : Vis X.env.scope ev) (hd : (ev == ("__debug__" : Str)) = false) (hcd : (ev == ("__classdict__" : Str)) = false) (hg : Gl X "isinstance") (hgy : Gl X y) (hdy : (y == ("__debug__" : Str)) = false)
    (he : starEach [.Name ev p1, .Name y p2] X.env = (false, eval (.Name ev p1) X.env) :: starEach [.Name y p2] X.env := by rfl) (he2 : starEach [.Name y p2] X.env = (false, eval (.Name y p2) X.env) :: starEach [] X.env := by rfl) (hpl : (backTo pos (starEach [.Name y p2] X.env)).any (·.1) = false := by rfl)
    (hs : starEach (.Call (.Name "isinstance" p0) [.Name ev p1, .Name y p2] [] pos :: es) X.env = (false, eval (.Call (.Name "isinstance" p0) [.Name ev p1, .Name y p2] [] pos) X.env) :: starEach es X.env := by rfl) :
    PFl X p sub x (y :: tbl) (.Call (.Name "isinstance" p0) [.Name ev p1, .Name y p2] [] pos :: es) := by
  refine ⟨⟨fun pos' pins s σ H Q I h' => ?_⟩⟩
  refine (pa_cons (pe_callB (call_isQ (a := p.1) (oe := p.2) cD hz hf hp) hg hm (by decide +kernel) (pa_cons (pe_var hN hv hd hcd) (pa_cons (pe_glob hgy gC (v := .ref C) rfl hdy) pa_nil he2) he) (by decide) (by decide) he hpl) h.run hs).run pos' pins s σ H Q I ?_
  exact ⟨_, h'.1, .ref C, .ref C, sub x y, rfl, fun u r => r, k, h'.1, h'.2⟩
end
section
variable {P : Program} {w : World} {K : PySem.W.Frag} {mg : Str → Option Value} {base : Heap}
structure NFl (P : Program) (w : World) (K : PySem.W.Frag) (mg : Str → Option Value) (base : Heap) (k : Nat) (x : Str) (sub : Str → Str → Bool) (tbl : List Str) : Prop where
  ex : ∃ (f : Addr) (fd : FuncData) (ps : List Str), FnQ P w K mg base k f fd ps (ZF K mg sub tbl) (spFlags K mg sub tbl) ∧ mg x = some (.ref f) ∧ PySem.W.keepIn K (.ref f) = true ∧ Binds K fd ps []
theorem NFl.of {x nm qual ev : Str} {params : Arguments} {scope : Scope} {f : Addr} {fd : FuncData} {N : List Str} {es : List Expr} {pos pos2 : Pos} {sub : Str → Str → Bool} {tbl : List Str} (F : FunD K nm qual params [.Return (some (.List es pos)) pos2] scope [] [] f fd) (hm : mg x = some (.ref f)) (S : FnScope N [ev] scope)
    (hb : Binds K fd [ev] []) (hsz : tbl.length ≤ sizeLine)
    (hes : ∀ (A : Around) (outer : List Env) (s : Shared) (H : Hp) (p : Addr × Obj) (cdv : Value) (x : Str) (D : Addr), Flg K mg sub tbl x D → Zc (.ref D) none p.2 → (∃ vs, p.2.data = .fields vs) →
      PFl (L2H.cxH CX0 P w K mg base N qual scope f cdv A outer s H E0 p).nox p sub x tbl es) : NFl P w K mg base 1 x sub tbl := by
  obtain ⟨oc, od, dV, kV, doc, pm, an, cdv, ct, osl, rfl, lk, hcd, _, _⟩ := F.ex
  refine ⟨f, _, [ev], ?_, hm, F.kp, hb⟩
  refine fn_ofQ lk hcd S (fun p vs H Q h => by rw [h.1]; rfl) fun A outer s H vs Q p hz hr hsp => ?_
  obtain ⟨y, D, fl, zc, vf⟩ := hz
  refine ⟨_, pss_one (ps_ret (pe_lst (hes A outer s H p cdv y D fl zc vf).run)), ?_⟩
  obtain ⟨rfl, hq⟩ := hsp
  refine ⟨?_, by rw [List.length_map]; exact hsz, fun q hq' => hq y D fl zc q hq'⟩
  show (L2.start N [V.ref p.1])[0]? = _
  rfl
end
/-- try: body, except x as e: return flags(e) -/
def sTryF (i : Nat) (sub : Str → Str → Bool) (tbl known : List Str) (f : NStm) : NStm := fun n => match f n with
  | .err x n' => match x.at_ with
    | none => if x.cls ∈ known ∧ i < n.length then .ret (.list (tbl.map fun y => .bool (sub x.cls y))) n' else .bad
    | some _ => .bad
  | r => r
def cSs (K : PySem.W.Frag) (mg : Str → Option Value) (f : NStm) (W : WX) : TS := fun D σ H => ∃ c : Cf, c.s = σ ∧ c.H = H ∧ Sim K c ∧ PstS K mg W c D (f c.n)
theorem NSs.canon {X : Cx} {W : WX} {b : List Stmt} {f : NStm} (h : NSs X W b f) : PSs X b (cSs X.K X.mg f W) := by
  obtain ⟨t, p, s⟩ := h.ex
  exact ⟨fun pins s0 σ H D I ⟨c, e1, e2, S, q⟩ => by subst e1 e2; exact p.run pins s0 c.s c.H D I (s c D S q)⟩
section
variable {X : Cx} {W : WX}
theorem Reps.bls {K : PySem.W.Frag} {H : Hp} {F : Fz} : ∀ (bs : List Bool), Reps K H F (bs.map PyData.bool) (bs.map V.bl)
  | [] => Reps.nil
  | b :: bs => Reps.cons Rep.mkBool (Reps.bls bs)
theorem ns_tryF {x ev fl : Str} {i k : Nat} {body : List Stmt} {np p1 p2 p3 p4 p5 pos : Pos} {f : NStm} {sub : Str → Str → Bool} {tbl known : List Str} {C : Addr} (hs : X.stack = X.env :: X.outer) (hf : X.env.frame = some X.env.locals) (hN : X.N.Nodup) (hi : X.N[i]? = some ev) (hln : X.env.kindOf ev = some .local) (gC : X.mg x = some (.ref C)) (tk : Takes X W) (hr : Room k X.A)
    (G : NFl X.prog X.w X.K X.mg X.base k fl sub tbl) (known_ok : ∀ y ∈ known, ∃ D, Flg X.K X.mg sub tbl y D ∧ PySem.W.exmOne X.K (.ref D) (.ref C) = some true)
    (hb : ∀ (W : WX) (pn : List (Addr × Obj)) (xe : Value → Shared → Prop), Takes (X.tr pn xe) W → PassesOwn (model X.prog X.w) X.A X.env xe → NSs (X.tr pn xe) W body f)
    (hgx : Gl X x) (hdx : (x == ("__debug__" : Str)) = false) (hgf : Gl X fl) (hdf : (fl == ("__debug__" : Str)) = false) (hv : Vis X.env.scope ev) (hd : (ev == ("__debug__" : Str)) = false) (hcd : (ev == ("__classdict__" : Str)) = false)
    (he : starEach [.Name ev p2] X.env = (false, eval (.Name ev p2) X.env) :: starEach [] X.env := by rfl) (hpl : (backTo p3 (starEach [] X.env)).any (·.1) = false := by rfl) :
    NS X W (.Try body [.ExceptHandler (some (.Name x np)) (some ev) [.Return (some (.Call (.Name fl p1) [.Name ev p2] [] p3)) p4] p5] [] [] pos) (sTryF i sub tbl known f) := by
  obtain ⟨fa, fd, ps, F, gf, kf, bf⟩ := G.ex
  let ts : Addr → Value → Option Addr → TS := fun a cls d D σ H => ∃ oe0 : Obj, d = none ∧ (∃ (y : Str) (D0 : Addr), cls = .ref D0 ∧ Flg X.K X.mg sub tbl y D0) ∧ σ[i]? = some (some (.ref a)) ∧ ∀ (y : Str) (D0 : Addr), Flg X.K X.mg sub tbl y D0 → cls = .ref D0 → ∀ q, H q = none → D.rt (.ref q) (upd H q (.lst (tbl.map fun z => V.bl (sub y z))))
  have hsu : ∀ (a : Addr) (oe : Obj) (cls : Value) (d : Option Addr) (pn : List (Addr × Obj)), Zc cls d oe → (∃ vs, oe.data = .fields vs) → PSs (X.suite a ((a, oe) :: pn)) [.Return (some (.Call (.Name fl p1) [.Name ev p2] [] p3)) p4] (ts a cls d) := by
    intro a oe cls d pn hz hvs
    refine ⟨fun pins s σ H D I h => ?_⟩
    obtain ⟨_, hd0, ⟨y, D0, hcls, fg⟩, hσ, hq⟩ := h
    subst hd0
    subst hcls
    have room : L2H.RoomH k (X.suite a ((a, oe) :: pn)).A := ⟨hr.dp, hr.un⟩
    have zf : ZF X.K X.mg sub tbl (a, oe) := ⟨y, D0, fg, hz, hvs⟩
    refine (pss_one (ps_ret (pe_callQ (X := X.suite a ((a, oe) :: pn)) (p := (a, oe)) F room zf List.mem_cons_self hgf gf kf bf (pa_cons (pe_var hi hv hd hcd) pa_nil he) hdf he hpl))).run pins s σ H D I ?_
    exact ⟨_, hσ, rfl, fun y' D' g' z' q hq' => hq y' D' g' (by
      have : oe.cls = .ref D' := z'.1
      rw [hz.1] at this; exact this) q hq'⟩
  refine ⟨_, ps_try_as hs hf hN hi hln ⟨hgx, hdx, .inl gC⟩ (tb := fun W => cSs X.K X.mg f W) tk (fun W pn xe t p => (hb W pn xe t p).canon) hsu, fun c D S h => ?_⟩
  refine ⟨c, rfl, rfl, S, ?_⟩
  unfold sTryF at h
  cases er : f c.n with
  | err z n' =>
    rw [er] at h
    intro cls d σ' H' F' st S' xr
    dsimp only at h
    split at h
    · rename_i hat
      split at h
      · rename_i hk
        obtain ⟨hk, hil⟩ := hk
        obtain ⟨gz, ⟨C', hC'⟩, hd'⟩ := xr
        rw [hat] at hd'
        have hd' : d = none := hd'
        subst hd'
        obtain ⟨D0, fg, hx⟩ := known_ok _ hk
        have e1 : cls = .ref D0 := by
          have := gz.symm.trans fg.g
          exact Option.some.inj this
        subst e1
        refine ⟨true, hx, fun _ a ha => ⟨default, rfl, ⟨z.cls, D0, rfl, fg⟩, ?_, fun y D1 gy hD q hq => ?_⟩, fun z => nomatch z⟩
        · have hi' : i < σ'.length := by
            have h1 : n'.length = c.n.length := st.ln
            have h2 : n'.length = σ'.length := S'.len
            omega
          rw [List.getElem?_set_self hi']
        · cases hD
          have et : (tbl.map fun t => V.bl (sub y t)) = (tbl.map fun t => V.bl (sub z.cls t)) := List.map_congr_left fun t ht => by
            obtain ⟨C1, g1, k1⟩ := gy.a t ht
            obtain ⟨C2, g2, k2⟩ := fg.a t ht
            have : C1 = C2 := by
              have := g1.symm.trans g2
              injection this with this
              injection this
            subst this
            rw [k1] at k2
            rw [Option.some.inj k2]
          rw [et]
          obtain ⟨S2, st2, ro⟩ := Sim.newLst S' (p := q) (ds := tbl.map fun t => PyData.bool (sub z.cls t)) hq (by
            have := Reps.bls (K := X.K) (H := H') (F := F') (tbl.map fun t => sub z.cls t)
            rwa [List.map_map, List.map_map] at this)
          obtain ⟨F3, S3, st3, r3⟩ := Sim.freeze S' st2 S2 ro
          exact h _ _ _ _ (st.trans st3) S3 r3
      · exact h.elim
    · exact h.elim
  | nx n' => rw [er] at h; exact h
  | ret d n' => rw [er] at h; exact h
  | brk n' => rw [er] at h; exact h
  | ct n' => rw [er] at h; exact h
  | bad => rw [er] at h; exact h
end
end NL
end L2
/-! NL9: a def chosen from a row; the empty dict. -/
namespace L2
namespace NL
open PySem PySem.Spec PyProof.Rows
section
variable {X : Cx} {W : WX} {k n : Nat}
/-- the names of a row of defs -/
inductive PickOk (X : Cx) (k n : Nat) : List Expr → List NExp → List Addr → Prop
  | nil : PickOk X k n [] [] []
  | cons {x : Str} {g : NExp} {f : Addr} {fd : FuncData} {ps : List Str} {p : Pos} {es : List Expr} {gs : List NExp} {fs : List Addr} (G : FnOk X.prog X.w X.K X.mg X.base (L2.CX X.prog X.w) k f fd ps (NProm X.K X.mg n g)) (hm : X.mg x = some (.ref f)) (hk : PySem.W.keepIn X.K (.ref f) = true) (hb : Binds X.K fd ps [])
      (hg : Gl X x) (hdb : (x == ("__debug__" : Str)) = false) (he : starEach (.Name x p :: es) X.env = (false, eval (.Name x p) X.env) :: starEach es X.env) (r : PickOk X k n es gs fs) : PickOk X k n (.Name x p :: es) (g :: gs) (f :: fs)
def Picks (X : Cx) (k n : Nat) (es : List Expr) (gs : List NExp) : Prop := ∃ fs, PickOk X k n es gs fs
theorem picks_nil : Picks X k n [] [] := ⟨[], .nil⟩
theorem picks_cons {x : Str} {g : NExp} {k' : Nat} {p : Pos} {es : List Expr} {gs : List NExp} (F : NFn X.prog X.w X.K X.mg X.base k' x n g) (hk : k' ≤ k) (r : Picks X k n es gs) (hg : Gl X x := by rfl) (hdb : (x == ("__debug__" : Str)) = false := by decide)
    (he : starEach (.Name x p :: es) X.env = (false, eval (.Name x p) X.env) :: starEach es X.env := by rfl) : Picks X k n (.Name x p :: es) (g :: gs) := by
  obtain ⟨f, fd, ps, G, hm, hkp, hb⟩ := F.ex
  obtain ⟨fs, r⟩ := r
  exact ⟨f :: fs, .cons (G.mono hk) hm hkp hb hg hdb he r⟩
theorem PickOk.pa {es : List Expr} {gs : List NExp} {fs : List Addr} : PickOk X k n es gs fs → ∃ t, PA X es t ∧ ∀ (c : Cf) (Q : List V → Hp → Prop), Q (fs.map V.ref) c.H → t c.s c.H Q
  | .nil => ⟨_, pa_nil, fun c Q h => h⟩
  | .cons G hm hk hb hg hdb he r => by
    obtain ⟨t, pa, s⟩ := r.pa
    exact ⟨_, pa_cons (pe_glob hg hm (v := .ref _) rfl hdb) pa he, fun c Q h => s c _ h⟩
theorem PickOk.at : ∀ {es : List Expr} {gs : List NExp} {fs : List Addr} {i : Nat} {g : NExp}, PickOk X k n es gs fs → gs[i]? = some g → ∃ f, fs[i]? = some f ∧ ∃ (fd : FuncData) (ps : List Str), FnOk X.prog X.w X.K X.mg X.base (L2.CX X.prog X.w) k f fd ps (NProm X.K X.mg n g) ∧ PySem.W.keepIn X.K (.ref f) = true ∧ Binds X.K fd ps []
  | _, _, _, _, _, .nil, h => by simp at h
  | _, _, _, 0, _, .cons G hm hk hb hg hdb he r, h => by
    simp at h; subst h
    exact ⟨_, rfl, _, _, G, hk, hb⟩
  | _, _, _, i + 1, _, .cons G hm hk hb hg hdb he r, h => by
    obtain ⟨f, e, q⟩ := PickOk.at (i := i) r (by simpa using h)
    exact ⟨f, by simpa using e, q⟩
theorem PickOk.len {es : List Expr} {gs : List NExp} {fs : List Addr} : PickOk X k n es gs fs → gs.length = fs.length
  | .nil => rfl
  | .cons _ _ _ _ _ _ _ r => by simp [r.len]
def nPick (gs : List NExp) (fi : NExp) (fs : NSt → R (List AV)) : NExp := fun m => (fi m).bind fun d n1 => match d with
  | .int i => if 0 ≤ i then (match gs[i.toNat]? with
    | some g => nCall g fs n1
    | none => .bad) else .bad
  | _ => .bad
theorem ne_pick {names : List Expr} {gs : List NExp} {fi : NExp} {ie : Expr} {e : Expr} {es : List Expr} {fs : NSt → R (List AV)} {lp sp pos : Pos} (P : Picks X k n names gs) (hz : gs.length ≤ sizeLine) (hr : Room k X.A) (tk : Takes X W) (hi : NE X W ie fi) (ha : NA X W (e :: es) fs) (hn : (e :: es).length = n)
    (hl : ∀ (m : NSt) (as : List AV) (m' : NSt), fs m = .ok as m' → as.length = n)
    (hs : PlainIx ie := by exact fun _ _ => rfl) (he : starEach (e :: es) X.env = (false, eval e X.env) :: starEach es X.env := by rfl) (hpl : (backTo pos (starEach es X.env)).any (·.1) = false := by rfl)
    (hev : eval (.Call (.Subscript (.List names lp) ie sp) (e :: es) [] pos) X.env = (do callWith pos (← eval (.Subscript (.List names lp) ie sp) X.env) [] (backTo pos (starEach (e :: es) X.env)) (backToKw pos (keywordEach [] X.env))) := by rfl) :
    NE X W (.Call (.Subscript (.List names lp) ie sp) (e :: es) [] pos) (nPick gs fi fs) := by
  obtain ⟨fas, P⟩ := P
  obtain ⟨tn, pn, sn⟩ := P.pa
  obtain ⟨ti, pi, si⟩ := hi.ex
  obtain ⟨ta, pa, sa⟩ := ha.ex
  refine ⟨fun σ H Q => tOp (rIx X.K) (tLst tn) ti σ H fun v H1 => ∃ (f : Addr) (fd : FuncData) (ps : List Str) (g : NExp), v = .ref f ∧ FnOk X.prog X.w X.K X.mg X.base (L2.CX X.prog X.w) k f fd ps (NProm X.K X.mg n g) ∧ PySem.W.keepIn X.K (.ref f) = true ∧ Binds X.K fd ps [] ∧
    ta σ H1 fun vs H2 => NProm X.K X.mg n g vs H2 Q (WE W σ), ?_, ?_⟩
  · refine ⟨fun pins s σ H Q I h => ?_⟩
    refine Call_ (thn ((pe_ix ix_seq (pe_lst pn) pi hs).run pins s σ H _ I h) fun u s1 ⟨v, H1, I1, rv, f, fd, ps, g, ev, G, hk, hb, q⟩ => ?_) hev
    subst ev
    cases (show u = Value.ref f from rv)
    exact PySem.W.callWith_K (h₀ := X.base) I1.ok.mod.kin hk (thn (pa.run pos pins s1 σ H1 _ I1 q) fun us s2 ⟨vs, H2, I2, r, q2⟩ => ⟨I2.kIn, run_fnS G hr hb (passAt tk σ) I2 r q2⟩) he hpl
  · intro c Q S h
    refine sn c _ ⟨by rw [List.length_map, ← P.len]; exact hz, fun p hp => ?_⟩
    obtain ⟨S1, st1⟩ := S.ext (H' := upd c.H p (.lst (fas.map V.ref))) (F' := c.F) (upd_old hp) (fun _ f => f) fun a f => .inl f
    refine si ⟨c.n, c.s, upd c.H p (.lst (fas.map V.ref)), c.F⟩ _ S1 ?_
    have h1 : Pst X.K X.mg W (relE X.K) ⟨c.n, c.s, upd c.H p (.lst (fas.map V.ref)), c.F⟩ Q (nPick gs fi fs c.n) := Pst.step (c := c) (c1 := ⟨c.n, c.s, upd c.H p (.lst (fas.map V.ref)), c.F⟩) mono_E rfl st1 h
    refine Pst.seq (rel := relE X.K) (rel' := relE X.K) mono_E h1 fun d n1 v H2 F2 _ st2 S2 r2 h2 => ?_
    cases d with
    | int i =>
      dsimp only at h2
      split at h2
      · rename_i h0
        cases eg : gs[i.toNat]? with
        | none => rw [eg] at h2; exact h2.elim
        | some g =>
          rw [eg] at h2
          obtain ⟨f, ef, fd, ps, G, hk, hb⟩ := P.at eg
          have hH2 : H2 p = some (.lst (fas.map V.ref)) := by
            refine (st2.keep p ?_ fun hd => ?_).trans ?_
            · show upd c.H p _ p ≠ none
              rw [upd_same]; simp
            · exact S.hdH (show c.Hd p from hd) hp
            · show upd c.H p _ p = _
              rw [upd_same]
          have ev : v = .int i := Rep.int (K := X.K) (H := H2) (F := F2) r2
          subst ev
          refine .inl ⟨p, fas.map V.ref, i, .ref f, rfl, rfl, SqL.of hH2, ?_, f, fd, ps, g, rfl, G, hk, hb, ?_⟩
          · have hlt : i.toNat < fas.length := lt_of_get ef
            unfold atI ixN
            rw [if_pos h0, if_pos (by rw [List.length_map]; omega)]
            simp only [Option.bind_some, List.getElem?_map, ef, Option.map_some]
          · refine sa ⟨n1, c.s, H2, F2⟩ _ S2 (Pst.seq (rel := relA X.K) (rel' := relE X.K) mono_E h2 fun as n2 vs H3 F3 eok st3 S3 r3 h3 => ?_)
            split at h3
            · rename_i nd
              cases er : resolve n2 as with
              | none => rw [er] at h3; exact h3.elim
              | some a =>
                rw [er] at h3
                obtain ⟨SA, no, nn, _⟩ := Sim.args (c := ⟨n2, c.s, H3, F3⟩) S3 nd r3 er
                refine ⟨a, F3, by rw [resolve_len er]; exact hl _ _ _ eok, no, nn, SA, ?_⟩
                dsimp only at h3
                cases eg : g a with
                | ok d os =>
                  rw [eg] at h3
                  intro v H' F' st S' rv
                  obtain ⟨st2, S2, _⟩ := Sim.back (c := ⟨n2, c.s, H3, F3⟩) S3 nd r3 er st S'
                  exact h3 v H' F' st2 S2 rv
                | err x os =>
                  rw [eg] at h3
                  intro cls d H' F' st S' rv
                  obtain ⟨st2, S2, _⟩ := Sim.back (c := ⟨n2, c.s, H3, F3⟩) S3 nd r3 er st S'
                  exact h3 cls d H' F' st2 S2 rv
                | bad => rw [eg] at h3; exact h3.elim
            · exact h3.elim
      · exact h2.elim
    | _ => exact h2.elim
/-- a new dict is locked for good -/
def tLkD (t : TE) : TE := fun σ H Q => t σ H fun v H1 => ∃ (d : Addr) (kx : List (Key × V)), v = .ref d ∧ H1 d = some (.dK kx) ∧ ∀ od, Q v (upd H1 d (.frz od (.dK kx)))
theorem pe_lockD {e : Expr} {t : TE} (h : PE X e t) : PE X e (tLkD t) := by
  refine ⟨fun pins s σ H Q I q => ?_⟩
  refine thn (h.run pins s σ H _ I q) fun v s1 ⟨x, H1, I1, r1, d, kx, e1, e2, q1⟩ => ?_
  obtain ⟨od, I2⟩ := I1.lock e2 trivial
  exact ⟨x, _, I2, r1, q1 od⟩
theorem upd_upd {H : Hp} {p : Addr} {o o' : HO} : upd (upd H p o) p o' = upd H p o' := by
  funext b
  by_cases h : b = p
  · subst h; rw [upd_same, upd_same]
  · rw [upd_ne h, upd_ne h, upd_ne h]
/-- a new dict, locked -/
theorem Sim.newDict {K : PySem.W.Frag} {c : Cf} (S : Sim K c) {p : Addr} {od : Obj} {kx : List (Key × V)} {kvs : List (PyData × PyData)} (hp : c.H p = none) (hk : kvs.map (·.1) = kx.map (fun p => keyD p.1)) (r : RepsP K c.H c.F kvs (kx.map (·.2))) :
    let c' : Cf := ⟨c.n, c.s, upd c.H p (.frz od (.dK kx)), orEq c.F p⟩; Sim K c' ∧ Step c c' ∧ Rep K c'.H c'.F (.dict kvs) (.ref p) := by
  intro c'
  obtain ⟨h1, h2⟩ := S.ext (H' := upd c.H p (.frz od (.dK kx))) (F' := orEq c.F p) (upd_old hp) (fun _ h => .inl h) fun a h => h.elim .inl fun z => .inr (by subst z; exact ⟨hp, by rw [upd_same]; simp⟩)
  exact ⟨h1, h2, Rep.mkDict (.inr rfl) upd_same hk (RepsP.keep (h2.frz S) _ _ r)⟩
/-- {} -/
theorem ne_dict0 {pos : Pos} : NE X W (.Dict [] [] pos) (fun m => .ok (.dict []) m) := by
  refine ⟨tLkD tDNewK, pe_lockD pe_dnewK, fun c Q S h p hp => ⟨p, [], rfl, upd_same, fun od => ?_⟩⟩
  rw [upd_upd]
  obtain ⟨S1, st1, r1⟩ := S.newDict (p := p) (od := od) (kx := []) (kvs := []) hp rfl (by unfold RepsP; rfl)
  exact h (.ref p) _ _ st1 S1 r1
end
end NL
end L2
/-! NL10: defs that return a new list of the caller's own. -/
namespace L2
namespace NL
open PySem PySem.Spec PyProof.Rows
/-- a list that was new, or a slot's own, and that none holds any more -/
def relG (K : PySem.W.Frag) (c0 c : Cf) (xs : List PyData) (v : V) : Prop := ∃ (a : Addr) (ws : List V), v = .ref a ∧ (c0.H a = none ∨ c0.Ow a) ∧ ¬ c.F a ∧ c.H a = some (.lst ws) ∧ ¬ c.Hd a ∧ Reps K c.H c.F xs ws
theorem relO.g {K : PySem.W.Frag} {c0 c : Cf} {xs : List PyData} {v : V} (h : relO K c0 c xs v) : relG K c0 c xs v := let ⟨a, ws, e, h0, r⟩ := h; ⟨a, ws, e, .inl h0, r⟩
theorem relG.step {K : PySem.W.Frag} {c0 c1 c : Cf} {xs : List PyData} {v : V} (st : Step c0 c1) (h : relG K c1 c xs v) : relG K c0 c xs v := by
  obtain ⟨a, ws, e, h0, r⟩ := h
  refine ⟨a, ws, e, ?_, r⟩
  rcases h0 with h0 | h0
  · exact .inl (Classical.byContradiction fun z => st.live a z h0)
  · exact (st.ow a h0).symm
def PstO (K : PySem.W.Frag) (mg : Str → Option Value) (W : WX) (c : Cf) (D : Ends) : R (List PyData) → Prop
  | .ok xs n' => ∀ v σ' H' F', Step c ⟨n', σ', H', F'⟩ → Sim K ⟨n', σ', H', F'⟩ → relG K c ⟨n', σ', H', F'⟩ xs v → D.rt v H'
  | .err x n' => ∀ cls d σ' H' F', Step c ⟨n', σ', H', F'⟩ → Sim K ⟨n', σ', H', F'⟩ → XRep K mg H' F' x cls d → W cls d σ' H'
  | .bad => False
theorem PstO.step {K : PySem.W.Frag} {mg : Str → Option Value} {W : WX} {c c1 : Cf} {D : Ends} (st : Step c c1) {r : R (List PyData)} (h : PstO K mg W c D r) : PstO K mg W c1 D r := by
  cases r with
  | ok xs n => exact fun v σ' H' F' s1 S1 r => h v σ' H' F' (st.trans s1) S1 (r.step st)
  | err x n => exact fun cls d σ' H' F' s1 S1 => h cls d σ' H' F' (st.trans s1) S1
  | bad => exact h
structure NSo (X : Cx) (W : WX) (sts : List Stmt) (f : NSt → R (List PyData)) : Prop where
  ex : ∃ t, PSs X sts t ∧ ∀ (c : Cf) (D : Ends), Sim X.K c → PstO X.K X.mg W c D (f c.n) → t D c.s c.H
/-- an own slot is given away -/
def nGive (i : Nat) : NSt → R (List PyData) := fun n => match n[i]? with
  | some (some (.own xs)) => .ok xs (n.set i none)
  | _ => .bad
def sSeqO (f : NStm) (g : NSt → R (List PyData)) : NSt → R (List PyData) := fun n => match f n with
  | .nx n' => g n'
  | .err x n' => .err x n'
  | _ => .bad
def sIfO (t : NSt → R Bool) (f g : NSt → R (List PyData)) : NSt → R (List PyData) := fun n => (t n).bind fun b n' => if b = true then f n' else g n'
section
variable {X : Cx} {W : WX} {st : Stmt} {rest : List Stmt} {f : NStm} {g fo : NSt → R (List PyData)} {e : Expr} {pos : Pos}
theorem nso_ret (h : NEo X W e fo) : NSo X W [.Return (some e) pos] fo := by
  obtain ⟨t, p, s⟩ := h.ex
  refine ⟨_, pss_one (ps_ret p), fun c D S q => ?_⟩
  show t c.s c.H D.rt
  refine s c _ S ?_
  cases er : fo c.n with
  | ok xs n' => rw [er] at q; exact fun v H' F' st S' r => q v c.s H' F' st S' r.g
  | err x n' => rw [er] at q; exact fun cls d H' F' st S' r => q cls d c.s H' F' st S' r
  | bad => rw [er] at q; exact q
theorem Sim.drop {K : PySem.W.Frag} {c : Cf} (S : Sim K c) {i : Nat} {xs : List PyData} (e : c.n[i]? = some (some (.own xs))) :
    ∃ a, c.s[i]? = some (some (.ref a)) ∧ let c' : Cf := ⟨c.n.set i none, c.s, c.H, c.F⟩; Step c c' ∧ Sim K c' ∧ relG K c c' xs (.ref a) := by
  obtain ⟨v, e1, a, ws, rfl, nf, hH, r⟩ := S.slot i _ e
  have hi := lt_of_get e
  have sub : ∀ (j : Nat) (sl : Sl), (c.n.set i none)[j]? = some (some sl) → c.n[j]? = some (some sl) ∧ i ≠ j := fun j sl q => by
    by_cases h : i = j
    · subst h
      rw [List.getElem?_set_self hi] at q
      cases q
    · rw [List.getElem?_set_ne h] at q
      exact ⟨q, h⟩
  refine ⟨a, e1, ⟨fun _ _ _ => rfl, fun _ h => h, fun _ h => h, fun _ h => .inl h, fun b ⟨j, sl, q1, q2, q3⟩ => .inl ⟨j, sl, (sub j sl q1).1, q2, q3⟩, fun b ⟨j, ys, q1, q3⟩ => .inl ⟨j, ys, (sub j _ q1).1, q3⟩, fun j ys q => ?_, ?_⟩, ⟨?_, fun j sl q => S.slot j sl (sub j sl q).1, fun j k sj sk b q1 q2 h1 h2 q3 q4 => S.sep j k sj sk b (sub j sj q1).1 (sub k sk q2).1 h1 h2 q3 q4, S.fz⟩,
    ⟨a, ws, rfl, .inr ⟨i, xs, e, e1⟩, nf, hH, fun ⟨j, sl, q1, q2, q3⟩ => ?_, r⟩⟩
  · refine ⟨ys, ?_, rfl⟩
    show (c.n.set i none)[j]? = _
    by_cases h : i = j
    · subst h; rw [e] at q; cases q
    · rw [List.getElem?_set_ne h]; exact q
  · show (c.n.set i none).length = _
    simp
  · show (c.n.set i none).length = _
    simp [S.len]
  · exact (sub j sl q1).2 (S.sep i j _ sl a e (sub j sl q1).1 rfl q2 e1 q3)
theorem nso_give (i : Nat) {x : Str} {p : Pos} (hN : X.N[i]? = some x := by rfl) (hv : Vis X.env.scope x := by first | exact Or.inl rfl | exact Or.inr (Or.inl rfl) | exact Or.inr (Or.inr rfl)) (hd : (x == ("__debug__" : Str)) = false := by decide)
    (hcd : (x == ("__classdict__" : Str)) = false := by decide) : NSo X W [.Return (some (.Name x p)) pos] (nGive i) := by
  refine ⟨_, pss_one (ps_ret (pe_var hN hv hd hcd)), fun c D S q => ?_⟩
  unfold nGive at q
  split at q
  · rename_i xs e
    obtain ⟨a, e1, st, S', r⟩ := S.drop e
    exact ⟨_, e1, q _ _ _ _ st S' r⟩
  · exact q.elim
theorem nso_cons (h1 : NS X W st f) (h2 : NSo X W rest g) : NSo X W (st :: rest) (sSeqO f g) := by
  obtain ⟨t1, p1, s1⟩ := h1.ex
  obtain ⟨t2, p2, s2⟩ := h2.ex
  refine ⟨_, pss_cons p1 p2, fun c D S h => ?_⟩
  refine s1 c _ S ?_
  unfold sSeqO at h
  cases q : f c.n with
  | nx n' => rw [q] at h; exact fun σ' H' F' st S' => s2 ⟨n', σ', H', F'⟩ D S' (PstO.step st h)
  | err x n' => rw [q] at h; exact h
  | ret d n' => rw [q] at h; exact h.elim
  | brk n' => rw [q] at h; exact h.elim
  | ct n' => rw [q] at h; exact h.elim
  | bad => rw [q] at h; exact h.elim
/-- if c: return .., and on -/
theorem nso_if {c : Expr} {a : List Stmt} {t : NSt → R Bool} {ga : NSt → R (List PyData)} (hc : NT X W c t) (ha : NSo X W a ga) (h2 : NSo X W rest g) : NSo X W (.If c a [] pos :: rest) (sIfO t ga g) := by
  obtain ⟨tc, pc, sc⟩ := hc.ex
  obtain ⟨t1, p1, s1⟩ := ha.ex
  obtain ⟨t2, p2, s2⟩ := h2.ex
  refine ⟨_, pss_cons (ps_if pc p1 pss_nil) p2, fun c0 D S h => ?_⟩
  refine sc c0 _ S ?_
  unfold sIfO at h
  cases q : t c0.n with
  | ok b n' =>
    rw [q] at h
    intro b2 H' F' st S' eb
    have eb : b = b2 := eb
    subst eb
    have h : PstO X.K X.mg W c0 D (if b = true then ga n' else g n') := h
    cases b with
    | true => exact s1 ⟨n', c0.s, H', F'⟩ _ S' (PstO.step (D := { D with nx := t2 D }) st h)
    | false => exact s2 ⟨n', c0.s, H', F'⟩ D S' (PstO.step st h)
  | err x n' => rw [q] at h; exact fun cls d H' F' st S' r => h cls d c0.s H' F' st S' r
  | bad => rw [q] at h; exact h.elim
end
/-! ### the def, the call -/
def NPromO (K : PySem.W.Frag) (mg : Str → Option Value) (k : Nat) (g : NSt → R (List PyData)) : Sp := fun vs H Q E => ∃ (a : NSt) (F : Fz), a.length = k ∧ (∀ (i : Nat) (xs : List PyData), a[i]? ≠ some (some (Sl.own xs))) ∧ (∀ o ∈ a, o ≠ none) ∧ Sim K ⟨a, vs.map some, H, F⟩ ∧
  Pst K mg (fun cls d _ H' => E cls d H') (relO K) ⟨a, vs.map some, H, F⟩ Q (g a)
structure NFnO (P : Program) (w : World) (K : PySem.W.Frag) (mg : Str → Option Value) (base : Heap) (k : Nat) (x : Str) (n : Nat) (g : NSt → R (List PyData)) : Prop where
  ex : ∃ (f : Addr) (fd : FuncData) (ps : List Str), FnOk P w K mg base (L2.CX P w) k f fd ps (NPromO K mg n g) ∧ mg x = some (.ref f) ∧ PySem.W.keepIn K (.ref f) = true ∧ Binds K fd ps []
def runDO (N : Nat) (body : NSt → R (List PyData)) : NSt → R (List PyData) := fun a => match body (a ++ List.replicate (N - a.length) none) with
  | .ok d n' => .ok d (outs a n')
  | .err x n' => .err x (outs a n')
  | .bad => .bad
def nCallO (g : NSt → R (List PyData)) (fs : NSt → R (List AV)) : NSt → R (List PyData) := fun n => (fs n).bind fun as n1 => if (ixs as).Nodup then (match resolve n1 as with
  | some a => match g a with
    | .ok d os => .ok d (back n1 as os)
    | .err x os => .err x (back n1 as os)
    | .bad => .bad
  | none => .bad) else .bad
section
variable {P : Program} {w : World} {K : PySem.W.Frag} {mg : Str → Option Value} {base : Heap}
theorem NFnO.of {x nm qual : Str} {params : Arguments} {sbody : List Stmt} {scope : Scope} {f : Addr} {fd : FuncData} {N ps : List Str} {k n : Nat} {body : NSt → R (List PyData)} (F : FunD K nm qual params sbody scope [] [] f fd) (hm : mg x = some (.ref f)) (S : FnScope N ps scope)
    (hb : Binds K fd ps []) (hn : n = ps.length)
    (hbody : ∀ (cdv : Value) (A : Around) (outer : List Env) (s : Shared) (H : Hp) (E : XK), Room k (A.deeper (envOfC qual scope s.heap.objs.size f cdv)) →
      NSo (cxOf (L2.CX P w) P w K mg base N qual scope f cdv A outer s H E) (fun cls d _ H' => E cls d H') sbody body) : NFnO P w K mg base (k + 1) x n (runDO N.length body) := by
  refine ⟨f, fd, ps, ?_, hm, F.kp, hb⟩
  refine F.ok S (fun vs H Q E ⟨a, F', hl, _, _, S0, _⟩ => ?_) fun cdv A outer s H vs Q E hr hsp => ?_
  · have h1 : a.length = (vs.map some).length := S0.len
    rw [List.length_map] at h1
    omega
  · obtain ⟨t, p, sd⟩ := (hbody cdv A outer s H E hr).ex
    refine ⟨t, p, ?_⟩
    obtain ⟨a, F', hl, no, _, S0, q⟩ := hsp
    have h1 : a.length = (vs.map some).length := S0.len
    have hvl : vs.length = a.length := by rw [List.length_map] at h1; exact h1.symm
    have hN : a.length ≤ N.length := by
      have := congrArg List.length S.pre
      rw [List.length_take] at this
      omega
    have est : start N vs = vs.map some ++ List.replicate (N.length - a.length) none := by
      unfold start
      rw [hvl]
    rw [est]
    refine sd ⟨a ++ List.replicate (N.length - a.length) none, vs.map some ++ List.replicate (N.length - a.length) none, H, F'⟩ _ (S0.enter _) ?_
    unfold runDO at q
    cases er : body (a ++ List.replicate (N.length - a.length) none) with
    | ok d n' =>
      rw [er] at q
      intro v σ' H' F2 st S2 r
      obtain ⟨st3, S3⟩ := Sim.outs S0 hN no st S2
      obtain ⟨b, ws, e, h0, nf, hH, nh, rr⟩ := r
      have h0' : H b = none := by
        rcases h0 with h0 | ⟨i, xs, e1, _⟩
        · exact h0
        · have e1' : (a ++ List.replicate (N.length - a.length) none)[i]? = some (some (Sl.own xs)) := e1
          by_cases hi : i < a.length
          · rw [List.getElem?_append_left hi] at e1'
            exact absurd e1' (no i xs)
          · rw [List.getElem?_append_right (by omega), List.getElem?_replicate] at e1'
            split at e1' <;> cases e1'
      refine q v H' F2 st3 S3 ⟨b, ws, e, h0', nf, hH, fun ⟨i, sl, q1, q2, q3⟩ => ?_, rr⟩
      have hln : a.length ≤ n'.length := by
        have := st.ln
        simp only [List.length_append, List.length_replicate] at this
        omega
      have q1' : (NL.outs a n')[i]? = some (some sl) := q1
      have hia : i < a.length := by
        have := lt_of_get q1'
        unfold NL.outs at this
        rw [List.length_zipWith] at this
        omega
      have : ∃ s0 : Sl, a[i]? = some (some s0) ∧ s0.held = true := by
        cases q0 : a[i]? with
        | none => rw [List.getElem?_eq_getElem hia] at q0; cases q0
        | some o =>
          rw [outs_get q0 hln] at q1'
          cases o with
          | none => cases q1'
          | some s0 =>
            cases s0 with
            | lent ys => exact ⟨_, rfl, rfl⟩
            | own ys => exact ⟨_, rfl, rfl⟩
            | val d => cases q1'; cases q2
            | scr d => cases q1'; cases q2
      obtain ⟨s0, g1, g2⟩ := this
      exact S0.hdH (a := b) ⟨i, s0, g1, g2, q3⟩ h0'
    | err x n' =>
      rw [er] at q
      intro cls d σ' H' F2 st S2 r
      obtain ⟨st3, S3⟩ := Sim.outs S0 hN no st S2
      exact q cls d H' F2 st3 S3 r
    | bad => rw [er] at q; exact q.elim
end
section
variable {X : Cx} {W : WX}
theorem neo_call {k n : Nat} {x : Str} {g : NSt → R (List PyData)} {e : Expr} {es : List Expr} {fs : NSt → R (List AV)} {p pos : Pos} (F : NFnO X.prog X.w X.K X.mg X.base k x n g) (hr : Room k X.A) (tk : Takes X W) (ha : NA X W (e :: es) fs) (hn : (e :: es).length = n) (hg : Gl X x := by rfl)
    (hl : ∀ (m : NSt) (as : List AV) (m' : NSt), fs m = .ok as m' → as.length = n)
    (hdb : (x == ("__debug__" : Str)) = false := by decide) (he : starEach (e :: es) X.env = (false, eval e X.env) :: starEach es X.env := by rfl) (hpl : (backTo pos (starEach es X.env)).any (·.1) = false := by rfl) :
    NEo X W (.Call (.Name x p) (e :: es) [] pos) (nCallO g fs) := by
  obtain ⟨f, fd, ps, G, hm, hk, hb⟩ := F.ex
  obtain ⟨t, pa, s⟩ := ha.ex
  refine ⟨_, pe_callS G hr hg hm hk hb (passAt tk) pa hdb he hpl, fun c Q S h => ?_⟩
  refine s c _ S (Pst.seq (rel := relA X.K) (rel' := relO X.K) mono_O h fun as n1 vs H1 F1 eok st1 S1 r1 h1 => ?_)
  split at h1
  · rename_i nd
    cases er : resolve n1 as with
    | none => rw [er] at h1; exact h1.elim
    | some a =>
      rw [er] at h1
      obtain ⟨SA, no, nn, _⟩ := Sim.args (c := ⟨n1, c.s, H1, F1⟩) S1 nd r1 er
      refine ⟨a, F1, by rw [resolve_len er]; exact hl _ _ _ eok, no, nn, SA, ?_⟩
      dsimp only at h1
      cases eg : g a with
      | ok d os =>
        rw [eg] at h1
        intro v H' F' st S' rv
        obtain ⟨st2, S2, hd2⟩ := Sim.back (c := ⟨n1, c.s, H1, F1⟩) S1 nd r1 er st S'
        obtain ⟨b, ws, e, h0, nf, hH, nh, rr⟩ := rv
        exact h1 v H' F' st2 S2 ⟨b, ws, e, h0, nf, hH, fun z => S1.hdH (hd2 b z) h0, rr⟩
      | err x os =>
        rw [eg] at h1
        intro cls d H' F' st S' rv
        obtain ⟨st2, S2, _⟩ := Sim.back (c := ⟨n1, c.s, H1, F1⟩) S1 nd r1 er st S'
        exact h1 cls d H' F' st2 S2 rv
      | bad => rw [eg] at h1; exact h1.elim
  · exact h1.elim
end
end NL
end L2
/-! NL11: what a law's text asks: lengths of argument rows, room, builtins' names, facts of the written part, the end. -/
namespace L2
namespace NL
open PySem PySem.Spec PyProof.Rows
theorem aNil_len : ∀ (m : NSt) (as : List AV) (m' : NSt), aNil m = .ok as m' → as.length = 0 := fun m as m' e => by
  cases e; rfl
theorem aCons_len {p : Opd} {f : NSt → R (List AV)} {k : Nat} (h : ∀ (m : NSt) (as : List AV) (m' : NSt), f m = .ok as m' → as.length = k) : ∀ (m : NSt) (as : List AV) (m' : NSt), aCons p f m = .ok as m' → as.length = k + 1 := fun m as m' e => by
  unfold aCons at e
  cases q : p.run m with
  | ok a n1 =>
    rw [q] at e
    have e : (f n1).bind (fun as n2 => R.ok (a :: as) n2) = .ok as m' := e
    cases q2 : f n1 with
    | ok bs n2 =>
      rw [q2] at e
      cases e
      simp [h _ _ _ q2]
    | err x n => rw [q2] at e; cases e
    | bad => rw [q2] at e; cases e
  | err x n => rw [q] at e; cases e
  | bad => rw [q] at e; cases e
theorem u65 {k : Nat} {A : Around} (r : Room k A) : A.units + 65 < cLine := by have := r.un; omega
theorem bt_len : bootBuiltins "len" = some (.builtin "len") := by decide +kernel
theorem bt_all : bootBuiltins "all" = some (.builtin "all") := by decide +kernel
theorem bt_any : bootBuiltins "any" = some (.builtin "any") := by decide +kernel
theorem bt_sum : bootBuiltins "sum" = some (.builtin "sum") := by decide +kernel
theorem bt_max : bootBuiltins "max" = some (.builtin "max") := by decide +kernel
theorem bt_min : bootBuiltins "min" = some (.builtin "min") := by decide +kernel
theorem bt_abs : bootBuiltins "abs" = some (.builtin "abs") := by decide +kernel
theorem bt_int : bootBuiltins "int" = some (.type "int") := by decide +kernel
theorem bt_bool : bootBuiltins "bool" = some (.type "bool") := by decide +kernel
theorem bt_str : bootBuiltins "str" = some (.type "str") := by decide +kernel
theorem bt_list : bootBuiltins "list" = some (.type "list") := by decide +kernel
theorem bt_tuple : bootBuiltins "tuple" = some (.type "tuple") := by decide +kernel
theorem bt_dict : bootBuiltins "dict" = some (.type "dict") := by decide +kernel
theorem bt_sorted : bootBuiltins "sorted" = some (.builtin "sorted") := by decide +kernel
theorem NFnO.mono {P : Program} {w : World} {K : PySem.W.Frag} {mg : Str → Option Value} {base : Heap} {k k' : Nat} {x : Str} {n : Nat} {g : NSt → R (List PyData)} (h : NFnO P w K mg base k x n g) (hk : k ≤ k') : NFnO P w K mg base k' x n g :=
  let ⟨f, fd, ps, F, m, kp, b⟩ := h.ex; ⟨f, fd, ps, F.mono hk, m, kp, b⟩
theorem NFl.mono {P : Program} {w : World} {K : PySem.W.Frag} {mg : Str → Option Value} {base : Heap} {k k' : Nat} {x : Str} {sub : Str → Str → Bool} {tbl : List Str} (h : NFl P w K mg base k x sub tbl) (hk : k ≤ k') : NFl P w K mg base k' x sub tbl :=
  let ⟨f, fd, ps, F, m, kp, b⟩ := h.ex; ⟨f, fd, ps, ⟨F.len, fun A outer s H args us vs Q p hr => F.run A outer s H args us vs Q p (hr.mono hk)⟩, m, kp, b⟩
/-- a new list if .. else a new list -/
def nIfO (t : NSt → R Bool) (f g : NSt → R (List PyData)) : NSt → R (List PyData) := fun n => (t n).bind fun b n' => if b = true then f n' else g n'
theorem neo_if {X : Cx} {W : WX} {c a b : Expr} {pos : Pos} {ft : NSt → R Bool} {va vb : NSt → R (List PyData)} (hc : NT X W c ft) (ha : NEo X W a va) (hb : NEo X W b vb) : NEo X W (.IfExp c a b pos) (nIfO ft va vb) := by
  obtain ⟨tc, pc, sc⟩ := hc.ex
  obtain ⟨ta, pa, sa⟩ := ha.ex
  obtain ⟨tb, pb, sb⟩ := hb.ex
  refine ⟨tIf tc ta tb, pe_ifExp pc pa pb, fun c Q S h => ?_⟩
  refine sc c _ S (Pst.seq (rel := relT) (rel' := relO X.K) mono_O h fun k n' k' H' F' _ st S' r q => ?_)
  cases r
  cases k with
  | true => exact iteT (sa ⟨n', c.s, H', F'⟩ Q S' q)
  | false => exact iteF (sb ⟨n', c.s, H', F'⟩ Q S' q)
/-! ### a def that promises nothing -/
section
variable {P : Program} {w : World} {K : PySem.W.Frag} {mg : Str → Option Value} {base : Heap}
theorem NFn.bad {x nm qual : Str} {params : Arguments} {sbody : List Stmt} {scope : Scope} {f : Addr} {fd : FuncData} {ps : List Str} {k n : Nat} (F : FunD K nm qual params sbody scope [] [] f fd) (hm : mg x = some (.ref f)) (hb : Binds K fd ps []) : NFn P w K mg base k x n (fun _ => .bad) :=
  ⟨f, fd, ps, ⟨fun _ _ _ _ h => by obtain ⟨_, _, _, _, _, _, h⟩ := h; exact h.elim, fun _ _ _ _ _ _ _ _ _ _ _ _ _ h => by obtain ⟨_, _, _, _, _, _, h⟩ := h; exact h.elim⟩, hm, F.kp, hb⟩
/-- where a def of the text stands -/
structure DefIn (K : PySem.W.Frag) (mg : Str → Option Value) (x py : Str) (st : Stmt) : Prop where
  ex : ∃ (f : Addr) (fd : FuncData), FunD K py py (defArgs st) (defBody st) (defScope st) [] [] f fd ∧ mg x = some (.ref f)
end
/-! ### facts of the written part -/
mutual
def valOk (K : PySem.W.Frag) : PyData → Value → Bool
  | .none, .none => true
  | .bool a, .bool b => a == b
  | .int i, .int j _ => decide (i = j)
  | .str a, .str b _ => decide (a = b)
  | .tuple ds, .ref a => match K.lookup a with
    | some ⟨.type c, _, .seq its _, _⟩ => decide (c = "tuple") && (decide (its.size ≤ sizeLine) && valsOk K ds its.toList)
    | _ => false
  | _, _ => false
def valsOk (K : PySem.W.Frag) : List PyData → List Value → Bool
  | [], [] => true
  | d :: ds, v :: vs => valOk K d v && valsOk K ds vs
  | _, _ => false
end
theorem Vals.mk {v : V} {u : Value} {vs : List V} {us : List Value} (h1 : RelV v u) (h2 : Vals vs us) : Vals (v :: vs) (u :: us) := .cons h1 h2
mutual
theorem valOk_ok {K : PySem.W.Frag} : ∀ (d : PyData) (v : Value), valOk K d v = true → ∃ w, RelV w v ∧ ∀ H F, Rep K H F d w
  | .none, v, h => by
    cases v <;> first | exact ⟨.non, rfl, fun _ _ => Rep.mkNone⟩ | (unfold valOk at h; cases h)
  | .bool a, v, h => by
    cases v <;> first | (unfold valOk at h; have e := eq_of_beq h; subst e; exact ⟨.bl a, rfl, fun _ _ => Rep.mkBool⟩) | (unfold valOk at h; cases h)
  | .int a, v, h => by
    cases v <;> first | (unfold valOk at h; have e := of_decide_eq_true h; subst e; exact ⟨.int a, ⟨_, rfl⟩, fun _ _ => Rep.mkInt⟩) | (unfold valOk at h; cases h)
  | .str a, v, h => by
    cases v <;> first | (unfold valOk at h; have e := of_decide_eq_true h; subst e; exact ⟨.str a, ⟨_, rfl⟩, fun _ _ => Rep.mkStr⟩) | (unfold valOk at h; cases h)
  | .tuple ds, v, h => by
    cases v with
    | ref a =>
      unfold valOk at h
      split at h
      · rename_i c od its n sl q
        obtain ⟨h1, h2⟩ := Bool.and_eq_true_iff.mp h
        obtain ⟨h2, h3⟩ := Bool.and_eq_true_iff.mp h2
        have h1 := of_decide_eq_true h1
        have h2 := of_decide_eq_true h2
        subst h1
        obtain ⟨ws, hv, hr⟩ := valsOk_ok ds _ h3
        exact ⟨.ref a, rfl, fun H F => Rep.mkTupK (fun H' => .inr ⟨_, its, n, q, rfl, rfl, h2, hv⟩) (hr H F)⟩
      · cases h
    | _ => unfold valOk at h; cases h
  | .list ds, v, h => by unfold valOk at h; cases h
  | .dict ds, v, h => by unfold valOk at h; cases h
theorem valsOk_ok {K : PySem.W.Frag} : ∀ (ds : List PyData) (vs : List Value), valsOk K ds vs = true → ∃ ws, Vals ws vs ∧ ∀ H F, Reps K H F ds ws
  | [], vs, h => by
    cases vs with
    | nil => exact ⟨[], .nil, fun _ _ => Reps.nil⟩
    | cons v vs => unfold valsOk at h; cases h
  | d :: ds, vs, h => by
    cases vs with
    | nil => unfold valsOk at h; cases h
    | cons v vs =>
      unfold valsOk at h
      obtain ⟨h1, h2⟩ := Bool.and_eq_true_iff.mp h
      obtain ⟨w, r1, r2⟩ := valOk_ok d v h1
      obtain ⟨ws, r3, r4⟩ := valsOk_ok ds vs h2
      exact ⟨w :: ws, .cons r1 r3, fun H F => Reps.cons (r2 H F) (r4 H F)⟩
end
inductive Fb where
  | dat (x : Str) (d : PyData)
  | excC (x : Str)
  | kit (x y : Str) (b : Bool)
def Fb.ok (K : PySem.W.Frag) : Fb → Bool
  | .dat x d => match PySem.W.nsIn K mainGlobals x with
    | some (some v) => valOk K d v
    | _ => false
  | .excC x => He.eqO (PySem.W.findIn K (.ref (He.ga K x)) "__getattribute__") (some (some (.builtin "BaseException.__getattribute__"))) && (He.eqO (PySem.W.findIn K (.ref (He.ga K x)) "__getattr__") (some none) && (decide (PySem.W.subIn K (.ref (He.ga K x)) (.type "BaseException") = some true) &&
    (PySem.W.hasDictIn K (He.ga K x) && (He.eqO (PySem.W.findIn K (.ref (He.ga K x)) "__class__") (some (some (.builtin "object.__class__"))) && (decide (PySem.W.takesIn K (.builtin "object.__class__") = some true) && decide (PySem.W.mroIn K (He.ga K x) (.type "object") = some true)))))) && He.eqO (PySem.W.specialIn K (.builtin "object.__class__") "__get__") (some (some (.builtin "getset_descriptor.__get__")))
  | .kit x y b => decide (PySem.W.kitOne K (.ref (He.ga K x)) (.ref (He.ga K y)) = some b)
section
variable {K : PySem.W.Frag} {h : Heap} {mg : Str → Option Value}
theorem dat_ok (X : K.In h) (G : h.Ns mainGlobals mg) {x : Str} {d : PyData} (c : (Fb.dat x d).ok K = true) : Gv K mg x d := by
  have c : (match PySem.W.nsIn K mainGlobals x with
    | some (some v) => valOk K d v
    | _ => false) = true := c
  split at c
  · rename_i v q
    obtain ⟨w, r, rr⟩ := valOk_ok d v c
    exact ⟨w, v, PySem.W.mg_of X G q, r, rr⟩
  · cases c
theorem gv_int {x : Str} {i : Int} (h : ∃ t, mg x = some (.int i t)) : Gv K mg x (.int i) := let ⟨t, e⟩ := h; ⟨.int i, _, e, ⟨t, rfl⟩, fun _ _ => Rep.mkInt⟩
theorem gv_str {x : Str} {i : Str} (h : ∃ t, mg x = some (.str i t)) : Gv K mg x (.str i) := let ⟨t, e⟩ := h; ⟨.str i, _, e, ⟨t, rfl⟩, fun _ _ => Rep.mkStr⟩
theorem excF_ok (X : K.In h) (G : h.Ns mainGlobals mg) {x : Str} (c : (He.Fa.exc x).ok K = true) (g : (He.Fa.glo x).ok K = true) : ExcF K mg x := by
  obtain ⟨h1, h2, h3, h4⟩ := He.exc_ok c
  exact ⟨_, He.glo_ok X G g, h1, h2, h3, h4⟩
theorem excC_ok {x : Str} (c : (Fb.excC x).ok K = true) : ExcC K (He.ga K x) := by
  unfold Fb.ok at c
  obtain ⟨c, hn⟩ := Bool.and_eq_true_iff.mp c
  obtain ⟨c1, c⟩ := Bool.and_eq_true_iff.mp c
  obtain ⟨c2, c⟩ := Bool.and_eq_true_iff.mp c
  obtain ⟨c3, c⟩ := Bool.and_eq_true_iff.mp c
  obtain ⟨c4, c⟩ := Bool.and_eq_true_iff.mp c
  obtain ⟨c5, c⟩ := Bool.and_eq_true_iff.mp c
  obtain ⟨c6, c7⟩ := Bool.and_eq_true_iff.mp c
  exact ⟨He.eqO_ok c1, He.eqO_ok c2, of_decide_eq_true c3, c4, He.eqO_ok c5, He.eqO_ok hn, of_decide_eq_true c6, of_decide_eq_true c7⟩
theorem kit_ok {x y : Str} {b : Bool} (c : (Fb.kit x y b).ok K = true) : PySem.W.kitOne K (.ref (He.ga K x)) (.ref (He.ga K y)) = some b := of_decide_eq_true c
end
/-! ### the head: facts of two sorts -/
abbrev AlM : Type := He.AlD × Bool
def obsM (n : Nat) (fa : List He.Fa) (fn : List He.DefD) (fb : List Fb) (g : Addr → Option Obj) : AlM := (He.obsDG n fa fn g, fb.all fun f => f.ok (He.frG g (He.asD g n)))
def hookM (n : Nat) (fa : List He.Fa) (fn : List He.DefD) (fb : List Fb) : PySem.W.Hook where
  α := AlM
  obs := fun s => obsM n fa fn fb s.heap.get?
  val := fun _ => (He.valD fn, true)
  says := fun _ h => ∃ K : PySem.W.Frag, K.In h ∧ He.SaysD fa fn K ∧ (fb.all fun f => f.ok K) = true
  of := fun _ s e => ⟨_, He.frG_in, congrArg (fun z : AlM => z.1) e, congrArg (fun z : AlM => z.2) e⟩
  keeps := fun _ _ _ ⟨K, hK, c⟩ k => ⟨K, PySem.W.Frag.In.keeps hK k, c⟩
theorem obsM_eq {n : Nat} {fa : List He.Fa} {fn : List He.DefD} {fb : List Fb} {g : Addr → Option Obj} {s : Shared} (h : ∀ a, g a = s.heap.get? a) : obsM n fa fn fb g = (hookM n fa fn fb).obs s := by
  have e : g = s.heap.get? := funext h
  rw [e] <;> rfl
theorem fb_at {K : PySem.W.Frag} {fb : List Fb} (c : (fb.all fun f => f.ok K) = true) (i : Nat) {f : Fb} (h : fb[i]? = some f := by rfl) : f.ok K = true := List.all_eq_true.mp c f (List.mem_of_getElem? h)
/-! ### the end -/
/-- what nothing of an error lets out -/
def CXe : CXT := fun _ _ _ E _ _ => ∃ (cls : Value) (d : Option Addr) (H' : Hp), E cls d H'
theorem FnOk.toE {P : Program} {w : World} {K : PySem.W.Frag} {mg : Str → Option Value} {base : Heap} {k : Nat} {f : Addr} {fd : FuncData} {ps : List Str} {sp : Sp} (F : FnOk P w K mg base (L2.CX P w) k f fd ps sp) : FnOk P w K mg base CXe k f fd ps sp := by
  refine ⟨F.len, fun A outer s H args us vs Q E hr he hb hv hs => codeAny_mono (F.run A outer s H args us vs Q E hr he hb hv hs) fun r s' q => ?_⟩
  cases r with
  | ok fl => cases fl <;> exact q
  | error e =>
    obtain ⟨a, B, H', cls, d, _, _, _, _, _, _, _, q⟩ := q
    exact ⟨cls, d, H', q⟩
end NL
end L2
/-! NL12: the end of a law. -/
namespace L2
namespace NL
open PySem PySem.Spec PyProof.Rows
theorem fall_nil {p : Str → Prop} : ∀ t ∈ ([] : List Str), p t := fun _ h => by cases h
theorem fall_cons {p : Str → Prop} {a : Str} {l : List Str} (h : p a) (r : ∀ t ∈ l, p t) : ∀ t ∈ a :: l, p t := fun t q => by
  rcases List.mem_cons.mp q with e | e
  · subst e; exact h
  · exact r t e
theorem law_end {K : PySem.W.Frag} {mg : Str → Option Value} {g : NExp} {m : Nat} (h : ∀ ns : List Int, ns.length ≤ m → ∃ n' : NSt, g [some (.scr (ns.map .int))] = .ok (.bool true) n') :
    ∀ (H : Hp) (a : Addr) (ns : List Int), ns.length ≤ m → Only H → SqL K H a (ns.map V.int) → NProm K mg 1 g [.ref a] H (fun v _ => v = .bl true) fun _ _ _ => False := by
  intro H a ns hl hO hS
  obtain ⟨n', e⟩ := h ns hl
  refine ⟨[some (.scr (ns.map .int))], fun _ => False, rfl, fun i xs q => ?_, fun o q => ?_, ⟨rfl, fun i sl q => ?_, fun i j si sj b q1 q2 h1 h2 _ _ => ?_, fun _ z => z.elim⟩, ?_⟩
  · cases i with
    | zero => cases q
    | succ i => cases q
  · rcases List.mem_cons.mp q with q | q
    · rw [q]; simp
    · cases q
  · cases i with
    | zero =>
      have q : some (some (Sl.scr (ns.map PyData.int))) = some (some sl) := q
      cases q
      refine ⟨.ref a, rfl, a, ns, rfl, rfl, ?_⟩
      rcases hS with (hS | ⟨o, hS⟩) | ⟨o, its, n, q1, q2, q3, q4, q5, q6⟩
      · rcases hO a with z | ⟨o, xs, z⟩
        · rw [z] at hS; cases hS
        · rw [z] at hS; cases hS
      · exact .inl ⟨o, hS⟩
      · exact .inr fun H' => .inr ⟨o, its, n, q1, q2, q3, q4, q5, q6⟩
    | succ i => cases q
  · cases i with
    | zero =>
      have q1 : some (some (Sl.scr (ns.map PyData.int))) = some (some si) := q1
      cases q1
      cases h1
    | succ i => cases q1
  · rw [e]
    intro b H' F' _ _ r
    exact Rep.bool (K := K) (H := H') (F := F') r
end NL
end L2
/-! NL13: comprehensions of two clauses. -/
namespace L2
namespace NL
open PySem PySem.Spec PyProof.Rows
/-- frozen things are kept -/
def StepF (c c' : Cf) : Prop := ∀ a, c.F a → c'.F a ∧ c'.H a = c.H a
theorem StepF.of {K : PySem.W.Frag} {c c' : Cf} (st : Step c c') (S : Sim K c) : StepF c c' := st.frz S
theorem StepF.trans {a b c : Cf} (h : StepF a b) (g : StepF b c) : StepF a c := fun x f => ⟨(g x (h x f).1).1, (g x (h x f).1).2.trans (h x f).2⟩
def GivesF (K : PySem.W.Frag) (J : It) (ds : List PyData) (c1 : Cf) : Prop := ∀ c2 : Cf, StepF c1 c2 → Sim K c2 → ∀ i, i ≤ ds.length →
  (∀ d, ds[i]? = some d → J.go i c2.H ∧ ∀ x H', J.yld i c2.H x H' → ∃ F', Step c2 ⟨c2.n, c2.s, H', F'⟩ ∧ Sim K ⟨c2.n, c2.s, H', F'⟩ ∧ Rep K H' F' d x) ∧ (i = ds.length → J.stop i c2.H)
theorem givesF_list {K : PySem.W.Frag} {c1 : Cf} {a : Addr} {ds : List PyData} {vs : List V} (f : c1.F a) (h : c1.H a = some (.lst vs)) (r : Reps K c1.H c1.F ds vs) : GivesF K (Itl K a) ds c1 := fun c2 st S2 i hi => by
  have h2 : SqL K c2.H a vs := SqL.of ((st a f).2.trans h)
  have r2 : Reps K c2.H c2.F ds vs := Reps.keep st _ _ r
  refine ⟨fun d ed => ?_, fun e => ⟨vs, h2, by rw [r.length]; omega⟩⟩
  obtain ⟨v, ev, rv⟩ := r2.get ed
  refine ⟨⟨vs, v, h2, ev⟩, fun x H' ⟨e1, e2⟩ => ?_⟩
  subst e1
  have e3 := e2 vs h2
  rw [ev] at e3
  cases e3
  exact ⟨c2.F, Step.refl _, S2, rv⟩
theorem givesF_tup {K : PySem.W.Frag} {c1 : Cf} {a : Addr} {ds : List PyData} {vs : List V} (f : (c1.F a ∧ c1.H a = some (.tup vs)) ∨ ∀ H', SqT K H' a vs) (r : Reps K c1.H c1.F ds vs) : GivesF K (Itt K a) ds c1 := fun c2 st S2 i hi => by
  have h2 : SqT K c2.H a vs := by
    rcases f with ⟨f, h⟩ | f
    · exact SqT.of ((st a f).2.trans h)
    · exact f _
  have r2 : Reps K c2.H c2.F ds vs := Reps.keep st _ _ r
  refine ⟨fun d ed => ?_, fun e => ⟨vs, h2, by rw [r.length]; omega⟩⟩
  obtain ⟨v, ev, rv⟩ := r2.get ed
  refine ⟨⟨vs, v, h2, ev⟩, fun x H' ⟨e1, e2⟩ => ?_⟩
  subst e1
  have e3 := e2 vs h2
  rw [ev] at e3
  cases e3
  exact ⟨c2.F, Step.refl _, S2, rv⟩
theorem givesF_str {K : PySem.W.Frag} {c1 : Cf} {z : Str} : GivesF K (Its z) (z.cps.toList.map fun c => PyData.str ⟨#[c]⟩) c1 := fun c2 st S2 i hi => gives_str (c1 := c2) c2 (Step.refl _) S2 i hi
theorem givesF_rng {K : PySem.W.Frag} {c1 : Cf} {lo hi : Int} : GivesF K (Itr lo (hi - lo).toNat) (rgD lo hi) c1 := fun c2 st S2 i hi' => gives_rng (c1 := c2) c2 (Step.refl _) S2 i hi'
structure NI2 (X : Cx) (W : WX) (tg iter : Expr) (f : NSt → R (List PyData)) : Prop where
  ex : ∃ wi, PI X tg iter wi ∧ ∀ (c : Cf) (Q : It → Hp → Prop), Sim X.K c → Pst X.K X.mg W (fun _ c1 ds J => GivesF X.K J ds c1) c Q (f c.n) → wi c.s c.H Q
theorem mono_I2 {K : PySem.W.Frag} : Mono (fun _ c1 ds J => GivesF K J ds c1) := fun _ _ _ _ _ _ h => h
def cI (K : PySem.W.Frag) (mg : Str → Option Value) (W : WX) (f : NSt → R (List PyData)) : TI := fun σ H Q => ∃ c : Cf, c.s = σ ∧ c.H = H ∧ Sim K c ∧ Pst K mg W (fun _ c1 ds J => GivesF K J ds c1) c Q (f c.n)
theorem NI2.canon {X : Cx} {W : WX} {tg e : Expr} {f : NSt → R (List PyData)} (h : NI2 X W tg e f) : PI X tg e (cI X.K X.mg W f) := by
  obtain ⟨t, p, s⟩ := h.ex
  exact ⟨fun pins s0 σ H Q I ⟨c, e1, e2, S, q⟩ => by subst e1 e2; exact p.run pins s0 c.s c.H Q I (s c Q S q)⟩
section
variable {X : Cx} {W : WX} {tg : Expr}
theorem ni2_v {e : Expr} {f : NExp} (h : NE X W e f) : NI2 X W tg e (iV f) := by
  obtain ⟨t, p, s⟩ := h.ex
  refine ⟨iAnyN X.K t, pi_anyN p, fun c Q S q => ?_⟩
  refine s c _ S (Pst.seq (rel := relE X.K) (rel' := fun _ c1 ds J => GivesF X.K J ds c1) mono_I2 q fun d n' v H' F' _ st S' r q' => ?_)
  cases d with
  | list xs =>
    obtain ⟨a, vs, rfl, f, h, rs⟩ := Rep.list (K := X.K) (H := H') (F := F') r
    exact .inl ⟨a, rfl, ⟨vs, SqL.of h⟩, q' (Itl X.K a) H' F' (Step.refl _) S' (givesF_list f h rs)⟩
  | tuple xs =>
    have r' : Rep X.K H' F' (.tuple xs) v := r
    unfold Rep at r'
    obtain ⟨a, vs, rfl, f, rs⟩ := r'
    refine .inr (.inl ⟨a, rfl, ⟨vs, ?_⟩, q' (Itt X.K a) H' F' (Step.refl _) S' (givesF_tup f rs)⟩)
    rcases f with ⟨f, h⟩ | f
    · exact SqT.of h
    · exact f _
  | str z => exact .inr (.inr ⟨z, Rep.str (K := X.K) (H := H') (F := F') r, q' (Its z) H' F' (Step.refl _) S' givesF_str⟩)
  | _ => exact q'.elim
theorem ni2_rg1 {a : Expr} {fs : NSt → R (List AV)} {p pos : Pos} (hm : X.mg "range" = none) (ha : NA X W [a] fs) (hg : Gl X "range" := by rfl) (hs : starEach [a] X.env = [(false, eval a X.env)] := by rfl) : NI2 X W tg (.Call (.Name "range" p) [a] [] pos) (iRg1 fs) := by
  obtain ⟨t, pa, s⟩ := ha.ex
  refine ⟨iRng1 t, pi_range1 hg hm pa hs, fun c Q S q => ?_⟩
  refine s c _ S (Pst.seq (rel := relA X.K) (rel' := fun _ c1 ds J => GivesF X.K J ds c1) mono_I2 q fun as n' vs H' F' _ st S' r q' => ?_)
  split at q'
  · rename_i j _
    split at q'
    · rename_i hz
      cases r with
      | cons r1 rr =>
        cases rr
        obtain ⟨h1, h2⟩ := rgOk_ok hz
        have e1 : _ = V.int j := Rep.int (K := X.K) (H := H') (F := F') r1
        subst e1
        have gg : GivesF X.K (Itr 0 j.toNat) (rgD 0 j) ⟨n', c.s, H', F'⟩ := by
          have := givesF_rng (K := X.K) (c1 := ⟨n', c.s, H', F'⟩) (lo := 0) (hi := j)
          rw [Int.sub_zero] at this
          exact this
        exact ⟨j, rfl, h1, h2, q' (Itr 0 j.toNat) H' F' (Step.refl _) S' gg⟩
    · exact q'.elim
  · exact q'.elim
theorem ni2_rg2 {a b : Expr} {fs : NSt → R (List AV)} {p pos : Pos} (hm : X.mg "range" = none) (ha : NA X W [a, b] fs) (hg : Gl X "range" := by rfl) (hs : starEach [a, b] X.env = [(false, eval a X.env), (false, eval b X.env)] := by rfl) (hs2 : starEach [b] X.env = [(false, eval b X.env)] := by rfl) :
    NI2 X W tg (.Call (.Name "range" p) [a, b] [] pos) (iRg2 fs) := by
  obtain ⟨t, pa, s⟩ := ha.ex
  refine ⟨iRng2 t, pi_range2 hg hm pa hs hs2, fun c Q S q => ?_⟩
  refine s c _ S (Pst.seq (rel := relA X.K) (rel' := fun _ c1 ds J => GivesF X.K J ds c1) mono_I2 q fun as n' vs H' F' _ st S' r q' => ?_)
  split at q'
  · rename_i i j _
    split at q'
    · rename_i hz
      cases r with
      | cons r1 rr =>
        cases rr with
        | cons r2 rr =>
          cases rr
          obtain ⟨h1, h2⟩ := rgOk_ok hz.1
          obtain ⟨h3, h4⟩ := rgOk_ok hz.2
          have e1 : _ = V.int i := Rep.int (K := X.K) (H := H') (F := F') r1
          have e2 : _ = V.int j := Rep.int (K := X.K) (H := H') (F := F') r2
          subst e1 e2
          exact ⟨i, j, rfl, ⟨h1, h2, h3, h4⟩, q' (Itr i (j - i).toNat) H' F' (Step.refl _) S' givesF_rng⟩
    · exact q'.elim
  · exact q'.elim
end
/-! ### the walk -/
def nLc2L (g : PyData → NSt → Option NSt) (t : NSt → R Bool) (fi1 : NSt → R (List PyData)) (g1 : PyData → NSt → Option NSt) (t1 : NSt → R Bool) (f : NExp) (vs vs1 : List Nat) : List PyData → List PyData → NSt → R (List PyData)
  | [], acc, n => .ok acc n
  | d :: ds, acc, n => match g d n with
    | none => .bad
    | some n1 => (t n1).bind fun b n2 => if b = true then (fi1 n2).bind fun ds1 n3 => if noHeld n3 vs1 = true then (nLcL g1 t1 f vs1 ds1 acc (wipeN n3 vs1)).bind fun acc' n4 => nLc2L g t fi1 g1 t1 f vs vs1 ds acc' (wipeN n4 vs) else .bad
      else nLc2L g t fi1 g1 t1 f vs vs1 ds acc (wipeN n2 vs)
def nLc2 (fi : NSt → R (List PyData)) (g : PyData → NSt → Option NSt) (t : NSt → R Bool) (fi1 : NSt → R (List PyData)) (g1 : PyData → NSt → Option NSt) (t1 : NSt → R Bool) (f : NExp) (vs vs1 : List Nat) : NSt → R (List PyData) := fun n => (fi n).bind fun ds n1 => if noHeld n1 vs = true ∧ ∀ i ∈ vs1, i ∈ vs then (match nLc2L g t fi1 g1 t1 f vs vs1 ds [] (wipeN n1 vs) with
  | .ok acc n2 => .ok acc (restoreN n2 n1 vs)
  | _ => .bad) else .bad
theorem wipe_wipe {σ : L2.St} {vs vs1 : List Nat} (h : ∀ i ∈ vs1, i ∈ vs) : wipe (wipe σ vs1) vs = wipe σ vs :=
  wipe_eq (wipe_length _ _) fun j hj => by rw [wipe_out' (fun z => hj (h j z)), wipe_out' hj]
section
variable {K : PySem.W.Frag}
/-- D is written, slots are wiped, at the slots' own -/
theorem Sim.wipeH {c1 c4 : Cf} {vs : List Nat} {D : Addr} {acc acc' : List PyData} {us : List V} (nv : ∀ v ∈ vs, ∀ sl : Sl, c1.n[v]? = some (some sl) → sl.held = false) (st : Step c1 c4) (S : Sim K c4) (hD : c1.H D = none) (nfD : ¬ c4.F D) (nhD : ¬ c4.Hd D) (hDl : ∀ o u, c4.H D ≠ some (.frz o u))
    (r : Reps K c4.H c4.F acc' us) :
    let c5 : Cf := ⟨wipeN c4.n vs, wipe c4.s vs, upd c4.H D (.lst us), c4.F⟩; Step c1 c5 ∧ Sim K c5 ∧ Apart K c5 D acc' := by
  intro c5
  have fr : ∀ a, c4.F a → c4.F a ∧ upd c4.H D (.lst us) a = c4.H a := fun a f => ⟨f, upd_ne fun z => by subst z; exact nfD f⟩
  have old : ∀ (j : Nat) (s : Sl), (wipeN c4.n vs)[j]? = some (some s) → j ∉ vs ∧ c4.n[j]? = some (some s) := fun j s e => by
    by_cases hj : j ∈ vs
    · exact absurd e (wipeN_in hj)
    · rw [wipeN_out hj] at e; exact ⟨hj, e⟩
  have oldS : ∀ {j : Nat}, j ∉ vs → (wipe c4.s vs)[j]? = c4.s[j]? := fun {j} hj => by rw [wipe_out' hj]
  have hd5 : ∀ a, c5.Hd a → c4.Hd a := fun a ⟨j, s, e, hh, es⟩ => by
    obtain ⟨hj, e1⟩ := old j s e
    exact ⟨j, s, e1, hh, by rw [← oldS hj]; exact es⟩
  refine ⟨⟨fun a n nh => ?_, fun a n => ?_, st.fz, st.fn, fun a h => st.hd a (hd5 a h), fun a ⟨j, xs, e, es⟩ => ?_, fun i xs e => ?_, by show (wipeN c4.n vs).length = _; rw [wipeN_len]; exact st.ln⟩, ⟨?_, fun j s e => ?_, fun i j si sj b e1 e2 h1 h2 q1 q2 => ?_, fun a f => ?_⟩, ⟨⟨us, upd_same, Reps.keep fr _ _ r⟩, nfD, fun h => nhD (hd5 D h)⟩⟩
  · have : a ≠ D := fun z => by subst z; exact n hD
    show upd c4.H D (.lst us) a = _
    rw [upd_ne this]; exact st.keep a n nh
  · have : a ≠ D := fun z => by subst z; exact n hD
    show upd c4.H D (.lst us) a ≠ none
    rw [upd_ne this]; exact st.live a n
  · obtain ⟨hj, e1⟩ := old j _ e
    exact st.ow a ⟨j, xs, e1, by rw [← oldS hj]; exact es⟩
  · obtain ⟨ys, e1, e2⟩ := st.mu i xs e
    have hi : i ∉ vs := fun z => by have := nv i z _ e; cases this
    exact ⟨ys, by show (wipeN c4.n vs)[i]? = _; rw [wipeN_out hi]; exact e1, by show (wipe c4.s vs)[i]? = _; rw [wipe_out' hi]; exact e2⟩
  · show (wipeN c4.n vs).length = (wipe c4.s vs).length
    rw [wipeN_len, wipe_length]; exact S.len
  · obtain ⟨hj, e1⟩ := old j s e
    obtain ⟨v, e2, q⟩ := S.slot j s e1
    refine ⟨v, by show (wipe c4.s vs)[j]? = _; rw [oldS hj]; exact e2, ?_⟩
    have away : ∀ b, s.held = true → v = .ref b → b ≠ D := fun b hh z y => by
      subst z; subst y
      exact nhD ⟨j, s, e1, hh, e2⟩
    cases s with
    | val d => exact Rep.keep fr d v q
    | own xs =>
      obtain ⟨b, ws, rfl, nb, hb, rb⟩ := q
      exact ⟨b, ws, rfl, nb, (upd_ne (away b rfl rfl)).trans hb, Reps.keep fr _ _ rb⟩
    | lent xs =>
      obtain ⟨b, ws, rfl, nb, hb, rb⟩ := q
      exact ⟨b, ws, rfl, nb, (upd_ne (away b rfl rfl)).trans hb, Reps.keep fr _ _ rb⟩
    | scr xs =>
      obtain ⟨b, ns, rfl, e3, z⟩ := q
      refine ⟨b, ns, rfl, e3, ?_⟩
      rcases z with ⟨o, z⟩ | z
      · refine .inl ⟨o, (upd_ne fun y => ?_).trans z⟩
        subst y
        exact hDl _ _ z
      · exact .inr z
  · obtain ⟨hi, e1⟩ := old i si e1
    obtain ⟨hj, e2⟩ := old j sj e2
    exact S.sep i j si sj b e1 e2 h1 h2 (by rw [← oldS hi]; exact q1) (by rw [← oldS hj]; exact q2)
  · show upd c4.H D (.lst us) a ≠ none
    rw [(fr a f).2]; exact S.fz a f
theorem upd_eqF {H : Hp} {D : Addr} {ws : List V} (hw : H D = some (.lst ws)) : upd H D (.lst ws) = H := by
  funext b
  by_cases hb : b = D
  · subst hb; rw [upd_same]; exact hw.symm
  · rw [upd_ne hb]
end
section
variable {X : Cx} {W : WX}
theorem lc2_st {own : List (Str × Nat)} {vs0 vs1 : List Nat} (h0 : ∀ i ∈ vs0, i ∈ own.map (·.2)) {wi : TI} {fi fi1 : NSt → R (List PyData)} {gg gg1 : PyData → NSt → Option NSt} {t t1 : NSt → R Bool} {f : NExp}
    (si : ∀ (c : Cf) (Q : It → Hp → Prop), Sim X.K c → Pst X.K X.mg W (fun _ c1 ds J => Gives X.K J ds c1) c Q (fi c.n) → wi c.s c.H Q)
    {c : Cf} {Q : VK} (S : Sim X.K c) (h : Pst X.K X.mg W (relO X.K) c Q (nLc2 fi gg t fi1 gg1 t1 f (own.map (·.2)) vs1 c.n)) :
    tLc2 wi (cG X.K vs0 gg) (cT X.K X.mg W0 t) (cI X.K X.mg W0 fi1) (cG X.K vs1 gg1) (cT X.K X.mg W0 t1) (cE X.K X.mg W0 f) (own.map (·.2)) vs1 c.s c.H Q := by
  generalize hvs : own.map (·.2) = vs at h h0 ⊢
  refine si c _ S (Pst.seq (rel := fun _ c1 ds J => Gives X.K J ds c1) (rel' := relO X.K) mono_O h fun ds n1 J H1 F1 _ st1 S1 gv h1 => ?_)
  intro D hD
  split at h1
  · rename_i hnh
    obtain ⟨hnh, hin⟩ := hnh
    have nv : ∀ v ∈ vs, ∀ sl : Sl, n1[v]? = some (some sl) → sl.held = false := fun v hv sl e => noHeld_ok hnh hv e
    have nv1 : ∀ v ∈ vs1, ∀ sl : Sl, n1[v]? = some (some sl) → sl.held = false := fun v hv sl e => noHeld_ok hnh (hin v hv) e
    cases el : nLc2L gg t fi1 gg1 t1 f vs vs1 ds [] (wipeN n1 vs) with
    | ok accF nF =>
      rw [el] at h1
      let c1 : Cf := ⟨n1, c.s, H1, F1⟩
      have S1' : Sim X.K c1 := S1
      have start := Sim.wipeD (K := X.K) (c1 := c1) (c4 := c1) (vs := vs) (D := D) (acc := []) (acc' := []) (us := []) nv (Step.refl _) S1' hD (fun f => S1'.fz D f hD) (fun hd => S1'.hdH hd hD) (fun o u z => by have z' : H1 D = _ := z; rw [hD] at z'; cases z') rfl Reps.nil
      refine ⟨fun i m H => ∃ (cc : Cf) (acc : List PyData), cc.s = wipe c.s vs ∧ cc.H = H ∧ i ≤ ds.length ∧ m = ds.length - i ∧ Step c1 cc ∧ Sim X.K cc ∧ Apart X.K cc D acc ∧ nLc2L gg t fi1 gg1 t1 f vs vs1 (ds.drop i) acc cc.n = .ok accF nF, ⟨ds.length, _, [], rfl, rfl, Nat.zero_le _, rfl, start.1, start.2.1, start.2.2, el⟩, ?_⟩
      rintro i m H ⟨cc, acc, hcs, rfl, hi, rfl, stc, Sc, ap, er⟩
      obtain ⟨gi, gs⟩ := gv cc stc Sc i hi
      by_cases hlt : i < ds.length
      · have ed : ds[i]? = some ds[i] := List.getElem?_eq_getElem hlt
        obtain ⟨go, gy⟩ := gi _ ed
        have edr : ds.drop i = ds[i] :: ds.drop (i + 1) := List.drop_eq_getElem_cons hlt
        rw [edr] at er
        unfold nLc2L at er
        refine .inr ⟨go, fun H' => ∃ (cc' : Cf) (acc' : List PyData), cc'.s = wipe c.s vs ∧ cc'.H = H' ∧ Step c1 cc' ∧ Sim X.K cc' ∧ Apart X.K cc' D acc' ∧ nLc2L gg t fi1 gg1 t1 f vs vs1 (ds.drop (i + 1)) acc' cc'.n = .ok accF nF,
          fun H' ⟨cc', acc', z1, z2, z3, z4, z5, z6⟩ => ⟨ds.length - (i + 1), by omega, cc', acc', z1, z2, hlt, rfl, z3, z4, z5, z6⟩, fun x H' y => ?_⟩
        obtain ⟨F', st3, S3, r3⟩ := gy x H' y
        cases eg : gg ds[i] cc.n with
        | none => rw [eg] at er; cases er
        | some n3 =>
          rw [eg] at er
          dsimp only at er
          refine ⟨⟨cc.n, cc.s, H', F'⟩, ds[i], n3, hcs, rfl, S3, r3, eg, fun σ4 st4 S4 kk ll => ?_⟩
          have st34 : Step cc ⟨n3, σ4, H', F'⟩ := st3.trans st4
          have w4 : wipe σ4 vs = wipe c.s vs := wipe_eq (by have l1 : σ4.length = cc.s.length := ll; rw [l1, hcs, wipe_length]) fun j hj => by
            have := (kk j fun z => hj (h0 j z)).1
            have this' : σ4[j]? = cc.s[j]? := this
            rw [this', hcs]
          refine ⟨w4, ⟨n3, σ4, H', F'⟩, rfl, rfl, S4, ?_⟩
          cases et : t n3 with
          | bad => rw [et] at er; cases er
          | err x n5 => rw [et] at er; cases er
          | ok b n5 =>
            rw [et] at er
            intro b' H5 F5 st5 S5 rb
            cases rb
            have st35 : Step cc ⟨n5, σ4, H5, F5⟩ := st34.trans st5
            have er' : (if b = true then (fi1 n5).bind fun ds1 n3 => if noHeld n3 vs1 = true then (nLcL gg1 t1 f vs1 ds1 acc (wipeN n3 vs1)).bind fun acc' n4 => nLc2L gg t fi1 gg1 t1 f vs vs1 (ds.drop (i + 1)) acc' (wipeN n4 vs) else .bad
              else nLc2L gg t fi1 gg1 t1 f vs vs1 (ds.drop (i + 1)) acc (wipeN n5 vs)) = .ok accF nF := er
            cases b with
            | false =>
              refine iteF ?_
              have a5 := ap.step Sc st35
              obtain ⟨ws, hw, rw5⟩ := a5.ex
              have fin := Sim.wipeD (K := X.K) (c1 := c1) (c4 := ⟨n5, σ4, H5, F5⟩) (vs := vs) (D := D) (acc := acc) (acc' := acc) (us := ws) nv (stc.trans st35) S5 hD a5.nf a5.nh (fun o u z => by have z' := hw.symm.trans z; cases z') w4 rw5
              exact ⟨_, acc, rfl, upd_eqF hw, fin.1, fin.2.1, fin.2.2, er'⟩
            | true =>
              refine iteT ?_
              simp only [if_true] at er'
              refine ⟨⟨n5, σ4, H5, F5⟩, rfl, rfl, S5, ?_⟩
              cases ef : fi1 n5 with
              | bad => rw [ef] at er'; cases er'
              | err x n6 => rw [ef] at er'; cases er'
              | ok ds1 n6 =>
                rw [ef] at er'
                intro J1 H6 F6 st6 S6 gv1
                have er2 : (if noHeld n6 vs1 = true then (nLcL gg1 t1 f vs1 ds1 acc (wipeN n6 vs1)).bind fun acc' n4 => nLc2L gg t fi1 gg1 t1 f vs vs1 (ds.drop (i + 1)) acc' (wipeN n4 vs) else R.bad) = .ok accF nF := er'
                split at er2
                · rename_i hnh1
                  cases el1 : nLcL gg1 t1 f vs1 ds1 acc (wipeN n6 vs1) with
                  | bad => rw [el1] at er2; cases er2
                  | err x n7 => rw [el1] at er2; cases er2
                  | ok acc7 n7 =>
                    rw [el1] at er2
                    have er3 : nLc2L gg t fi1 gg1 t1 f vs vs1 (ds.drop (i + 1)) acc7 (wipeN n7 vs) = .ok accF nF := er2
                    have st36 : Step cc ⟨n6, σ4, H6, F6⟩ := st35.trans st6
                    have a6 := ap.step Sc st36
                    obtain ⟨ws, hw, rw6⟩ := a6.ex
                    have sm : Sim X.K ⟨n6, σ4, H6, F6⟩ := S6
                    have start1 := Sim.wipeH (K := X.K) (c1 := c1) (c4 := ⟨n6, σ4, H6, F6⟩) (vs := vs1) (D := D) (acc := acc) (acc' := acc) (us := ws) nv1 (stc.trans st36) sm hD a6.nf a6.nh (fun o u z => by have z' := hw.symm.trans z; cases z') rw6
                    refine ⟨fun j k H => ∃ (ci : Cf) (acci : List PyData), ci.s = wipe σ4 vs1 ∧ ci.H = H ∧ j ≤ ds1.length ∧ k = ds1.length - j ∧ Step c1 ci ∧ StepF ⟨n6, σ4, H6, F6⟩ ci ∧ Sim X.K ci ∧ Apart X.K ci D acci ∧ nLcL gg1 t1 f vs1 (ds1.drop j) acci ci.n = .ok acc7 n7,
                      ⟨ds1.length, _, acc, rfl, upd_eqF hw, Nat.zero_le _, rfl, start1.1, (fun a f => ⟨f, upd_ne fun z => by subst z; exact a6.nf f⟩), start1.2.1, start1.2.2, el1⟩, ?_⟩
                    rintro j k H ⟨ci, acci, his, rfl, hj, rfl, sti, sfi, Si, api, eri⟩
                    obtain ⟨gi1, gs1⟩ := gv1 ci sfi Si j hj
                    by_cases hlt1 : j < ds1.length
                    · have ed1 : ds1[j]? = some ds1[j] := List.getElem?_eq_getElem hlt1
                      obtain ⟨go1, gy1⟩ := gi1 _ ed1
                      have edr1 : ds1.drop j = ds1[j] :: ds1.drop (j + 1) := List.drop_eq_getElem_cons hlt1
                      rw [edr1] at eri
                      unfold nLcL at eri
                      refine .inr ⟨go1, fun H' => ∃ (ci' : Cf) (acc' : List PyData), ci'.s = wipe σ4 vs1 ∧ ci'.H = H' ∧ Step c1 ci' ∧ StepF ⟨n6, σ4, H6, F6⟩ ci' ∧ Sim X.K ci' ∧ Apart X.K ci' D acc' ∧ nLcL gg1 t1 f vs1 (ds1.drop (j + 1)) acc' ci'.n = .ok acc7 n7,
                        fun H' ⟨cc', acc', z1, z2, z3, z4, z5, z6, z7⟩ => ⟨ds1.length - (j + 1), by omega, cc', acc', z1, z2, hlt1, rfl, z3, z4, z5, z6, z7⟩, fun x1 H8 y1 => ?_⟩
                      obtain ⟨F8, st8, S8, r8⟩ := gy1 x1 H8 y1
                      cases eg1 : gg1 ds1[j] ci.n with
                      | none => rw [eg1] at eri; cases eri
                      | some n9 =>
                        rw [eg1] at eri
                        dsimp only at eri
                        refine ⟨⟨ci.n, ci.s, H8, F8⟩, ds1[j], n9, his, rfl, S8, r8, eg1, fun σ9 st9 S9 kk1 ll1 => ?_⟩
                        have st89 : Step ci ⟨n9, σ9, H8, F8⟩ := st8.trans st9
                        have w9 : wipe σ9 vs1 = wipe σ4 vs1 := wipe_eq (by have l1 : σ9.length = ci.s.length := ll1; rw [l1, his, wipe_length]) fun j hj => by
                          have := (kk1 j hj).1
                          have this' : σ9[j]? = ci.s[j]? := this
                          rw [this', his]
                        refine ⟨w9, ⟨n9, σ9, H8, F8⟩, rfl, rfl, S9, ?_⟩
                        cases et1 : t1 n9 with
                        | bad => rw [et1] at eri; cases eri
                        | err x n5 => rw [et1] at eri; cases eri
                        | ok b1 n10 =>
                          rw [et1] at eri
                          intro b1' H10 F10 st10 S10 rb1
                          cases rb1
                          have st8a : Step ci ⟨n10, σ9, H10, F10⟩ := st89.trans st10
                          have eri' : (if b1 = true then (f n10).bind fun y n3 => if acci.length < sizeLine then nLcL gg1 t1 f vs1 (ds1.drop (j + 1)) (acci ++ [y]) (wipeN n3 vs1) else .bad
                            else nLcL gg1 t1 f vs1 (ds1.drop (j + 1)) acci (wipeN n10 vs1)) = .ok acc7 n7 := eri
                          cases b1 with
                          | false =>
                            refine iteF ?_
                            have a5 := api.step Si st8a
                            obtain ⟨ws5, hw5, rw5⟩ := a5.ex
                            have sm5 : Sim X.K ⟨n10, σ9, H10, F10⟩ := S10
                            have fin := Sim.wipeH (K := X.K) (c1 := c1) (c4 := ⟨n10, σ9, H10, F10⟩) (vs := vs1) (D := D) (acc := acci) (acc' := acci) (us := ws5) nv1 (sti.trans st8a) sm5 hD a5.nf a5.nh (fun o u z => by have z' := hw5.symm.trans z; cases z') rw5
                            exact ⟨_, acci, w9, upd_eqF hw5, fin.1, sfi.trans ((StepF.of st8a Si).trans fun a f => ⟨f, upd_ne fun z => by subst z; exact a5.nf f⟩), fin.2.1, fin.2.2, eri'⟩
                          | true =>
                            refine iteT ?_
                            simp only [if_true] at eri'
                            refine ⟨⟨n10, σ9, H10, F10⟩, rfl, rfl, S10, ?_⟩
                            cases ef1 : f n10 with
                            | bad => rw [ef1] at eri'; cases eri'
                            | err x n6 => rw [ef1] at eri'; cases eri'
                            | ok y' n11 =>
                              rw [ef1] at eri'
                              intro v11 H11 F11 st11 S11 r11
                              have eri2 : (if acci.length < sizeLine then nLcL gg1 t1 f vs1 (ds1.drop (j + 1)) (acci ++ [y']) (wipeN n11 vs1) else R.bad) = .ok acc7 n7 := eri'
                              split at eri2
                              · rename_i hz
                                have st8b : Step ci ⟨n11, σ9, H11, F11⟩ := st8a.trans st11
                                have a6 := api.step Si st8b
                                obtain ⟨ws6, hw6, rw7⟩ := a6.ex
                                have sm6 : Sim X.K ⟨n11, σ9, H11, F11⟩ := S11
                                refine ⟨ws6, hw6, by rw [rw7.length]; exact hz, ?_⟩
                                have fin := Sim.wipeH (K := X.K) (c1 := c1) (c4 := ⟨n11, σ9, H11, F11⟩) (vs := vs1) (D := D) (acc := acci) (acc' := acci ++ [y']) (us := ws6 ++ [v11]) nv1 (sti.trans st8b) sm6 hD a6.nf a6.nh (fun o u z => by have z' := hw6.symm.trans z; cases z') (rw7.append (Reps.cons r11 Reps.nil))
                                exact ⟨_, acci ++ [y'], w9, rfl, fin.1, sfi.trans ((StepF.of st8b Si).trans fun a f => ⟨f, upd_ne fun z => by subst z; exact a6.nf f⟩), fin.2.1, fin.2.2, eri2⟩
                              · cases eri2
                    · have e : j = ds1.length := by omega
                      subst e
                      refine .inl ⟨gs1 rfl, ?_⟩
                      rw [List.drop_length] at eri
                      unfold nLcL at eri
                      cases eri
                      obtain ⟨ws5, hw5, rw5⟩ := api.ex
                      have wz : wipe ci.s vs = wipe c.s vs := by rw [his, wipe_wipe hin, w4]
                      have fin := Sim.wipeD (K := X.K) (c1 := c1) (c4 := ci) (vs := vs) (D := D) (acc := acc7) (acc' := acc7) (us := ws5) nv sti Si hD api.nf api.nh (fun o u z => by have z' := hw5.symm.trans z; cases z') wz rw5
                      exact ⟨_, acc7, rfl, upd_eqF hw5, fin.1, fin.2.1, fin.2.2, er3⟩
                · cases er2
      · have e : i = ds.length := by omega
        subst e
        refine .inl ⟨gs rfl, ?_⟩
        rw [List.drop_length] at er
        unfold nLc2L at er
        cases er
        have fin := Sim.restoreD (K := X.K) (c := ⟨n1, c.s, H1, F1⟩) (c1 := c1) (cc := cc) nv (Step.refl _) S1' stc Sc rfl hcs hD ap
        exact h1 (.ref D) cc.H cc.F fin.1 fin.2.1 fin.2.2
    | err x n => rw [el] at h1; exact h1.elim
    | bad => rw [el] at h1; exact h1.elim
  · exact h1.elim
theorem neo_lc2 {elt tg iter tg1 iter1 : Expr} {ifs ifs1 : List Expr} {scope : Scope} {own : List (Str × Nat)} {vs0 vs1 : List Nat} {pos : Pos} {fi fi1 : NSt → R (List PyData)} {gg gg1 : PyData → NSt → Option NSt} {t t1 : NSt → R Bool} {f : NExp} (hc : X.calm = true) (hN : X.N.Nodup) (hi : NI X W tg iter fi) (ok : BlkOk X.N X.env.scope scope own) (hv : ∀ i ∈ vs1, i ∈ own.map (·.2)) (h0 : ∀ i ∈ vs0, i ∈ own.map (·.2))
    (hg : ∀ s H C cl fp, NG (BX X s H scope C cl fp) tg vs0 gg) (ht : ∀ s H C cl fp, PTs (BX X s H scope C cl fp) ifs (cT X.K X.mg W0 t))
    (hi1 : ∀ s H C cl fp, NI2 (BX X s H scope C cl fp) W0 tg1 iter1 fi1) (hg1 : ∀ s H C cl fp, NG (BX X s H scope C cl fp) tg1 vs1 gg1) (ht1 : ∀ s H C cl fp, PTs (BX X s H scope C cl fp) ifs1 (cT X.K X.mg W0 t1))
    (he : ∀ s H C cl fp, NE (BX X s H scope C cl fp) W0 elt f)
    (hs : ∀ x, foldedSetIterable iter X.env x = pure x := by intro _; rfl) (hs1 : ∀ env x, foldedSetIterable iter1 env x = pure x := by intro _ _; rfl) : NEo X W (.ListComp elt [⟨tg, iter, ifs, 0⟩, ⟨tg1, iter1, ifs1, 0⟩] scope pos) (nLc2 fi gg t fi1 gg1 t1 f (own.map (·.2)) vs1) := by
  obtain ⟨wi, pi, si⟩ := hi.ex
  exact ⟨_, pe_lc2 hc hN pi ok hv (fun s H C cl fp => (hg s H C cl fp).canon) ht (fun s H C cl fp => (hi1 s H C cl fp).canon) (fun s H C cl fp => (hg1 s H C cl fp).canon) ht1 (fun s H C cl fp => (he s H C cl fp).canon) hs hs1, fun c Q S h => lc2_st h0 si S h⟩
end
end NL
end L2
/-! NL14: sorted(set(ints)), tuple(range(..)). -/
namespace L2
namespace NL
open PySem PySem.Spec PyProof.Rows
section
variable {P : Program} {w : World} {A : Around} {E : Value → Shared → Prop} {s : Shared}
/-- a set as it is born -/
abbrev bornSet (w : World) : Obj := { cls := .type "set", dict := none, data := .set #[] 0 (.fresh 0 0 (!w.params.followText "set-order")) }
set_option maxRecDepth 100000 in
set_option maxHeartbeats 3200000 in
/-- set(xs), xs a list of ints: what sorted asks of it is kept -/
theorem set_of_listI {l : Addr} {its : Array Value} (ns : List Int) {Q : Value → Shared → Prop} (free : A.handled = none) (isl : s.heap.IsList l its) (hints : IntsAre its.toList ns) (room : ns.length + 1 < scanBound)
    (done : ∀ (hp : Heap) (tk c : Nat), SetR w hp s.heap.objs.size (fun j => decide (j ∈ ns)) c → c ≤ ns.length → (∀ b o, s.heap.get? b = some o → hp.get? b = some o) → Q (.ref s.heap.objs.size) { s with heap := hp, toks := tk }) :
    wpAny (model P w) A (call (.type "set") [.ref l]) Q E s := by
  have sz : its.size = ns.length := by rw [← Array.length_toList]; exact IntsAre.length hints
  obtain ⟨_, _, mro_⟩ := F.called_set.mro
  have made_ := F.called_set.made
  have sub_ := F.called_set.sub
  have nt_ := F.called_set.notType
  have cc_ := F.called_set.canCreate
  have tc_ := F.typeCall_set_1 (.ref l)
  refine wpAny_call (codeAny_of_tree (wpAny_pure ⟨Code.quiet_builtin _ (by decide +kernel), codeAny_builtin F.entry_type_call ?_⟩))
  rw [Around.under_plain (weight_type_call_type "set" [.ref l] []) rfl]
  repeat (any_goals (first | assumption | wp_step))
  refine codeAny_mono (code_set_led1 (.ref l) (E := E) (Q₁ := fun ob sb => ob = .ref s.heap.objs.size ∧ sb = { s with heap := s.heap.push (bornSet w) }) ⟨rfl, rfl⟩) fun r sb hr => ?_
  match r, hr with
  | .error _, hr => exact hr
  | .ok (.ret ob), hr =>
    obtain ⟨rfl, rfl⟩ := hr
    have born : (s.heap.push (bornSet w)).get? s.heap.objs.size = some (bornSet w) := Heap.get?_push_size _ rfl
    have ty_ : Shared.TypeIs { s with heap := s.heap.push (bornSet w) } (.ref s.heap.objs.size) "set" := ⟨_, born, rfl⟩
    have lk_ := F.called_set.init.lookup
    have bd_ := F.called_set.init.bind (.ref s.heap.objs.size)
    repeat (any_goals (first | assumption | wp_step))
    refine codeAny_mono (codeAny_call_builtin (R := wants (fun r2 s2 => r2 = .none ∧ ∃ hp tk c, s2 = { s with heap := hp, toks := tk } ∧ SetR w hp s.heap.objs.size (fun j => decide (j ∈ ns)) c ∧ c ≤ ns.length ∧
        (∀ b o, s.heap.get? b = some o → hp.get? b = some o)) E) F.called_set.init.plain F.entry_set_init (check_set_init_1 ty_ ?_)) fun r2 s2 hr2 => ?_
    · obtain ⟨⟨cl, dc, dt, sl⟩, getl, clE, nl, dtE⟩ := isl
      simp only at clE dtE
      subst clE dtE
      have getl1 : (s.heap.push (bornSet w)).get? l = some { cls := .type "list", dict := dc, data := .seq its nl, slots := sl } := Heap.get?_push_of_some _ getl
      have q1_ := F.sub_list_set
      have q2_ := F.sub_list_frozenset
      have q3_ : (Value.type "list" == Value.type "dict") = false := by decide
      have isl1 : (s.heap.push (bornSet w)).IsList l its := ⟨_, getl1, rfl, nl, rfl⟩
      unfold Builtin.«set.__init__» noKeywords Builtin.Frozenset.updateFrom
      generalize eqPI : pyIter = PI
      wp_walk
      subst eqPI
      refine wpAny_pyIter_list isl1 (wpAny_bind (wpAny_runValue ?_))
      have lts : l < s.heap.objs.size := Heap.lt_size getl
      have free3 : A.in1.in1.in1.handled = none := by simp [free]
      have neI : l ≠ (s.heap.push (bornSet w)).objs.size := by rw [Heap.size_push]; exact Nat.ne_of_lt (Nat.lt_succ_of_lt lts)
      have away : s.heap.objs.size ∉ [(s.heap.push (bornSet w)).objs.size, l] := by
        rw [Heap.size_push]
        simp only [List.mem_cons, List.not_mem_nil, or_false, not_or]
        exact ⟨Nat.ne_of_lt (Nat.lt_succ_self _), Nat.ne_of_gt lts⟩
      have vals : ∀ (i : Nat) (v : Value), its[i]? = some v → ∃ k t, ns[i]? = some k ∧ v = .int k t := fun i v hv => by
        have hi : i < ns.length := by rw [← sz]; exact (Array.getElem?_eq_some_iff.mp hv).1
        obtain ⟨t, e⟩ := IntsAre.int_at hints i v (by rw [Array.getElem?_toList]; exact hv)
        exact ⟨ns[i], t, List.getElem?_eq_getElem hi, by rw [e, List.getD_eq_getElem?_getD, List.getElem?_eq_getElem hi]; rfl⟩
      refine set_update_ints ((Walks.list free3 _ l neI its).toS) s.heap.objs.size away ns sz room vals (its.size - 0) 0 _ (by omega) (Nat.zero_le _) ⟨⟨_, Heap.get?_push_size _ rfl, rfl, rfl⟩, (isl1.push _)⟩
        ⟨0, Nat.le_refl 0, setR_new_at (Heap.get?_push_of_some _ born)⟩ fun s3 c3 mv le3 R3 => ?_
      obtain ⟨hp, gn, dr, tk, os⟩ := s3
      cases (show gn = s.gens from mv.gens)
      cases (show dr = s.drawn from mv.drawn)
      cases (show os = s.os from mv.os)
      refine wpAny_pure (show wpAny _ _ (ret Value.none) _ _ _ from wpAny_pure ⟨rfl, hp, tk, c3, rfl, R3, by rw [← sz]; exact le3, fun b o e => ?_⟩)
      have lb : b < s.heap.objs.size := Heap.lt_size e
      refine mv.heap b o ?_ (Heap.get?_push_of_some _ (Heap.get?_push_of_some _ e))
      simp only [List.mem_cons, List.not_mem_nil, or_false, not_or]
      exact ⟨Nat.ne_of_lt lb, by rw [Heap.size_push]; exact Nat.ne_of_lt (Nat.lt_succ_of_lt lb)⟩
    · match r2, hr2 with
      | .error _, hr2 => exact hr2
      | .ok (.ret r3), hr2 =>
        obtain ⟨rfl, hp, tk, c3, rfl, R3, le3, kp⟩ := hr2
        repeat (any_goals (first | assumption | wp_step))
        exact done _ _ _ R3 le3 kp
end
end NL
end L2
/-! NL15: sorted(set(ints)), tuple(range(..)), as rules. -/
namespace L2
namespace NL
open PySem PySem.Spec PyProof.Rows
/-- ascending, each once -/
def insU (k : Int) : List Int → List Int
  | [] => [k]
  | x :: l => if k < x then k :: x :: l else if k = x then x :: l else x :: insU k l
def sortU (ns : List Int) : List Int := ns.foldr insU []
theorem insU_mem {k j : Int} : ∀ {l : List Int}, j ∈ insU k l ↔ j = k ∨ j ∈ l
  | [] => by simp [insU]
  | x :: l => by
    unfold insU
    by_cases h : k < x
    · simp [h]
    · by_cases e : k = x
      · subst e; simp
      · simp [h, e, insU_mem (l := l)]
        constructor
        · rintro (h | h | h) <;> simp [h]
        · rintro (h | h | h) <;> simp [h]
theorem insU_lt {k : Int} : ∀ {l : List Int}, l.Pairwise (· < ·) → (insU k l).Pairwise (· < ·)
  | [], _ => by simp [insU]
  | x :: l, h => by
    unfold insU
    by_cases h1 : k < x
    · rw [if_pos h1]
      refine List.Pairwise.cons (fun y hy => ?_) h
      rcases List.mem_cons.mp hy with rfl | hy
      · exact h1
      · exact Int.lt_trans h1 ((List.pairwise_cons.mp h).1 y hy)
    · rw [if_neg h1]
      by_cases e : k = x
      · rw [if_pos e]; exact h
      · rw [if_neg e]
        refine List.Pairwise.cons (fun y hy => ?_) (insU_lt (List.pairwise_cons.mp h).2)
        rcases insU_mem.mp hy with rfl | hy
        · omega
        · exact (List.pairwise_cons.mp h).1 y hy
theorem sortU_mem {j : Int} : ∀ {ns : List Int}, j ∈ sortU ns ↔ j ∈ ns
  | [] => by simp [sortU]
  | k :: ns => by
    show j ∈ insU k (sortU ns) ↔ _
    rw [insU_mem, sortU_mem, List.mem_cons]
theorem sortU_lt : ∀ {ns : List Int}, (sortU ns).Pairwise (· < ·)
  | [] => by simp [sortU]
  | k :: ns => insU_lt sortU_lt
theorem insU_len {k : Int} : ∀ {l : List Int}, (insU k l).length ≤ l.length + 1
  | [] => by simp [insU]
  | x :: l => by
    unfold insU
    split
    · simp
    · split
      · simp
      · simp only [List.length_cons]
        have := insU_len (k := k) (l := l)
        omega
theorem sortU_len : ∀ {ns : List Int}, (sortU ns).length ≤ ns.length
  | [] => by simp [sortU]
  | k :: ns => by
    show (insU k (sortU ns)).length ≤ ns.length + 1
    have := insU_len (k := k) (l := sortU ns)
    have := sortU_len (ns := ns)
    omega
/-- two ascending rows of the same ints are one -/
theorem asc_uniq : ∀ {xs ys : List Int}, xs.Pairwise (· < ·) → ys.Pairwise (· < ·) → (∀ k, k ∈ xs ↔ k ∈ ys) → xs = ys
  | [], [], _, _, _ => rfl
  | [], y :: ys, _, _, h => by have := (h y).mpr List.mem_cons_self; cases this
  | x :: xs, [], _, _, h => by have := (h x).mp List.mem_cons_self; cases this
  | x :: xs, y :: ys, hx, hy, h => by
    obtain ⟨hx1, hx2⟩ := List.pairwise_cons.mp hx
    obtain ⟨hy1, hy2⟩ := List.pairwise_cons.mp hy
    have e : x = y := by
      rcases List.mem_cons.mp ((h x).mp List.mem_cons_self) with e | e
      · exact e
      · rcases List.mem_cons.mp ((h y).mpr List.mem_cons_self) with e2 | e2
        · exact e2.symm
        · have := hy1 x e
          have := hx1 y e2
          omega
    subst e
    congr 1
    refine asc_uniq hx2 hy2 fun k => ⟨fun hk => ?_, fun hk => ?_⟩
    · rcases List.mem_cons.mp ((h k).mp (List.mem_cons_of_mem _ hk)) with e | e
      · have := hx1 k hk; omega
      · exact e
    · rcases List.mem_cons.mp ((h k).mpr (List.mem_cons_of_mem _ hk)) with e | e
      · have := hy1 k hk; omega
      · exact e
/-- set(xs), xs a list of ints -/
def rSetOfI (K : PySem.W.Frag) (w : World) : List V → Hp → VK → Prop := fun xs H Q => ∃ (l : Addr) (ns : List Int), xs = [V.ref l] ∧ SqL K H l (ns.map V.int) ∧ ns.length + 1 < scanBound ∧
  ∀ (a : Addr) (c : Nat), H a = none → c ≤ ns.length → Q (.ref a) (upd H a (SetO w a (fun j => decide (j ∈ ns)) c))
section
variable {X : Cx} {W : WX}
theorem cr_setOfI (hc : X.calm = true) : CallR X (.type "set") (rSetOfI X.K X.w) := by
  intro pins s σ H xs us Q I r h
  obtain ⟨l, ns, rfl, hl, hf, q⟩ := h
  rw [Vals.ref1 r]
  obtain ⟨its, rv, pl, hz⟩ := I.list hl
  have hn : H s.heap.objs.size = none := I.hok.fresh (Nat.le_refl _)
  refine set_of_listI (P := X.prog) (w := X.w) ns (I.ok.hd hc) pl.isList (by simpa using ints_of_vals rv) hf fun hp tk c R le kp => ?_
  exact ⟨.ref s.heap.objs.size, upd H s.heap.objs.size (SetO X.w s.heap.objs.size (fun j => decide (j ∈ ns)) c), I.laid (t' := tk) kp (Nat.le_refl _) (setO_new R), rfl, q _ c hn le⟩
theorem reps_ints {K : PySem.W.Frag} {H : Hp} {F : Fz} : ∀ (ns : List Int), Reps K H F (ns.map PyData.int) (ns.map V.int)
  | [] => Reps.nil
  | n :: ns => Reps.cons Rep.mkInt (reps_ints ns)
def nSortU (p : Opd) : NSt → R (List PyData) := fun n => (p.run n).bind fun a n1 => match a.get n1 with
  | some (.list xs) => match intsOf xs with
    | some ns => if ns.length < 63 then .ok ((sortU ns).map .int) n1 else .bad
    | none => .bad
  | _ => .bad
theorem neo_sortU {x : Expr} {p : Opd} {p0 p1 q0 pos : Pos} (hc : X.calm = true) (hm : X.mg "sorted" = none) (hm1 : X.mg "set" = none) (ha : NO X W x p) (hg : Gl X "sorted" := by rfl) (hg1 : Gl X "set" := by rfl)
    (he : starEach [Expr.Call (.Name "set" p1) [x] [] q0] X.env = (false, eval (Expr.Call (.Name "set" p1) [x] [] q0) X.env) :: starEach [] X.env := by rfl) (hpl : (backTo pos (starEach [] X.env)).any (·.1) = false := by rfl)
    (he1 : starEach [x] X.env = (false, eval x X.env) :: starEach [] X.env := by rfl) (hpl1 : (backTo q0 (starEach [] X.env)).any (·.1) = false := by rfl) :
    NEo X W (.Call (.Name "sorted" p0) [.Call (.Name "set" p1) [x] [] q0] [] pos) (nSortU p) := by
  obtain ⟨t, pa, s⟩ := ha.ex
  refine ⟨_, pe_callB (cr_sortedSet hc) hg hm boot_sorted (pa_cons (pe_callTy (cr_setOfI hc) hg1 hm1 PyProof.Rows.boot_set (pa_cons pa pa_nil he1) (by decide) (by decide) he1 hpl1) pa_nil he) (by decide) (by decide) he hpl, fun c Q S h => ?_⟩
  refine s c _ S (Pst.seq (rel := relV X.K) (rel' := relO X.K) mono_O h fun a n1 vx H1 F1 _ st1 S1 rx h1 => ?_)
  cases ea : a.get n1 with
  | none => rw [ea] at h1; exact h1.elim
  | some d =>
    rw [ea] at h1
    cases d with
    | list xs =>
      obtain ⟨b, ws, rfl, hH, rr⟩ := (S1.avGet rx ea).list
      dsimp only at h1
      cases ei : intsOf xs with
      | none => rw [ei] at h1; exact h1.elim
      | some ns =>
        rw [ei] at h1
        dsimp only at h1
        split at h1
        · rename_i hz
          rw [intsOf_eq ei] at rr
          have ew := rr.ints'
          subst ew
          refine ⟨b, ns, rfl, SqL.of hH, by unfold scanBound; omega, fun a1 c1 ha1 hc1 => ?_⟩
          refine ⟨a1, _, c1, rfl, upd_same, by omega, fun ms q hp hm2 hl2 hq => ?_⟩
          have em : ms = sortU ns := asc_uniq hp sortU_lt fun k => by rw [hm2, sortU_mem]; simp
          subst em
          have hne : q ≠ a1 := fun z => by subst z; rw [upd_same] at hq; cases hq
          have hq1 : H1 q = none := by rw [upd_ne hne] at hq; exact hq
          obtain ⟨S2, st2⟩ := Sim.ext S1 (H' := upd H1 a1 (SetO X.w a1 (fun j => decide (j ∈ ns)) c1)) (F' := F1) (upd_old ha1) (fun _ h => h) fun a h => .inl h
          obtain ⟨S3, st3, r3⟩ := S2.newLst (p := q) hq (reps_ints (sortU ns))
          exact h1 (.ref q) _ _ (st2.trans st3) S3 (mono_O _ _ _ _ _ st2 r3)
        · exact h1.elim
    | _ => exact h1.elim
/-- tuple(range(..)) -/
def nTupRg (f : NSt → R (List AV)) : NExp := fun n => (f n).bind fun as n' => match as with
  | [.v (.int j)] => if 0 ≤ j ∧ j ≤ 100000 then .ok (.tuple (rgD 0 j)) n' else .bad
  | [.v (.int i), .v (.int j)] => if 0 ≤ i ∧ i ≤ 100000 ∧ 0 ≤ j ∧ j ≤ 100000 then .ok (.tuple (rgD i j)) n' else .bad
  | _ => .bad
theorem reps_rg {K : PySem.W.Frag} {H : Hp} {F : Fz} (i j : Int) : Reps K H F (rgD i j) (rgV i j) := by
  unfold rgD rgV
  have := reps_ints (K := K) (H := H) (F := F) ((List.range (j - i).toNat).map fun (k : Nat) => i + (k : Int))
  rw [List.map_map, List.map_map] at this
  exact this
theorem ne_tupRg1 {a : Expr} {f : NExp} {p p0 q0 pos : Pos} (hc : X.calm = true) (hm : X.mg "tuple" = none) (hm1 : X.mg "range" = none) (ha : NE X W a f) (hg : Gl X "tuple" := by rfl) (hg1 : Gl X "range" := by rfl)
    (na : starEach [a] X.env = (false, eval a X.env) :: starEach [] X.env := by rfl)
    (na2 : starEach [Expr.Call (.Name "range" p) [a] [] q0] X.env = (false, eval (Expr.Call (.Name "range" p) [a] [] q0) X.env) :: starEach [] X.env := by rfl) :
    NE X W (.Call (.Name "tuple" p0) [.Call (.Name "range" p) [a] [] q0] [] pos) (nTupRg (aCons (.e f) aNil)) := by
  obtain ⟨t, pa, s⟩ := ha.ex
  refine ⟨_, pe_tupRg hc hg hm (prg_1 hg1 hm1 pa na) na2, fun c Q S h => ?_⟩
  have h : Pst X.K X.mg W (relE X.K) c Q ((f c.n).bind fun d n1 => match d with
    | .int j => if 0 ≤ j ∧ j ≤ 100000 then .ok (.tuple (rgD 0 j)) n1 else .bad
    | _ => .bad) := by
    have e : nTupRg (aCons (.e f) aNil) c.n = (f c.n).bind fun d n1 => match d with
      | .int j => if 0 ≤ j ∧ j ≤ 100000 then .ok (.tuple (rgD 0 j)) n1 else .bad
      | _ => .bad := by
      show (((((f c.n).bind _).bind _).bind _) : R PyData) = _
      cases f c.n with
      | ok d n1 => cases d <;> rfl
      | err x n1 => rfl
      | bad => rfl
    rw [← e]
    exact h
  refine s c _ S (Pst.seq (rel := relE X.K) (rel' := relE X.K) mono_E h fun d n1 v H1 F1 _ st1 S1 r1 h1 => ?_)
  cases d with
  | int j =>
    dsimp only at h1
    split at h1
    · rename_i hj
      have e1 := Rep.int (K := X.K) (H := H1) (F := F1) r1
      refine ⟨j, e1, RgOk.of_le (by omega) (by omega) (by omega) (by omega), fun q hq => ?_⟩
      obtain ⟨S2, st2, r2⟩ := S1.newTup (p := q) hq (reps_rg 0 j)
      exact h1 _ _ _ st2 S2 r2
    · exact h1.elim
  | _ => exact h1.elim
/-- x += e, x -= e: ints -/
def oAddI : PyData → PyData → Option PyData
  | .int a, .int b => some (.int (a + b))
  | _, _ => none
def oSubI : PyData → PyData → Option PyData
  | .int a, .int b => some (.int (a - b))
  | _, _ => none
theorem no_addI : Op2 X (ipI fun i j => i + j) oAddI := by
  intro c x y z vx vy Q S rx ry e h
  unfold oAddI at e
  split at e
  · cases e
    exact ⟨_, _, rx.int, ry.int, fin0 S h Rep.mkInt⟩
  · cases e
theorem no_subI : Op2 X (ipI fun i j => i - j) oSubI := by
  intro c x y z vx vy Q S rx ry e h
  unfold oSubI at e
  split at e
  · cases e
    exact ⟨_, _, rx.int, ry.int, fin0 S h Rep.mkInt⟩
  · cases e
end
end NL
end L2
/-! NL16: dicts that do not change; starred displays. -/
namespace L2
namespace NL
open PySem PySem.Spec PyProof.Rows
def isKey : PyData → PyData → Bool
  | .str a, .str b => a == b
  | .int a, .int b => a == b
  | _, _ => false
def dLook (kvs : List (PyData × PyData)) (k : PyData) : Option PyData := (kvs.find? fun kv => isKey kv.1 k).map (·.2)
theorem isKey_keyD {a b : Key} : isKey (keyD a) (keyD b) = decide (a = b) := by
  cases a <;> cases b <;> simp [keyD, isKey]
  all_goals (rw [Bool.eq_iff_iff]; simp)
theorem dLook_ok {K : PySem.W.Frag} {H : Hp} {F : Fz} {k : Key} : ∀ {kvs : List (PyData × PyData)} {kx : List (Key × V)}, kvs.map (·.1) = kx.map (fun p => keyD p.1) → RepsP K H F kvs (kx.map (·.2)) → match dLook kvs (keyD k) with
    | some d => ∃ v, valV kx k = some v ∧ Rep K H F d v
    | none => valV kx k = none
  | [], [], _, _ => rfl
  | [], _ :: _, h, _ => by cases h
  | _ :: _, [], h, _ => by cases h
  | (a, d) :: kvs, p :: kx, h, r => by
    rw [List.map_cons, List.map_cons, List.cons.injEq] at h
    obtain ⟨h1, h2⟩ := h
    have h1 : a = keyD p.1 := h1
    rw [List.map_cons] at r
    unfold RepsP at r
    obtain ⟨v, vs, e, r1, r2⟩ := r
    cases e
    unfold RepP at r1
    have ih := dLook_ok (k := k) h2 r2
    subst h1
    unfold dLook at ih ⊢
    rw [List.find?_cons]
    dsimp only
    rw [isKey_keyD]
    by_cases e : p.1 = k
    · rw [decide_eq_true e]
      exact ⟨p.2, valV_pos e, r1⟩
    · rw [decide_eq_false e, valV_neg e]
      exact ih
def keyOf : PyData → Option Key
  | .str a => some (.inr a)
  | .int a => some (.inl a)
  | _ => none
theorem keyOf_D {d : PyData} {k : Key} (h : keyOf d = some k) : d = keyD k := by
  cases d <;> cases h <;> rfl
theorem keyOf_V {K : PySem.W.Frag} {H : Hp} {F : Fz} {d : PyData} {k : Key} {v : V} (h : keyOf d = some k) (r : Rep1 K H F d v) : v = kV k := by
  cases d <;> cases h
  · exact r.int
  · exact r.str
/-- d[k] -/
def oDix : PyData → PyData → Option PyData
  | .dict kvs, k => match keyOf k with
    | some _ => dLook kvs k
    | none => none
  | _, _ => none
def oDin : PyData → PyData → Option PyData
  | k, .dict kvs => match keyOf k with
    | some _ => some (.bool (dLook kvs k).isSome)
    | none => none
  | _, _ => none
def oDnot : PyData → PyData → Option PyData
  | k, .dict kvs => match keyOf k with
    | some _ => some (.bool (!(dLook kvs k).isSome))
    | none => none
  | _, _ => none
def rDGet : R2 := fun x y H Q => ∃ a v, x = .ref a ∧ DGet H a y (some v) ∧ Q v H
def rDIn : R2 := fun y x H Q => ∃ a o, x = .ref a ∧ DGet H a y o ∧ Q (.bl o.isSome) H
def rDNotIn : R2 := fun y x H Q => ∃ a o, x = .ref a ∧ DGet H a y o ∧ Q (.bl (!o.isSome)) H
section
variable {X : Cx} {W : WX} {e e2 : Expr} {p q : Opd} {pos : Pos}
theorem dget_of {K : PySem.W.Frag} {H : Hp} {F : Fz} {kvs : List (PyData × PyData)} {k : Key} {v : V} (r : Rep K H F (.dict kvs) v) : ∃ a o, v = .ref a ∧ DGet H a (kV k) o ∧ match dLook kvs (keyD k) with
    | some d => ∃ u, o = some u ∧ Rep K H F d u
    | none => o = none := by
  obtain ⟨a, ws, e, f, ⟨ob, kx, hH, hk, e2⟩, rr⟩ := r.dict
  subst e2
  have := dLook_ok (k := k) hk rr
  refine ⟨a, valV kx k, e, .inl ⟨kx, k, .inr ⟨ob, hH⟩, rfl, rfl⟩, ?_⟩
  cases hd : dLook kvs (keyD k) with
  | none => rw [hd] at this; exact this
  | some d => rw [hd] at this; exact this
theorem no_dix : Op2 X rDGet oDix := by
  intro c x y z vx vy Q S rx ry e h
  cases x with
  | dict kvs =>
    have e : (match keyOf y with
      | some _ => dLook kvs y
      | none => none) = some z := e
    cases hk : keyOf y with
    | none => rw [hk] at e; cases e
    | some k =>
      rw [hk] at e
      have ey := keyOf_D hk
      have ev := keyOf_V hk ry
      subst ey ev
      obtain ⟨a, o, e1, g, m⟩ := dget_of (k := k) rx.dict
      have e : dLook kvs (keyD k) = some z := e
      rw [e] at m
      obtain ⟨u, e2, ru⟩ := m
      subst e1 e2
      exact ⟨a, u, rfl, g, fin0 S h ru⟩
  | _ => cases e
theorem no_din : Op2 X rDIn oDin := by
  intro c x y z vx vy Q S rx ry e h
  cases y with
  | dict kvs =>
    cases hk : keyOf x with
    | none =>
      have e : (match keyOf x with
        | some _ => some (PyData.bool (dLook kvs x).isSome)
        | none => none) = some z := by cases x <;> exact e
      rw [hk] at e
      cases e
    | some k =>
      have e : (match keyOf x with
        | some _ => some (PyData.bool (dLook kvs x).isSome)
        | none => none) = some z := by cases x <;> exact e
      rw [hk] at e
      cases e
      have ey := keyOf_D hk
      have ev := keyOf_V hk rx
      subst ey ev
      obtain ⟨a, o, e1, g, m⟩ := dget_of (k := k) ry.dict
      subst e1
      refine ⟨a, o, rfl, g, fin0 S h ?_⟩
      have eo : (dLook kvs (keyD k)).isSome = o.isSome := by
        cases hd : dLook kvs (keyD k) with
        | none => rw [hd] at m; rw [m]; rfl
        | some d => rw [hd] at m; obtain ⟨u, rfl, _⟩ := m; rfl
      rw [eo]
      exact Rep.mkBool
  | _ => cases x <;> cases e
theorem no_dnot : Op2 X rDNotIn oDnot := by
  intro c x y z vx vy Q S rx ry e h
  cases y with
  | dict kvs =>
    cases hk : keyOf x with
    | none =>
      have e : (match keyOf x with
        | some _ => some (PyData.bool (!(dLook kvs x).isSome))
        | none => none) = some z := by cases x <;> exact e
      rw [hk] at e
      cases e
    | some k =>
      have e : (match keyOf x with
        | some _ => some (PyData.bool (!(dLook kvs x).isSome))
        | none => none) = some z := by cases x <;> exact e
      rw [hk] at e
      cases e
      have ey := keyOf_D hk
      have ev := keyOf_V hk rx
      subst ey ev
      obtain ⟨a, o, e1, g, m⟩ := dget_of (k := k) ry.dict
      subst e1
      refine ⟨a, o, rfl, g, fin0 S h ?_⟩
      have eo : (dLook kvs (keyD k)).isSome = o.isSome := by
        cases hd : dLook kvs (keyD k) with
        | none => rw [hd] at m; rw [m]; rfl
        | some d => rw [hd] at m; obtain ⟨u, rfl, _⟩ := m; rfl
      rw [eo]
      exact Rep.mkBool
  | _ => cases x <;> cases e
theorem ne_dix (hu : X.A.units + 64 < cLine) (ha : NO X W e p) (hb : NO X W e2 q) (hs : NoSl e2 := by exact fun _ _ => rfl) : NE X W (.Subscript e e2 pos) (nOp2 oDix p q) := by
  obtain ⟨ta, pa, sa⟩ := ha.ex
  obtain ⟨tb, pb, sb⟩ := hb.ex
  exact ⟨tDGet ta tb, pe_dget (by omega) pa pb hs, fun c Q S h => two sa sb no_dix S h⟩
theorem ne_din (hu : X.A.units + 64 < cLine) (ha : NO X W e p) (hb : NO X W e2 q) (hm : behindInMarks .In e2 = false := by rfl) : NE X W (.Compare e [.In] [e2] pos) (nOp2 oDin p q) := by
  obtain ⟨ta, pa, sa⟩ := ha.ex
  obtain ⟨tb, pb, sb⟩ := hb.ex
  exact ⟨tDIn ta tb, pe_cmp (pc_din (by omega) pa pb) hm, fun c Q S h => two sa sb no_din S h⟩
theorem nt_din (hu : X.A.units + 64 < cLine) (ha : NO X W e p) (hb : NO X W e2 q) (hm : behindInMarks .In e2 = false := by rfl) : NT X W (.Compare e [.In] [e2] pos) (asB (nOp2 oDin p q)) := by
  obtain ⟨ta, pa, sa⟩ := ha.ex
  obtain ⟨tb, pb, sb⟩ := hb.ex
  exact ⟨tB (tDIn ta tb), pt_cmp (pc_din (by omega) pa pb) hm, fun c Q S h => asB_st (t := tDIn ta tb) (fun c Q S h => two sa sb no_din S h) S h⟩
theorem ne_dnot (hu : X.A.units + 64 < cLine) (ha : NO X W e p) (hb : NO X W e2 q) (hm : behindInMarks .NotIn e2 = false := by rfl) : NE X W (.Compare e [.NotIn] [e2] pos) (nOp2 oDnot p q) := by
  obtain ⟨ta, pa, sa⟩ := ha.ex
  obtain ⟨tb, pb, sb⟩ := hb.ex
  exact ⟨tDNotIn ta tb, pe_cmp (pc_dnotin (by omega) pa pb) hm, fun c Q S h => two sa sb no_dnot S h⟩
theorem nt_dnot (hu : X.A.units + 64 < cLine) (ha : NO X W e p) (hb : NO X W e2 q) (hm : behindInMarks .NotIn e2 = false := by rfl) : NT X W (.Compare e [.NotIn] [e2] pos) (asB (nOp2 oDnot p q)) := by
  obtain ⟨ta, pa, sa⟩ := ha.ex
  obtain ⟨tb, pb, sb⟩ := hb.ex
  exact ⟨tB (tDNotIn ta tb), pt_cmp (pc_dnotin (by omega) pa pb) hm, fun c Q S h => asB_st (t := tDNotIn ta tb) (fun c Q S h => two sa sb no_dnot S h) S h⟩
/-! ### walks -/
theorem RepsP.get {K : PySem.W.Frag} {H : Hp} {F : Fz} : ∀ {kvs : List (PyData × PyData)} {kx : List (Key × V)} {i : Nat} {kd : PyData × PyData}, kvs.map (·.1) = kx.map (fun p => keyD p.1) → RepsP K H F kvs (kx.map (·.2)) → kvs[i]? = some kd → ∃ kv, kx[i]? = some kv ∧ kd.1 = keyD kv.1 ∧ Rep K H F kd.2 kv.2
  | [], _, i, kd, _, _, h => by cases h
  | _ :: _, [], _, _, h, _, _ => by cases h
  | (a, d) :: kvs, p :: kx, i, kd, h, r, g => by
    rw [List.map_cons, List.map_cons, List.cons.injEq] at h
    rw [List.map_cons] at r
    unfold RepsP at r
    obtain ⟨v, vs, e, r1, r2⟩ := r
    cases e
    unfold RepP at r1
    cases i with
    | zero => cases g; exact ⟨p, rfl, h.1, r1⟩
    | succ i => exact RepsP.get (kvs := kvs) (kx := kx) h.2 r2 g
def dItems (kvs : List (PyData × PyData)) : List PyData := kvs.map fun kv => .tuple [kv.1, kv.2]
def iItm (f : NExp) : NSt → R (List PyData) := fun n => (f n).bind fun d n' => match d with
  | .dict kvs => .ok (dItems kvs) n'
  | _ => .bad
theorem rep_key {K : PySem.W.Frag} {H : Hp} {F : Fz} {k : Key} : Rep K H F (keyD k) (kV k) := by
  cases k
  · exact Rep.mkInt
  · exact Rep.mkStr
theorem ni_items {elts : List Expr} {kk : Nat} {tpos apos cpos : Pos} {f : NExp} (h : NE X W e f) (hbase : attributeBase e "items" X.env (eval e X.env) = eval e X.env := by rfl) (hline : (apos.endLine == cpos.line) = true := by rfl) :
    NI X W (.Tuple elts kk tpos) (.Call (.Attribute e "items" apos) [] [] cpos) (iItm f) := by
  obtain ⟨t, p, s⟩ := h.ex
  refine ⟨iItems t, pi_items p hbase hline, fun c Q S q => ?_⟩
  refine s c _ S (Pst.seq (rel := relE X.K) (rel' := fun _ c1 ds J => Gives X.K J ds c1) mono_I q fun d n' v H' F' _ st S' r q' => ?_)
  cases d with
  | dict kvs =>
    obtain ⟨a, ws, rfl, fa, ⟨ob, kx, hH, hk, e2⟩, rr⟩ := Rep.dict (K := X.K) (H := H') (F := F') r
    subst e2
    refine ⟨a, ob, kx, rfl, hH, q' (Iti a ob kx) H' F' (Step.refl _) S' fun c2 st2 S2 i hi => ?_⟩
    have hH2 : c2.H a = some (.frz ob (.dK kx)) := (st2.frz S' a fa).2.trans hH
    have r2 : RepsP X.K c2.H c2.F kvs (kx.map (·.2)) := RepsP.keep (st2.frz S') _ _ rr
    have hl : kvs.length = kx.length := by
      have := congrArg List.length hk
      rwa [List.length_map, List.length_map] at this
    refine ⟨fun d ed => ?_, fun e => ⟨hH2, by rw [e]; unfold dItems; rw [List.length_map, hl]; exact Nat.le_refl _⟩⟩
    unfold dItems at ed
    rw [List.getElem?_map] at ed
    cases ek : kvs[i]? with
    | none => rw [ek] at ed; cases ed
    | some kd =>
      rw [ek] at ed
      cases ed
      obtain ⟨kv, e1, e2, e3⟩ := RepsP.get hk r2 ek
      refine ⟨⟨hH2, (List.getElem?_eq_some_iff.mp e1).1⟩, fun x H2 ⟨T, k, v, e4, e5, e6, e7⟩ => ?_⟩
      rw [e1] at e4
      cases e4
      subst e5 e7
      obtain ⟨S3, st3, r3⟩ := S2.newTup (p := T) (ws := [kV k, v]) (ds := [kd.1, kd.2]) e6 (by rw [e2]; exact Reps.cons rep_key (Reps.cons e3 Reps.nil))
      exact ⟨_, st3, S3, r3⟩
  | _ => exact q'.elim
/-! ### dict(pairs) -/
def unPair : PyData → Option (PyData × PyData)
  | .tuple [k, d] => match keyOf k with
    | some _ => some (k, d)
    | none => none
  | _ => none
def pairsOf : List PyData → Option (List (PyData × PyData))
  | [] => some []
  | x :: xs => match unPair x, pairsOf xs with
    | some p, some r => some (p :: r)
    | _, _ => none
def distK : List (PyData × PyData) → Bool
  | [] => true
  | p :: r => !(r.any fun q => isKey p.1 q.1) && distK r
end
end NL
end L2
/-! NL17: dict(pairs), {k: v}, starred displays. -/
namespace L2
namespace NL
open PySem PySem.Spec PyProof.Rows
theorem merge_dist : ∀ (kx acc : List (Key × V)), (∀ p ∈ kx, valV acc p.1 = none) → kx.Pairwise (fun p q => ¬ p.1 = q.1) → mergeK acc kx = acc ++ kx
  | [], acc, _, _ => by simp [mergeK]
  | p :: kx, acc, h, hp => by
    obtain ⟨h1, h2⟩ := List.pairwise_cons.mp hp
    have hn := h p List.mem_cons_self
    show mergeK (putK acc p.1 p.2) kx = _
    rw [putK_new p.2 hn, merge_dist kx _ (fun q hq => ?_) h2]
    · simp
    · rw [valV_snoc p.1 q.1 p.2 acc hn, if_neg (fun z => h1 q hq z.symm)]
      exact h q (List.mem_cons_of_mem _ hq)
theorem dist_pw : ∀ {kvs : List (PyData × PyData)} {kx : List (Key × V)}, kvs.map (·.1) = kx.map (fun p => keyD p.1) → distK kvs = true → kx.Pairwise (fun p q => ¬ p.1 = q.1)
  | [], [], _, _ => List.Pairwise.nil
  | [], _ :: _, h, _ => by cases h
  | _ :: _, [], h, _ => by cases h
  | (a, d) :: kvs, p :: kx, h, hd => by
    rw [List.map_cons, List.map_cons, List.cons.injEq] at h
    obtain ⟨h1, h2⟩ := h
    have h1 : a = keyD p.1 := h1
    unfold distK at hd
    obtain ⟨hd1, hd2⟩ := Bool.and_eq_true_iff.mp hd
    refine List.Pairwise.cons (fun q hq e => ?_) (dist_pw h2 hd2)
    have hq2 : keyD q.1 ∈ kvs.map (·.1) := by rw [h2]; exact List.mem_map.mpr ⟨q, hq, rfl⟩
    obtain ⟨r, hr, er⟩ := List.mem_map.mp hq2
    have : (kvs.any fun q => isKey (a, d).1 q.1) = true := List.any_eq_true.mpr ⟨r, hr, by
      show isKey a r.1 = true
      have er : r.1 = keyD q.1 := er
      rw [er, h1, isKey_keyD]
      exact decide_eq_true e⟩
    rw [this] at hd1
    cases hd1
theorem merge_nil {kvs : List (PyData × PyData)} {kx : List (Key × V)} (h : kvs.map (·.1) = kx.map (fun p => keyD p.1)) (hd : distK kvs = true) : mergeK [] kx = kx := by
  rw [merge_dist kx [] (fun _ _ => rfl) (dist_pw h hd), List.nil_append]
theorem pairs_reps {K : PySem.W.Frag} {H : Hp} {F : Fz} : ∀ {xs : List PyData} {kvs : List (PyData × PyData)} {ws : List V}, pairsOf xs = some kvs → Reps K H F xs ws →
    ∃ (ps : List Addr) (kx : List (Key × V)), ws = ps.map V.ref ∧ Paired (fun p (kv : Key × V) => SqT K H p [kV kv.1, kv.2]) ps kx ∧ kvs.map (·.1) = kx.map (fun p => keyD p.1) ∧ RepsP K H F kvs (kx.map (·.2))
  | [], kvs, ws, h, r => by
    cases h
    unfold Reps at r
    subst r
    exact ⟨[], [], rfl, .nil, rfl, by unfold RepsP; rfl⟩
  | x :: xs, kvs, ws, h, r => by
    unfold Reps at r
    obtain ⟨v, vs, rfl, r1, r2⟩ := r
    unfold pairsOf at h
    cases hu : unPair x with
    | none => rw [hu] at h; cases h
    | some kd =>
      cases hp : pairsOf xs with
      | none => rw [hu, hp] at h; cases h
      | some rest =>
        rw [hu, hp] at h
        cases h
        obtain ⟨ps, kx, e1, e2, e3, e4⟩ := pairs_reps hp r2
        unfold unPair at hu
        split at hu
        · rename_i k d
          cases hk : keyOf k with
          | none => rw [hk] at hu; cases hu
          | some key =>
            rw [hk] at hu
            cases hu
            obtain ⟨a, us, rfl, hq, ru⟩ := r1.tuple
            unfold Reps at ru
            obtain ⟨u1, us1, rfl, ra, rb⟩ := ru
            unfold Reps at rb
            obtain ⟨u2, us2, rfl, rc, rd⟩ := rb
            unfold Reps at rd
            subst rd
            have ek := keyOf_D hk
            have ev := keyOf_V (K := K) (H := H) (F := F) hk (.inl ra)
            subst ek ev
            refine ⟨a :: ps, (key, u2) :: kx, by rw [e1]; rfl, .cons hq e2, by rw [List.map_cons, List.map_cons, e3], ?_⟩
            rw [List.map_cons]
            unfold RepsP
            refine ⟨u2, _, rfl, ?_, e4⟩
            unfold RepP
            exact rc
        · cases hu
section
variable {X : Cx} {W : WX} {pos : Pos}
/-- dict(xs), xs a list of pairs with keys that differ -/
def nDictOf (p : Opd) : NExp := fun n => (p.run n).bind fun a n1 => match a.get n1 with
  | some (.list xs) => match pairsOf xs with
    | some kvs => if distK kvs = true then .ok (.dict kvs) n1 else .bad
    | none => .bad
  | _ => .bad
theorem ne_dictOf {x : Expr} {p : Opd} {p0 : Pos} (hc : X.calm = true) (hm : X.mg "dict" = none) (ha : NO X W x p) (hg : Gl X "dict" := by rfl)
    (he : starEach [x] X.env = (false, eval x X.env) :: starEach [] X.env := by rfl) (hpl : (backTo pos (starEach [] X.env)).any (·.1) = false := by rfl) (hb : bootBuiltins "dict" = some (.type "dict") := by decide +kernel) :
    NE X W (.Call (.Name "dict" p0) [x] [] pos) (nDictOf p) := by
  obtain ⟨t, pa, s⟩ := ha.ex
  refine ⟨_, pe_lockD (pe_callTy (call_dictP hc) hg hm hb (pa_cons pa pa_nil he) (by decide) (by decide) he hpl), fun c Q S h => ?_⟩
  refine s c _ S (Pst.seq (rel := relV X.K) (rel' := relE X.K) mono_E h fun a n1 vx H1 F1 _ st1 S1 rx h1 => ?_)
  cases ea : a.get n1 with
  | none => rw [ea] at h1; exact h1.elim
  | some d =>
    rw [ea] at h1
    cases d with
    | list xs =>
      obtain ⟨b, ws, rfl, hH, rr⟩ := (S1.avGet rx ea).list
      dsimp only at h1
      cases ep : pairsOf xs with
      | none => rw [ep] at h1; exact h1.elim
      | some kvs =>
        rw [ep] at h1
        dsimp only at h1
        split at h1
        · rename_i hd
          obtain ⟨ps, kx, rfl, e2, e3, e4⟩ := pairs_reps ep rr
          refine ⟨b, ps, kx, rfl, SqL.of hH, e2, fun q hq => ⟨q, kx, rfl, by rw [upd_same, merge_nil e3 hd], fun od => ?_⟩⟩
          rw [upd_upd]
          obtain ⟨S2, st2, r2⟩ := S1.newDict (p := q) (od := od) hq e3 e4
          exact h1 _ _ _ st2 S2 r2
        · exact h1.elim
    | _ => exact h1.elim
/-! ### starred -/
def seqA : Option PyData → Option (List PyData)
  | some (.list xs) => some xs
  | some (.tuple xs) => some xs
  | _ => none
def aStar (p : Opd) (f : NSt → R (List AV)) : NSt → R (List AV) := fun n => (p.run n).bind fun a n1 => match seqA (a.get n1) with
  | some xs => (f n1).bind fun as n2 => .ok (xs.map .v ++ as) n2
  | none => .bad
theorem reps_av {K : PySem.W.Frag} {c : Cf} : ∀ {xs : List PyData} {ws : List V} {as : List AV} {vs : List V}, Reps K c.H c.F xs ws → Paired (AVRep K c) as vs → Paired (AVRep K c) (xs.map .v ++ as) (ws ++ vs)
  | [], ws, as, vs, r, q => by
    unfold Reps at r
    subst r
    exact q
  | x :: xs, ws, as, vs, r, q => by
    unfold Reps at r
    obtain ⟨v, us, rfl, r1, r2⟩ := r
    exact .cons r1 (reps_av r2 q)
theorem na_star {e : Expr} {es : List Expr} {p : Opd} {fs : NSt → R (List AV)} {sp : Pos} (ha : NO X W e p) (hr : NA X W es fs) (hs : starEach (.Starred e sp :: es) X.env = (true, eval e X.env) :: starEach es X.env := by rfl) : NA X W (.Starred e sp :: es) (aStar p fs) := by
  obtain ⟨ta, pa, sa⟩ := ha.ex
  obtain ⟨tr, pr, sr⟩ := hr.ex
  refine ⟨StX.tStar X.K ta tr, StX.pa_star pa pr hs, fun c Q S h => ?_⟩
  refine sa c _ S (Pst.seq (rel := relV X.K) (rel' := relA X.K) mono_A h fun a n1 v H1 F1 _ st1 S1 r1 h1 => ?_)
  cases ea : seqA (a.get n1) with
  | none => rw [ea] at h1; exact h1.elim
  | some xs =>
    rw [ea] at h1
    dsimp only at h1
    have hx : ∃ b ws, v = V.ref b ∧ (SqT X.K H1 b ws ∨ SqL X.K H1 b ws) ∧ Reps X.K H1 F1 xs ws := by
      unfold seqA at ea
      split at ea
      · rename_i ys eg
        cases ea
        obtain ⟨b, ws, e1, e2, e3⟩ := (S1.avGet r1 eg).list
        exact ⟨b, ws, e1, .inr (SqL.of e2), e3⟩
      · rename_i ys eg
        cases ea
        obtain ⟨b, ws, e1, e2, e3⟩ := (S1.avGet r1 eg).tuple
        exact ⟨b, ws, e1, .inl e2, e3⟩
      · cases ea
    obtain ⟨b, ws, e1, e2, e3⟩ := hx
    subst e1
    refine ⟨b, ws, rfl, e2, ?_⟩
    refine sr ⟨n1, c.s, H1, F1⟩ _ S1 (Pst.seq (rel := relA X.K) (rel' := relA X.K) mono_A h1 fun as n2 vs H2 F2 _ st2 S2 r2 h2 => ?_)
    exact h2 (ws ++ vs) H2 F2 (Step.refl _) S2 (reps_av (c := ⟨n2, c.s, H2, F2⟩) (st2.reps S1 e3) r2)
end
end NL
end L2
/-! NL18: {k: v, ..}. -/
namespace L2
namespace NL
open PySem PySem.Spec PyProof.Rows
/-- what none holds is written, and locked -/
theorem Sim.putF {K : PySem.W.Frag} {c : Cf} (S : Sim K c) {p : Addr} {o : HO} (nf : ¬ c.F p) (nh : ¬ c.Hd p) (hz : ∀ ob u, c.H p ≠ some (.frz ob u)) : Sim K ⟨c.n, c.s, upd c.H p o, orEq c.F p⟩ := by
  have fr : ∀ a, c.F a → orEq c.F p a ∧ upd c.H p o a = c.H a := fun a f => ⟨.inl f, upd_ne fun z => by subst z; exact nf f⟩
  refine ⟨S.len, fun j s e => ?_, S.sep, fun a f => ?_⟩
  · obtain ⟨v, e2, q⟩ := S.slot j s e
    refine ⟨v, e2, ?_⟩
    have away : ∀ b, s.held = true → v = .ref b → b ≠ p := fun b hh z y => by
      subst z; subst y
      exact nh ⟨j, s, e, hh, e2⟩
    cases s with
    | val d => exact Rep.keep fr d v q
    | own xs =>
      obtain ⟨b, ws, rfl, nb, hb, rb⟩ := q
      have hne := away b rfl rfl
      exact ⟨b, ws, rfl, fun f => f.elim nb hne, (upd_ne hne).trans hb, Reps.keep fr _ _ rb⟩
    | lent xs =>
      obtain ⟨b, ws, rfl, nb, hb, rb⟩ := q
      have hne := away b rfl rfl
      exact ⟨b, ws, rfl, fun f => f.elim nb hne, (upd_ne hne).trans hb, Reps.keep fr _ _ rb⟩
    | scr xs =>
      obtain ⟨b, ns, rfl, e3, z⟩ := q
      refine ⟨b, ns, rfl, e3, ?_⟩
      rcases z with ⟨ob, z⟩ | z
      · refine .inl ⟨ob, (upd_ne fun y => ?_).trans z⟩
        subst y
        exact hz _ _ z
      · exact .inr z
  · rcases f with f | f
    · show upd c.H p o a ≠ none
      rw [(fr a f).2]; exact S.fz a f
    · show upd c.H p o a ≠ none
      rw [f, upd_same]; simp
theorem Step.putF {c0 c : Cf} (st : Step c0 c) {p : Addr} {o : HO} (h0 : c0.H p = none) : Step c0 ⟨c.n, c.s, upd c.H p o, orEq c.F p⟩ := by
  have ne : ∀ a, c0.H a ≠ none → a ≠ p := fun a n z => by subst z; exact n h0
  refine ⟨fun a n k => ?_, fun a n => ?_, fun a f => .inl (st.fz a f), fun a f => ?_, st.hd, st.ow, st.mu, st.ln⟩
  · show upd c.H p o a = _
    rw [upd_ne (ne a n)]; exact st.keep a n k
  · show upd c.H p o a ≠ none
    rw [upd_ne (ne a n)]; exact st.live a n
  · rcases f with f | f
    · exact st.fn a f
    · exact .inr (.inl (by rw [f]; exact h0))
structure NPs (X : Cx) (W : WX) (pos : Pos) (keys : List (Option Expr)) (values : List Expr) (ks : List Str) (fs : NSt → R (List AV)) : Prop where
  ex : ∃ trs, PPs X pos keys values trs ∧ ∀ (c : Cf) (Q : List (V × V) → Hp → Prop), Sim X.K c → Pst X.K X.mg W (fun c0 c1 as ps => ps.map (·.1) = ks.map V.str ∧ relA X.K c0 c1 as (ps.map (·.2))) c Q (fs c.n) → tPairs trs c.s c.H Q
theorem mono_PP {K : PySem.W.Frag} {ks : List Str} : Mono (fun c0 c1 as (ps : List (V × V)) => ps.map (·.1) = ks.map V.str ∧ relA K c0 c1 as (ps.map (·.2))) := fun _ _ _ _ _ _ h => h
section
variable {X : Cx} {W : WX} {pos : Pos}
theorem nps_nil : NPs X W pos [] [] [] aNil := ⟨[], pps_nil, fun c Q S h => h [] c.H c.F (Step.refl c) S ⟨rfl, .nil⟩⟩
theorem nps_cons {k : Str} {j kp} {v : Expr} {f : NExp} {keys : List (Option Expr)} {values : List Expr} {ks : List Str} {fs : NSt → R (List AV)} (hv : NE X W v f) (hr : NPs X W pos keys values ks fs) :
    NPs X W pos (some (.Constant (.str k) j kp) :: keys) (v :: values) (k :: ks) (aCons (.e f) fs) := by
  obtain ⟨tv, pv, sv⟩ := hv.ex
  obtain ⟨trs, pr, sr⟩ := hr.ex
  refine ⟨(tC (.str k), tv) :: trs, pps_cons pe_str pv pr, fun c Q S h => ?_⟩
  show tv c.s c.H fun y H2 => tPairs trs c.s H2 fun ps H3 => Q ((V.str k, y) :: ps) H3
  have h : Pst X.K X.mg W (fun c0 c1 as (ps : List (V × V)) => ps.map (·.1) = (k :: ks).map V.str ∧ relA X.K c0 c1 as (ps.map (·.2))) c Q ((f c.n).bind fun d n1 => (fs n1).bind fun as n2 => .ok (.v d :: as) n2) := by
    have e : aCons (.e f) fs c.n = (f c.n).bind fun d n1 => (fs n1).bind fun as n2 => .ok (.v d :: as) n2 := by
      show ((f c.n).bind _).bind _ = _
      cases f c.n <;> rfl
    rw [← e]
    exact h
  refine sv c _ S (Pst.seq (rel := relE X.K) mono_PP h fun d n1 y H1 F1 _ st1 S1 r1 h1 => ?_)
  refine sr ⟨n1, c.s, H1, F1⟩ _ S1 (Pst.seq (rel := fun c0 c1 as (ps : List (V × V)) => ps.map (·.1) = ks.map V.str ∧ relA X.K c0 c1 as (ps.map (·.2))) mono_PP h1 fun as n2 ps H2 F2 _ st2 S2 r2 h2 => ?_)
  refine h2 ((V.str k, y) :: ps) H2 F2 (Step.refl _) S2 ⟨?_, .cons ?_ r2.2⟩
  · rw [List.map_cons, List.map_cons, r2.1]
  · exact (st2.rep S1 r1 : Rep X.K H2 F2 d y)
def nDisp (ks : List Str) (fs : NSt → R (List AV)) : NExp := fun n => (fs n).bind fun as n1 => match nTup.plains as with
  | some ds => if ds.length = ks.length ∧ distK ((ks.map PyData.str).zip ds) = true then .ok (.dict ((ks.map PyData.str).zip ds)) n1 else .bad
  | none => .bad
theorem disp_rel : ∀ {ks : List Str} {ds : List PyData} {ps : List (V × V)} {K : PySem.W.Frag} {H : Hp} {F : Fz}, ds.length = ks.length → ps.map (·.1) = ks.map V.str → Reps K H F ds (ps.map (·.2)) →
    ∃ kx : List (Key × V), ps = kx.map (fun kv => (kV kv.1, kv.2)) ∧ ((ks.map PyData.str).zip ds).map (·.1) = kx.map (fun p => keyD p.1) ∧ RepsP K H F ((ks.map PyData.str).zip ds) (kx.map (·.2)) ∧ kx.length = ks.length
  | [], [], [], K, H, F, _, _, _ => ⟨[], rfl, rfl, by show RepsP K H F [] []; unfold RepsP; rfl, rfl⟩
  | [], [], _ :: _, _, _, _, _, h, _ => by cases h
  | [], _ :: _, _, _, _, _, h, _, _ => by cases h
  | _ :: _, [], _, _, _, _, h, _, _ => by cases h
  | _ :: _, _ :: _, [], _, _, _, _, h, _ => by cases h
  | k :: ks, d :: ds, (u, v) :: ps, K, H, F, hl, hk, r => by
    rw [List.map_cons, List.map_cons, List.cons.injEq] at hk
    obtain ⟨hk1, hk2⟩ := hk
    have hk1 : u = V.str k := hk1
    subst hk1
    rw [List.map_cons] at r
    unfold Reps at r
    obtain ⟨v', vs, e, r1, r2⟩ := r
    cases e
    obtain ⟨kx, e1, e2, e3, e4⟩ := disp_rel (ks := ks) (ds := ds) (ps := ps) (by simpa using hl) hk2 r2
    refine ⟨(.inr k, v) :: kx, by rw [e1]; rfl, ?_, ?_, by simp [e4]⟩
    · show PyData.str k :: ((ks.map PyData.str).zip ds).map (·.1) = _
      rw [e2]
      rfl
    · show RepsP K H F ((PyData.str k, d) :: (ks.map PyData.str).zip ds) (v :: kx.map (·.2))
      unfold RepsP
      refine ⟨v, _, rfl, ?_, e3⟩
      unfold RepP
      exact r1
theorem ne_disp {keys : List (Option Expr)} {values : List Expr} {ks : List Str} {fs : NSt → R (List AV)} (h : NPs X W pos keys values ks fs) (hall : keys.all (·.isSome) = true) (hl : keys.length = values.length) (h0 : keys ≠ []) (h15 : keys.length ≤ 15) (hk : ks.length = keys.length) :
    NE X W (.Dict keys values pos) (nDisp ks fs) := by
  obtain ⟨trs, hp, s⟩ := h.ex
  refine ⟨_, pe_lockD (pe_disp hp hall hl h0 h15), fun c Q S h p hp => ?_⟩
  obtain ⟨S0, st0⟩ := Sim.ext S (H' := upd c.H p (.dK [])) (F' := c.F) (upd_old hp) (fun _ h => h) fun a h => .inl h
  have nf0 : ¬ c.F p := fun f => S.fz p f hp
  have nh0 : ¬ c.Hd p := fun hd => S.hdH hd hp
  have hp0 : (upd c.H p (.dK []) : Hp) p ≠ none := by rw [upd_same]; simp
  have nh1 : ¬ (⟨c.n, c.s, upd c.H p (.dK []), c.F⟩ : Cf).Hd p := nh0
  refine s ⟨c.n, c.s, upd c.H p (.dK []), c.F⟩ _ S0 ?_
  unfold nDisp at h
  show Pst _ _ _ _ _ _ (fs c.n)
  cases e : fs c.n with
  | err x n =>
    rw [e] at h
    exact fun cls d H' F' s1 S1 r1 => h cls d H' F' (st0.trans s1) S1 r1
  | bad => rw [e] at h; exact h.elim
  | ok as n1 =>
    rw [e] at h
    intro ps H1 F1 st1 S1 r1
    have hH1 : H1 p = some (.dK []) := (st1.keep p hp0 nh1).trans upd_same
    refine ⟨hH1, ?_⟩
    have h1 : Pst X.K X.mg W (relE X.K) c Q (match nTup.plains as with
      | some ds => if ds.length = ks.length ∧ distK ((ks.map PyData.str).zip ds) = true then .ok (.dict ((ks.map PyData.str).zip ds)) n1 else .bad
      | none => .bad) := h
    cases ea : nTup.plains as with
    | none => rw [ea] at h1; exact h1.elim
    | some ds =>
      rw [ea] at h1
      dsimp only at h1
      split at h1
      · rename_i hz
        have rr : Reps X.K H1 F1 ds (ps.map (·.2)) := plains_ok (c := ⟨n1, c.s, H1, F1⟩) r1.2 ea
        obtain ⟨kx, e1, e2, e3, e4⟩ := disp_rel hz.1 r1.1 rr
        refine ⟨kx, e1, by omega, p, kx, rfl, by rw [upd_same, merge_nil e2 hz.2], fun od => ?_⟩
        rw [upd_upd]
        have nf : ¬ F1 p := fun f => by
          rcases st1.fn p f with z | z | z
          · exact nf0 z
          · exact hp0 z
          · exact nh1 z.hd
        have nh : ¬ (⟨n1, c.s, H1, F1⟩ : Cf).Hd p := fun hd => by
          rcases st1.hd p hd with z | z
          · exact nh1 z
          · exact hp0 z
        have hz2 : ∀ ob u, (⟨n1, c.s, H1, F1⟩ : Cf).H p ≠ some (.frz ob u) := fun ob u z => by
          have z' := hH1.symm.trans z
          cases z'
        have S2 := Sim.putF (o := .frz od (.dK kx)) S1 nf nh hz2
        have fr : ∀ a, F1 a → orEq F1 p a ∧ upd H1 p (.frz od (.dK kx)) a = H1 a := fun a f => ⟨.inl f, upd_ne fun z => by subst z; exact nf f⟩
        exact h1 (.ref p) _ (orEq F1 p) (Step.putF (o := .frz od (.dK kx)) (st0.trans st1) hp) S2 (Rep.mkDict (.inr rfl) upd_same e2 (RepsP.keep fr _ _ e3))
      · exact h1.elim
end
end NL
end L2
/-! NL19: x = dict(..); if t: x["k"] = e. -/
namespace L2
namespace NL
open PySem PySem.Spec PyProof.Rows
theorem Sim.setNone {K : PySem.W.Frag} {c : Cf} (S : Sim K c) {i : Nat} {v : V} (hl : notLent c.n i = true) :
    let c' : Cf := ⟨c.n.set i none, c.s.set i (some v), c.H, c.F⟩; Sim K c' ∧ Step c c' := by
  intro c'
  obtain ⟨hi, nl⟩ := notLent_ok hl
  have old : ∀ j sl, (c.n.set i none)[j]? = some (some sl) → j ≠ i ∧ c.n[j]? = some (some sl) := fun j sl e => by
    by_cases hj : i = j
    · subst hj
      rw [List.getElem?_set_self hi] at e
      cases e
    · rw [List.getElem?_set_ne hj] at e
      exact ⟨fun z => hj z.symm, e⟩
  have oldS : ∀ {j a}, j ≠ i → (c.s.set i (some v))[j]? = some (some (V.ref a)) → c.s[j]? = some (some (V.ref a)) := fun hj e => by
    rw [List.getElem?_set_ne (Ne.symm hj)] at e; exact e
  have hd : ∀ a, c'.Hd a → c.Hd a := fun a ⟨j, sl, e, hh, es⟩ => let ⟨hj, e1⟩ := old j sl e; ⟨j, sl, e1, hh, oldS hj es⟩
  have ow : ∀ a, c'.Ow a → c.Ow a := fun a ⟨j, xs, e, es⟩ => let ⟨hj, e1⟩ := old j _ e; ⟨j, xs, e1, oldS hj es⟩
  refine ⟨⟨by simp [c', S.len], fun j sl e => ?_, fun j k sj sk a e1 e2 h1 h2 q1 q2 => ?_, S.fz⟩, ⟨fun _ _ _ => rfl, fun _ h => h, fun _ h => h, fun _ h => .inl h, fun a h => .inl (hd a h), fun a h => .inl (ow a h), fun j xs e => ?_, by simp [c']⟩⟩
  · obtain ⟨hj, e1⟩ := old j sl e
    obtain ⟨w, e2, r⟩ := S.slot j sl e1
    exact ⟨w, by show (c.s.set i (some v))[j]? = _; rw [List.getElem?_set_ne (Ne.symm hj)]; exact e2, r⟩
  · obtain ⟨hj, e1⟩ := old j sj e1
    obtain ⟨hk, e2⟩ := old k sk e2
    exact S.sep j k sj sk a e1 e2 h1 h2 (oldS hj q1) (oldS hk q2)
  · have hj : i ≠ j := fun z => by subst z; exact nl xs e
    exact ⟨xs, by show (c.n.set i _)[j]? = _; rw [List.getElem?_set_ne hj]; exact e, by show (c.s.set i _)[j]? = _; rw [List.getElem?_set_ne hj]⟩
theorem Sim.fill {K : PySem.W.Frag} {c : Cf} (S : Sim K c) {i : Nat} {d : PyData} {v : V} (hn : c.n[i]? = some none) (hs : c.s[i]? = some (some v)) (r : Rep K c.H c.F d v) :
    let c' : Cf := ⟨c.n.set i (some (.val d)), c.s, c.H, c.F⟩; Sim K c' ∧ Step c c' := by
  have hl : notLent c.n i = true := by unfold notLent; rw [hn]
  have e : c.s.set i (some v) = c.s := by
    apply List.ext_getElem?
    intro j
    by_cases hj : i = j
    · subst hj
      have hlt : i < c.s.length := (List.getElem?_eq_some_iff.mp hs).1
      rw [List.getElem?_set_self hlt, hs]
    · rw [List.getElem?_set_ne hj]
  have := S.setVal hl r
  rw [e] at this
  exact this
/-- the statements behind it, with the dict locked -/
def tLkS (i : Nat) (t : TS) : TS := fun D σ H => ∃ (d : Addr) (kx : List (Key × V)), σ[i]? = some (some (.ref d)) ∧ H d = some (.dK kx) ∧ ∀ od, t D σ (upd H d (.frz od (.dK kx)))
theorem pss_lock {X : Cx} {i : Nat} {st : List Stmt} {t : TS} (h : PSs X st t) : PSs X st (tLkS i t) := by
  refine ⟨fun pins s σ H D I ⟨d, kx, _, e, q⟩ => ?_⟩
  obtain ⟨od, I2⟩ := I.lock e trivial
  exact h.run pins s σ _ D I2 (q od)
def dPutP (kvs : List (PyData × PyData)) (k d : PyData) : List (PyData × PyData) :=
  if (kvs.any fun kv => isKey kv.1 k) = true then kvs.map (fun kv => if isKey kv.1 k = true then (kv.1, d) else kv) else kvs ++ [(k, d)]
theorem any_key {k : Key} : ∀ {kvs : List (PyData × PyData)} {kx : List (Key × V)}, kvs.map (·.1) = kx.map (fun p => keyD p.1) → (kvs.any fun kv => isKey kv.1 (keyD k)) = (kx.any fun kv => decide (kv.1 = k))
  | [], [], _ => rfl
  | [], _ :: _, h => by cases h
  | _ :: _, [], h => by cases h
  | (a, d) :: kvs, p :: kx, h => by
    rw [List.map_cons, List.map_cons, List.cons.injEq] at h
    obtain ⟨h1, h2⟩ := h
    have h1 : a = keyD p.1 := h1
    rw [List.any_cons, List.any_cons, any_key h2]
    dsimp only
    rw [h1, isKey_keyD]
theorem map_put {K : PySem.W.Frag} {H : Hp} {F : Fz} {k : Key} {d : PyData} {v : V} (rd : Rep K H F d v) : ∀ {kvs : List (PyData × PyData)} {kx : List (Key × V)}, kvs.map (·.1) = kx.map (fun p => keyD p.1) → RepsP K H F kvs (kx.map (·.2)) →
    (kvs.map (fun kv => if isKey kv.1 (keyD k) = true then (kv.1, d) else kv)).map (·.1) = (kx.map (fun kv => if kv.1 = k then (kv.1, v) else kv)).map (fun p => keyD p.1) ∧ RepsP K H F (kvs.map (fun kv => if isKey kv.1 (keyD k) = true then (kv.1, d) else kv)) ((kx.map (fun kv => if kv.1 = k then (kv.1, v) else kv)).map (·.2))
  | [], [], _, _ => ⟨rfl, by show RepsP K H F [] []; unfold RepsP; rfl⟩
  | [], _ :: _, h, _ => by cases h
  | _ :: _, [], h, _ => by cases h
  | (a, e) :: kvs, p :: kx, h, r => by
    rw [List.map_cons, List.map_cons, List.cons.injEq] at h
    obtain ⟨h1, h2⟩ := h
    have h1 : a = keyD p.1 := h1
    rw [List.map_cons] at r
    unfold RepsP at r
    obtain ⟨w, ws, e1, r1, r2⟩ := r
    cases e1
    unfold RepP at r1
    obtain ⟨q1, q2⟩ := map_put rd h2 r2
    have ek : isKey a (keyD k) = decide (p.1 = k) := by rw [h1, isKey_keyD]
    simp only [List.map_cons, ek] at q1 q2 ⊢
    by_cases hk : p.1 = k
    · simp only [hk, decide_true, if_true]
      refine ⟨?_, ?_⟩
      · rw [q1, h1, hk]
      · unfold RepsP
        refine ⟨v, _, rfl, ?_, q2⟩
        unfold RepP
        exact rd
    · simp only [hk, decide_false, if_false, Bool.false_eq_true]
      refine ⟨?_, ?_⟩
      · rw [q1, h1]
      · unfold RepsP
        refine ⟨p.2, _, rfl, ?_, q2⟩
        unfold RepP
        exact r1
theorem snoc_rep {K : PySem.W.Frag} {H : Hp} {F : Fz} {k : Key} {d : PyData} {v : V} (rd : Rep K H F d v) : ∀ {kvs : List (PyData × PyData)} {ws : List V}, RepsP K H F kvs ws → RepsP K H F (kvs ++ [(keyD k, d)]) (ws ++ [v])
  | [], ws, r => by
    unfold RepsP at r
    subst r
    show RepsP K H F [(keyD k, d)] [v]
    unfold RepsP
    refine ⟨v, [], rfl, ?_, ?_⟩
    · unfold RepP; exact rd
    · unfold RepsP; rfl
  | p :: kvs, ws, r => by
    unfold RepsP at r
    obtain ⟨w, us, rfl, r1, r2⟩ := r
    show RepsP K H F (p :: (kvs ++ [(keyD k, d)])) (w :: (us ++ [v]))
    unfold RepsP
    exact ⟨w, _, rfl, r1, snoc_rep rd r2⟩
theorem put_rep {K : PySem.W.Frag} {H : Hp} {F : Fz} {k : Key} {d : PyData} {v : V} (rd : Rep K H F d v) {kvs : List (PyData × PyData)} {kx : List (Key × V)} (h : kvs.map (·.1) = kx.map (fun p => keyD p.1)) (r : RepsP K H F kvs (kx.map (·.2))) :
    (dPutP kvs (keyD k) d).map (·.1) = (putK kx k v).map (fun p => keyD p.1) ∧ RepsP K H F (dPutP kvs (keyD k) d) ((putK kx k v).map (·.2)) := by
  unfold dPutP putK
  rw [any_key h]
  by_cases ha : (kx.any fun kv => decide (kv.1 = k)) = true
  · rw [if_pos ha, if_pos ha]
    exact map_put rd h r
  · rw [if_neg ha, if_neg ha]
    refine ⟨by rw [List.map_append, List.map_append, h]; rfl, ?_⟩
    rw [List.map_append]
    exact snoc_rep rd r
def freeSl (n : NSt) (i : Nat) : Bool := match n[i]? with
  | some none => true
  | _ => false
theorem freeSl_ok {n : NSt} {i : Nat} (h : freeSl n i = true) : n[i]? = some none := by
  unfold freeSl at h
  split at h
  · assumption
  · cases h
def sDictSet (i : Nat) (p : Opd) (t : NSt → R Bool) (k : Str) (fe : NExp) : NStm := fun n => (nDictOf p n).st fun d n1 => match d with
  | .dict kvs => if notLent n1 i = true ∧ kvs.length ≤ 1000 then (t (n1.set i none)).st fun b n2 => if b = true then (fe n2).st fun v n3 => if freeSl n3 i = true then .nx (n3.set i (some (.val (.dict (dPutP kvs (.str k) v))))) else .bad
      else if freeSl n2 i = true then .nx (n2.set i (some (.val (.dict kvs)))) else .bad
    else .bad
  | _ => .bad
section
variable {X : Cx} {W : WX}
theorem nss_dictSet (i : Nat) {x k : Str} {le te ve : Expr} {rest : List Stmt} {p : Opd} {t : NSt → R Bool} {fe : NExp} {g : NStm} {p0 p1 p2 p3 p4 pos ps1 ps2 ps3 : Pos} {j : Nat}
    (hu : X.A.units + 64 < cLine) (hN : X.N.Nodup) (hi : X.N[i]? = some x) (hx : Loc X.env.scope x) (hv : Vis X.env.scope x)
    (hc : X.calm = true) (hm : X.mg "dict" = none) (ha : NO X W le p) (ht : NT X W te t) (hfe : NE X W ve fe) (hr : NSs X W rest g)
    (hf : X.fn x = true ∨ X.env.scope.names.lookup x = some .local := by first | exact .inl rfl | exact .inr rfl | assumption) (hg : Gl X "dict" := by rfl)
    (he : starEach [le] X.env = (false, eval le X.env) :: starEach [] X.env := by rfl) (hpl : (backTo pos (starEach [] X.env)).any (·.1) = false := by rfl) (hb : bootBuiltins "dict" = some (.type "dict") := by decide +kernel)
    (hs1 : swapsWithSole [.Name x p1] (.Call (.Name "dict" p0) [le] [] pos) ps1.line X.env = pure false := by rfl) (hw1 : swappedStores [.Name x p1] (.Call (.Name "dict" p0) [le] [] pos) X.env = pure none := by rfl)
    (ha1 : (assignEach [.Name x p1] X.env).map (·.2) = [assign (.Name x p1) X.env] := by rfl)
    (hs2 : swapsWith ve (some (.Subscript (.Name x p2) (.Constant (.str k) j p3) p4)) ps2.line X.env = pure false := by rfl)
    (hd : (x == ("__debug__" : Str)) = false := by decide) (hcd : (x == ("__classdict__" : Str)) = false := by decide) :
    NSs X W (.Assign [.Name x p1] (.Call (.Name "dict" p0) [le] [] pos) ps1 :: .If te [.Assign [.Subscript (.Name x p2) (.Constant (.str k) j p3) p4] ve ps2] [] ps3 :: rest) (sSeq (sDictSet i p t k fe) g) := by
  obtain ⟨ta, pa, sa⟩ := ha.ex
  obtain ⟨tt, pt, st⟩ := ht.ex
  obtain ⟨tv, pv, sv⟩ := hfe.ex
  obtain ⟨tr, pr, sr⟩ := hr.ex
  refine ⟨_, pss_cons (ps_asg (pe_callTy (call_dictP hc) hg hm hb (pa_cons pa pa_nil he) (by decide) (by decide) he hpl) (pg_name hN hi hx hf) hs1 hw1 ha1) (pss_cons (ps_if pt (pss_one (ps_dput (by omega) (pe_var hi hv hd hcd) pe_str pv hs2)) pss_nil) (pss_lock (i := i) pr)), fun c D S h => ?_⟩
  have h : PstS X.K X.mg W c D ((sDictSet i p t k fe c.n).seq g) := h
  unfold sDictSet nDictOf at h
  refine sa c _ S ?_
  cases ep : p.run c.n with
  | err y n1 => rw [ep] at h; exact fun cls d H' F' s1 S1 r1 => h cls d c.s H' F' s1 S1 r1
  | bad => rw [ep] at h; exact h.elim
  | ok a n1 =>
    rw [ep] at h
    intro vx H1 F1 st1 S1 rx
    cases ea : a.get n1 with
    | none =>
      have h : PstS X.K X.mg W c D (((match a.get n1 with
        | some (.list xs) => match pairsOf xs with
          | some kvs => if distK kvs = true then R.ok (PyData.dict kvs) n1 else .bad
          | none => .bad
        | _ => .bad).st _).seq g) := h
      rw [ea] at h
      exact h.elim
    | some d =>
      have h : PstS X.K X.mg W c D (((match a.get n1 with
        | some (.list xs) => match pairsOf xs with
          | some kvs => if distK kvs = true then R.ok (PyData.dict kvs) n1 else .bad
          | none => .bad
        | _ => .bad).st _).seq g) := h
      rw [ea] at h
      cases d with
      | list xs =>
        obtain ⟨b, ws, rfl, hH, rr⟩ := (S1.avGet rx ea).list
        dsimp only at h
        cases epp : pairsOf xs with
        | none => rw [epp] at h; exact h.elim
        | some kvs =>
          rw [epp] at h
          dsimp only at h
          by_cases hdist : distK kvs = true
          · rw [if_pos hdist] at h
            obtain ⟨ps, kx, rfl, e2, e3, e4⟩ := pairs_reps epp rr
            refine ⟨b, ps, kx, rfl, SqL.of hH, e2, fun q hq => ?_⟩
            rw [merge_nil e3 hdist]
            have h : PstS X.K X.mg W c D ((if notLent n1 i = true ∧ kvs.length ≤ 1000 then (t (n1.set i none)).st fun b n2 => if b = true then (fe n2).st fun v n3 => if freeSl n3 i = true then .nx (n3.set i (some (.val (.dict (dPutP kvs (.str k) v))))) else .bad
                else if freeSl n2 i = true then .nx (n2.set i (some (.val (.dict kvs)))) else .bad
              else NR.bad).seq g) := h
            split at h
            · rename_i hz
              obtain ⟨hl, hlen⟩ := hz
              have hlk : kx.length ≤ 1000 := by
                have := congrArg List.length e3
                rw [List.length_map, List.length_map] at this
                omega
              -- the new dict, held by none
              obtain ⟨S2, st2⟩ := Sim.ext S1 (H' := upd H1 q (.dK kx)) (F' := F1) (upd_old hq) (fun _ h => h) fun a h => .inl h
              obtain ⟨S3, st3⟩ := Sim.setNone (K := X.K) (c := ⟨n1, c.s, upd H1 q (.dK kx), F1⟩) S2 (i := i) (v := .ref q) hl
              have cq : c.H q = none := Classical.byContradiction fun z => st1.live q z hq
              have stc3 := (st1.trans st2).trans st3
              have hq3 : (upd H1 q (.dK kx) : Hp) q ≠ none := by rw [upd_same]; simp
              have nf3 : ¬ F1 q := fun f => S1.fz q f hq
              have nh3 : ¬ (⟨n1.set i none, c.s.set i (some (.ref q)), upd H1 q (.dK kx), F1⟩ : Cf).Hd q := fun hd => by
                rcases st3.hd q hd with z | z
                · exact (S1.hdH (show (⟨n1, c.s, H1, F1⟩ : Cf).Hd q from z)) hq
                · exact hq3 z
              have hil : i < c.s.length := by
                have h1 := S1.len
                have h2 := (notLent_ok hl).1
                have h1' : n1.length = c.s.length := h1
                omega
              have hsi : (c.s.set i (some (V.ref q)))[i]? = some (some (.ref q)) := List.getElem?_set_self hil
              show tt (c.s.set i (some (.ref q))) (upd H1 q (.dK kx)) _
              -- the end, from any later point
              have fin : ∀ (n4 : NSt) (H4 : Hp) (F4 : Fz) (kvs' : List (PyData × PyData)) (ky : List (Key × V)) (od : Obj), Step ⟨n1.set i none, c.s.set i (some (.ref q)), upd H1 q (.dK kx), F1⟩ ⟨n4, c.s.set i (some (.ref q)), H4, F4⟩ → Sim X.K ⟨n4, c.s.set i (some (.ref q)), H4, F4⟩ →
                  n4[i]? = some none → kvs'.map (·.1) = ky.map (fun p => keyD p.1) → RepsP X.K H4 F4 kvs' (ky.map (·.2)) → PstS X.K X.mg W c D (g (n4.set i (some (.val (.dict kvs'))))) → tr D (c.s.set i (some (.ref q))) (upd H4 q (.frz od (.dK ky))) := by
                intro n4 H4 F4 kvs' ky od st4 S4 hn4 hk4 r4 hg4
                have hH4 : H4 q = some (.dK kx) := (st4.keep q hq3 nh3).trans upd_same
                have nf : ¬ F4 q := fun f => by
                  rcases st4.fn q f with z | z | z
                  · exact nf3 z
                  · exact hq3 z
                  · exact nh3 z.hd
                have nh : ¬ (⟨n4, c.s.set i (some (.ref q)), H4, F4⟩ : Cf).Hd q := fun hd => by
                  rcases st4.hd q hd with z | z
                  · exact nh3 z
                  · exact hq3 z
                have hzz : ∀ ob u, (⟨n4, c.s.set i (some (.ref q)), H4, F4⟩ : Cf).H q ≠ some (.frz ob u) := fun ob u z => by
                  have z' := hH4.symm.trans z
                  cases z'
                have S5 := Sim.putF (o := .frz od (.dK ky)) S4 nf nh hzz
                have st5 := Step.putF (o := .frz od (.dK ky)) (stc3.trans st4) cq
                have fr : ∀ a, F4 a → orEq F4 q a ∧ upd H4 q (.frz od (.dK ky)) a = H4 a := fun a f => ⟨.inl f, upd_ne fun z => by subst z; exact nf f⟩
                obtain ⟨S6, st6⟩ := Sim.fill (K := X.K) (c := ⟨n4, c.s.set i (some (.ref q)), upd H4 q (.frz od (.dK ky)), orEq F4 q⟩) S5 (i := i) (d := .dict kvs') hn4 hsi (Rep.mkDict (.inr rfl) upd_same hk4 (RepsP.keep fr _ _ r4))
                exact sr ⟨n4.set i (some (.val (.dict kvs'))), c.s.set i (some (.ref q)), upd H4 q (.frz od (.dK ky)), orEq F4 q⟩ D S6 (PstS.step (c := c) (c1 := ⟨n4.set i (some (.val (.dict kvs'))), c.s.set i (some (.ref q)), upd H4 q (.frz od (.dK ky)), orEq F4 q⟩) (st5.trans st6) hg4)
              refine st ⟨n1.set i none, c.s.set i (some (.ref q)), upd H1 q (.dK kx), F1⟩ _ S3 ?_
              show Pst _ _ _ _ _ _ (t (n1.set i none))
              cases et : t (n1.set i none) with
              | err y n2 => rw [et] at h; exact fun cls d H' F' s1 S1' r1 => h cls d _ H' F' (stc3.trans s1) S1' r1
              | bad => rw [et] at h; exact h.elim
              | ok bb n2 =>
                rw [et] at h
                intro bb' H5 F5 st5 S5 rb
                cases rb
                have st3' : Step (⟨n1.set i none, c.s.set i (some (.ref q)), upd H1 q (.dK kx), F1⟩ : Cf) ⟨n2, c.s.set i (some (.ref q)), H5, F5⟩ := st5
                have h : PstS X.K X.mg W c D ((if bb = true then (fe n2).st fun v n3 => if freeSl n3 i = true then .nx (n3.set i (some (.val (.dict (dPutP kvs (.str k) v))))) else .bad
                  else if freeSl n2 i = true then NR.nx (n2.set i (some (.val (.dict kvs)))) else .bad).seq g) := h
                have e4' : RepsP X.K (upd H1 q (.dK kx)) F1 kvs (kx.map (·.2)) := RepsP.keep (st2.frz S1) _ _ e4
                cases bb with
                | false =>
                  refine iteF ?_
                  simp only [Bool.false_eq_true, if_false] at h
                  by_cases hn2 : freeSl n2 i = true
                  · rw [if_pos hn2] at h
                    have hH5 : H5 q = some (.dK kx) := (st5.keep q hq3 nh3).trans upd_same
                    refine ⟨q, kx, hsi, hH5, fun od => ?_⟩
                    exact fin n2 H5 F5 kvs kx od st5 S5 (freeSl_ok hn2) e3 (RepsP.keep (st5.frz S3) _ _ e4') h
                  · rw [if_neg hn2] at h
                    exact h.elim
                | true =>
                  refine iteT ?_
                  simp only [if_true] at h
                  refine sv ⟨n2, c.s.set i (some (.ref q)), H5, F5⟩ _ S5 ?_
                  show Pst _ _ _ _ _ _ (fe n2)
                  cases ef : fe n2 with
                  | err y n3 => rw [ef] at h; exact fun cls d H' F' s1 S1' r1 => h cls d _ H' F' ((stc3.trans st5).trans s1) S1' r1
                  | bad => rw [ef] at h; exact h.elim
                  | ok dv n3 =>
                    rw [ef] at h
                    intro vv H6 F6 st6 S6 r6
                    have h : PstS X.K X.mg W c D ((if freeSl n3 i = true then NR.nx (n3.set i (some (.val (.dict (dPutP kvs (.str k) dv))))) else .bad).seq g) := h
                    by_cases hn3 : freeSl n3 i = true
                    · rw [if_pos hn3] at h
                      have st56 : Step (⟨n1.set i none, c.s.set i (some (.ref q)), upd H1 q (.dK kx), F1⟩ : Cf) ⟨n3, c.s.set i (some (.ref q)), H6, F6⟩ := st5.trans st6
                      have hH6 : H6 q = some (.dK kx) := (st56.keep q hq3 nh3).trans upd_same
                      have r6' : RepsP X.K H6 F6 kvs (kx.map (·.2)) := RepsP.keep (st56.frz S3) _ _ e4'
                      obtain ⟨w1, w2⟩ := put_rep (k := .inr k) r6 e3 r6'
                      refine ⟨.ref q, hsi, q, upd H6 q (.dK (putK kx (.inr k) vv)), rfl, .inl ⟨kx, .inr k, hH6, rfl, Nat.lt_of_le_of_lt hlk (by rw [sizeLine_eq]; decide), rfl⟩, ?_⟩
                      refine ⟨q, putK kx (.inr k) vv, hsi, upd_same, fun od => ?_⟩
                      rw [upd_upd]
                      exact fin n3 H6 F6 (dPutP kvs (.str k) dv) (putK kx (.inr k) vv) od st56 S6 (freeSl_ok hn3) w1 w2 h
                    · rw [if_neg hn3] at h
                      exact h.elim
            · exact h.elim
          · rw [if_neg hdist] at h
            exact h.elim
      | _ => exact h.elim
end
end NL
end L2
/-! NL20: enumerate of a list or a tuple. -/
namespace L2
open PySem PySem.Spec PyProof.Rows
theorem meets_enumerate_newB1 {v : Value} {o : Obj} {H : Heap → Prop} (B : Begins v o H) :
    Meets (Builtin.«enumerate.__new__» ⟨[.type "enumerate", v], []⟩) (fun _ R s => H s.heap ∧
      R (.ok (.ret (.ref (s.heap.push o).objs.size))) { s with heap := (s.heap.push o).push { cls := .type "enumerate", data := .fields #[.none, .bool false, .ref s.heap.objs.size, rawInt 0, .none, .none] } }) :=
  .of_wp fun prog w A R s h => by
    obtain ⟨hp, g, d, tk, os⟩ := s; obtain ⟨h1, h⟩ := h
    have hsub := sub_enumerate
    have q1 : ∀ {A' : Around} {E : Value → Shared → Prop} {Q : Value → Shared → Prop}, Q (.ref hp.objs.size) ⟨hp.push o, g, d, tk, os⟩ → wpAny (model prog w) A' (pyIter v) Q E ⟨hp, g, d, tk, os⟩ :=
      fun q => B.iter prog w _ _ ⟨hp, g, d, tk, os⟩ _ h1 q
    wp_walk using q1
    refine wpAny_stack_any fun st => wpAny_pure ?_
    split
    · rename_i c _ _ _ _ _
      cases (c == Value.type "enumerate")
      · wp_walk using q1
        exact ⟨_, rfl, h⟩
      · wp_walk using q1
        exact ⟨_, rfl, h⟩
    · wp_walk using q1
      exact ⟨_, rfl, h⟩
section
variable {prog : Program} {w : World} {A : Around} {E : Value → Shared → Prop} {s : Shared}
theorem enum_begins1 {v : Value} {o : Obj} {H : Heap → Prop} {Q : Value → Shared → Prop} (B : Begins v o H) (h1 : H s.heap)
    (h : ∀ h', IsEnum h' (s.heap.objs.size + 1) s.heap.objs.size 0 .none → h'.get? s.heap.objs.size = some o → h'.objs.size = s.heap.objs.size + 2 →
      (∀ b o, s.heap.get? b = some o → h'.get? b = some o) → Q (.ref (s.heap.objs.size + 1)) { s with heap := h' }) :
    wpAny (model prog w) A (call (.type "enumerate") [v]) Q E s := by
  refine callType_new F.called_enumerate (by decide) (F.typeCall_enumerate_1 _) (F.newCall_enumerate_1 _) (fun obj => F.args_object_init_2 obj _) F.entry_enumerate_new
    (meets_enumerate_newB1 B) ⟨h1, ?_⟩
  have hz : (s.heap.push o).objs.size = s.heap.objs.size + 1 := Heap.size_push ..
  show _ ∧ _
  rw [hz]
  have he : IsEnum ((s.heap.push o).push { cls := .type "enumerate", data := .fields #[.none, .bool false, .ref s.heap.objs.size, rawInt 0, .none, .none] }) (s.heap.objs.size + 1) s.heap.objs.size 0 .none := by
    have := Heap.get?_push_size (s.heap.push o) (o := { cls := .type "enumerate", data := .fields #[.none, .bool false, .ref s.heap.objs.size, rawInt 0, .none, .none] }) rfl
    rw [hz] at this; exact this
  refine ⟨⟨_, he, rfl⟩, h _ he (Heap.get?_push_of_some _ (Heap.get?_push_size _ B.free)) (by rw [Heap.size_push, hz]) fun b o x => Heap.get?_push_of_some _ (Heap.get?_push_of_some _ x)⟩
end
section
variable {prog : Program} {w : World} {A : Around} {E : Value → Shared → Prop} {s : Shared}
theorem pyNext_enumT_end {e it t : Addr} {i : Nat} {items : Array Value} {old : Value} {Q : Option Value → Shared → Prop} (hh : A.handled = none)
    (he : IsEnum s.heap e it i old) (hit : s.heap.IsTupleIter it t i) (ht : s.heap.IsTuple t items) (hx : items[i]? = none)
    (hQ : ∀ h', Heap.ExtBut it s.heap h' → Q none { s with heap := h' }) : wpAny (model prog w) A (pyNext (.ref e)) Q E s := by
  have hT : s.TypeIs (.ref e) "enumerate" := ⟨_, he, rfl⟩
  unfold pyNext
  refine wpAny_bind (wpAny_attempt (wpAny_callSpecial?_slot (name := Str.ofString "__next__") hT F.slot_enumerate_next
    (wpAny_call_entry F.slot_enumerate_next hT F.entry_enumerate_next ?_ (F.args_enumerate_next_1 _))))
  show wpAny _ _ (field (.ref e) 2 >>= _) _ _ _
  refine wpAny_bind (wpAny_field he rfl (x := .ref it) rfl ?_)
  refine wpAny_bind (wpAny_nextOf_tuple_end (show A.in1.handled = none from hh) hit ht hx fun h' x he' hx' => ?_)
  obtain ⟨o, ho, hc⟩ := hx'
  refine wpAny_bind (wpAny_isInstance (T := "StopIteration") (b := true) ⟨o, ho, hc⟩ isSubtype_stop ?_)
  exact wpAny_pure (hQ _ he')
end
/-- the tuple at a, each item in a new pair -/
def IteT (K : PySem.W.Frag) (a : Addr) : It :=
  ⟨fun i H => ∃ (xs : List V) (x : V), SqT K H a xs ∧ xs[i]? = some x, fun i H v H' => ∃ T x, v = .ref T ∧ H T = none ∧ H' = upd H T (.tup [.int (i : Nat), x]) ∧ ∀ xs, SqT K H a xs → xs[i]? = some x, fun i H => ∃ xs : List V, SqT K H a xs ∧ xs.length ≤ i⟩
theorem turn_enumT {P : Program} {w : World} {K : PySem.W.Frag} {elts : List Expr} {kk : Nat} {tpos : Pos} (a e it : Addr) :
    Turn P w K (.Tuple elts kk tpos) (IteT K a) [e, it] e (fun i h => (∃ old, IsEnum h e it ((i : Nat) : Int) old) ∧ h.IsTupleIter it a i ∧ e ≠ it ∧ e ≠ a ∧ a ≠ it) where
  mem := by simp
  obj := fun i h st b hb => by
    obtain ⟨⟨old, he⟩, ⟨o, ho, hc, hd⟩, _⟩ := st
    have e' : b = e ∨ b = it := by simpa using hb
    rcases e' with z | z
    · rw [z]; exact ⟨_, he, fun v q => nomatch q⟩
    · rw [z]; exact ⟨o, ho, fun v q => by rw [hd] at q; cases q⟩
  keep := fun i h h' st k => let ⟨⟨old, he⟩, hi, hne⟩ := st; ⟨⟨old, k e (by simp) _ he⟩, hi.at fun o q => k it (by simp) o q, hne⟩
  item := by
    intro X hP hw hK hc i pins s σ H E I hf st hg
    subst hP hw hK
    obtain ⟨⟨old, he⟩, hit, hne, hea, hai⟩ := st
    obtain ⟨xs, x, hq, hx⟩ := hg
    obtain ⟨its, rv, p, hz⟩ := I.tuple hq
    obtain ⟨u, hu, ru⟩ := rv.get hx
    have hel : e < s.heap.objs.size := Heap.lt_size he
    have hil : it < s.heap.objs.size := by obtain ⟨_, q, _⟩ := hit; exact Heap.lt_size q
    have hlt : i < its.toArray.size := by
      rcases Nat.lt_or_ge i its.toArray.size with q | q
      · exact q
      · have : its[i]? = none := by rw [List.getElem?_eq_none]; simpa using q
        rw [this] at hu; cases hu
    refine wpAny_pyNext_enum_itemD (Draws.tuple (A := X.A.in1) (show X.A.in1.handled = none from I.ok.hd hc) it a hai its.toArray) he ⟨hit, p⟩ hlt hne (by simp [hne, hea]) fun u' h' tk hP' ho hst' hT hsz hk => ?_
    have hP'' : its[i]? = some u' := by simpa using hP'
    rw [hu] at hP''
    cases hP''
    refine ⟨_, rfl, wpAny_letOwnedTupleGo_enum (s := { s with heap := h', toks := tk + 1 }) ho fun h'' he' sb => ?_⟩
    have hT2 : h''.get? s.heap.objs.size = some { cls := .type "tuple", data := .seq #[.int i tk, u] } := (sb.2 _ (Nat.ne_of_gt hel)).trans hT
    have new : ObjOk X.prog X.w (upd H s.heap.objs.size (.tup [.int (i : Nat), x])) h'' s.heap.objs.size (.tup [.int (i : Nat), x]) :=
      ⟨by show 2 ≤ sizeLine; decide, [.int i tk, u], .cons ⟨_, rfl⟩ (.cons ru .nil), ⟨_, hT2, rfl, _, rfl⟩⟩
    have I1 : Inv X pins σ (upd H s.heap.objs.size (.tup [.int (i : Nat), x])) { s with heap := h'', toks := tk + 1 } :=
      I.turnedNew (ch := [e, it]) (fun b ob hb q => (sb.2 b (fun z => hb (by simp [z]))).trans (hk b ob (fun z => hb (by simp [z])) (fun z => hb (by simp [z])) q)) hf (Nat.le_refl _) new
    refine ⟨.ref s.heap.objs.size, _, I1, rfl, ⟨_, x, rfl, I.hok.fresh (Nat.le_refl _), rfl, fun ys hy => by rw [I.tuple_inj hy hq]; exact hx⟩, ⟨⟨u, ?_⟩, hst'.1.at fun o q => (sb.2 it (Ne.symm hne)).trans q, hne, hea, hai⟩, fun b hb => ?_⟩
    · have e1 : ((i + 1 : Nat) : Int) = (i : Int) + 1 := by omega
      rw [e1]; exact he'
    · have hb' : b < s.heap.objs.size := by
        have e' : b = e ∨ b = it := by simpa using hb
        rcases e' with z | z
        · rw [z]; exact hel
        · rw [z]; exact hil
      rw [upd_ne (Nat.ne_of_lt hb')]
      exact (hf b hb).1
  done := by
    intro X hP hw hK hc i pins s σ H E I hf st hg
    subst hP hw hK
    obtain ⟨⟨old, he⟩, hit, hne, hea, hai⟩ := st
    obtain ⟨xs, hq, hx⟩ := hg
    obtain ⟨its, rv, p, hz⟩ := I.tuple hq
    obtain ⟨f0, f1, f2, f3, f4, f5⟩ := hf it (by simp)
    have hl := rv.length
    exact pyNext_enumT_end (I.ok.hd hc) he hit p (by simp; omega) fun h' eb => ⟨rfl, I.turned (t' := s.toks) (fun b o hb q => eb b o hb q) f0 f1 f3 f4 f5⟩
  self := fun A i s Q E st h => let ⟨⟨_, he⟩, _⟩ := st; wpAny_pyIter_enum he h
def iEnum2 (K : PySem.W.Frag) (ta : TA) : TI := fun σ H R => ta σ H fun vs H1 => ∃ a xs, vs = [.ref a] ∧ ((SqL K H1 a xs ∧ R (Ite K a) H1) ∨ (SqT K H1 a xs ∧ R (IteT K a) H1))
theorem pi_enum2 {X : Cx} {e : Expr} {ta : TA} {p pos tpos : Pos} {elts : List Expr} {kk : Nat} (hg : Gl X "enumerate") (hm : X.mg "enumerate" = none) (ha : PA X [e] ta) (hs : starEach [e] X.env = [(false, eval e X.env)] := by rfl) :
    PI X (.Tuple elts kk tpos) (.Call (.Name "enumerate" p) [e] [] pos) (iEnum2 X.K ta) := by
  refine ⟨fun pins s σ H R I h => ?_⟩
  refine Call_ (ld_blt I hg hm boot_enumerate (PyProof.Rows.callWith_type1 (thn (ha.run pos pins s σ H _ I h) fun us s1 ⟨vs, H1, I1, r1, q1⟩ => ?_) hs rfl))
  obtain ⟨a, xs, ex, hq⟩ := q1
  subst ex
  cases r1 with
  | cons r rr =>
    cases rr
    cases r
    have fpk : ∀ {h' : Heap}, (∀ b o, s1.heap.get? b = some o → h'.get? b = some o) → ∀ b ∈ [s1.heap.objs.size + 1, s1.heap.objs.size], FpOk X pins H1 b := fun {h'} hk b hb => by
      have e' : b = s1.heap.objs.size + 1 ∨ b = s1.heap.objs.size := by simpa using hb
      have hle : s1.heap.objs.size ≤ b := by
        rcases e' with z | z
        · rw [z]; exact Nat.le_add_right _ _
        · rw [z]; exact Nat.le_refl _
      exact I1.fpOk hle (I1.hok.fresh hle)
    rcases hq with ⟨hq, q⟩ | ⟨hq, q⟩
    · obtain ⟨its, rv, p', hz⟩ := I1.list hq
      refine call_enumerate_list p'.isList fun h' he hit hsz hk => wpAny_pyIter_enum he ?_
      have I2 : Inv X pins σ H1 { s1 with heap := h' } := I1.kept (t' := s1.toks) hk
      exact ⟨s1.heap.objs.size + 1, [s1.heap.objs.size + 1, s1.heap.objs.size], _, _, H1, rfl, I2, turn_enum a (s1.heap.objs.size + 1) s1.heap.objs.size, ⟨⟨.none, he⟩, hit, Nat.succ_ne_self _⟩, fpk hk, q⟩
    · obtain ⟨its, rv, p', hz⟩ := I1.tuple hq
      refine enum_begins1 (begins_tuple a its.toArray) p' fun h' he hit hsz hk => wpAny_pyIter_enum he ?_
      have I2 : Inv X pins σ H1 { s1 with heap := h' } := I1.kept (t' := s1.toks) hk
      have ha' : a < s1.heap.objs.size := by obtain ⟨_, z, _⟩ := p'; exact Heap.lt_size z
      exact ⟨s1.heap.objs.size + 1, [s1.heap.objs.size + 1, s1.heap.objs.size], _, _, H1, rfl, I2, turn_enumT a (s1.heap.objs.size + 1) s1.heap.objs.size, ⟨⟨.none, he⟩, ⟨_, hit, rfl, rfl⟩, Nat.succ_ne_self _, Nat.ne_of_gt (Nat.lt_succ_of_lt ha'), Nat.ne_of_lt ha'⟩, fpk hk, q⟩
namespace NL
section
variable {X : Cx} {W : WX}
def iEn2 (f : NSt → R (List AV)) : NSt → R (List PyData) := fun n => (f n).bind fun as n' => match as with
  | [.v (.list xs)] => .ok (enumD 0 xs) n'
  | [.v (.tuple xs)] => .ok (enumD 0 xs) n'
  | _ => .bad
theorem ni_enum2 {a : Expr} {fs : NSt → R (List AV)} {p pos tpos : Pos} {elts : List Expr} {kk : Nat} (hm : X.mg "enumerate" = none) (ha : NA X W [a] fs) (hg : Gl X "enumerate" := by rfl) (hs : starEach [a] X.env = [(false, eval a X.env)] := by rfl) :
    NI X W (.Tuple elts kk tpos) (.Call (.Name "enumerate" p) [a] [] pos) (iEn2 fs) := by
  obtain ⟨t, pa, s⟩ := ha.ex
  refine ⟨iEnum2 X.K t, pi_enum2 hg hm pa hs, fun c Q S q => ?_⟩
  refine s c _ S (Pst.seq (rel := relA X.K) (rel' := fun _ c1 ds J => Gives X.K J ds c1) mono_I q fun as n' vs H' F' _ st S' r q' => ?_)
  split at q'
  · rename_i xs _
    cases r with
    | cons r1 rr =>
      cases rr
      obtain ⟨a, us, rfl, fa, ha', ra⟩ := Rep.list (K := X.K) (H := H') (F := F') r1
      refine ⟨a, us, rfl, .inl ⟨SqL.of ha', q' (Ite X.K a) H' F' (Step.refl _) S' fun c2 st2 S2 i hi => ?_⟩⟩
      have ha2 : SqL X.K c2.H a us := SqL.of ((st2.frz S' a fa).2.trans ha')
      refine ⟨fun d ed => ?_, fun e => ⟨us, ha2, by rw [ra.length]; rw [enumD_len] at e; omega⟩⟩
      rw [enumD_get] at ed
      cases e1 : xs[i]? with
      | none => rw [e1] at ed; cases ed
      | some x =>
        rw [e1] at ed
        cases ed
        obtain ⟨u, eu, ru⟩ := (st2.reps S' ra).get e1
        refine ⟨⟨us, u, ha2, eu⟩, fun v H2 ⟨T, u', e3, hT, e4, e5⟩ => ?_⟩
        have e5' := e5 us ha2
        rw [eu] at e5'
        cases e5'
        subst e3 e4
        have e0 : 0 + i = i := Nat.zero_add i
        rw [e0]
        obtain ⟨h1, h2, h3⟩ := S2.newTup (p := T) hT (Reps.cons (Rep.mkInt (i := (i : Int))) (Reps.cons ru Reps.nil))
        exact ⟨_, h2, h1, h3⟩
  · rename_i xs _
    cases r with
    | cons r1 rr =>
      cases rr
      have r1' : Rep X.K H' F' (.tuple xs) _ := r1
      unfold Rep at r1'
      obtain ⟨a, us, rfl, fa, ra⟩ := r1'
      have sq : ∀ c2 : Cf, Step ⟨n', c.s, H', F'⟩ c2 → SqT X.K c2.H a us := fun c2 st2 => by
        rcases fa with ⟨f, h⟩ | f
        · exact SqT.of ((st2.frz S' a f).2.trans h)
        · exact f _
      refine ⟨a, us, rfl, .inr ⟨sq _ (Step.refl _), q' (IteT X.K a) H' F' (Step.refl _) S' fun c2 st2 S2 i hi => ?_⟩⟩
      have ha2 := sq c2 st2
      refine ⟨fun d ed => ?_, fun e => ⟨us, ha2, by rw [ra.length]; rw [enumD_len] at e; omega⟩⟩
      rw [enumD_get] at ed
      cases e1 : xs[i]? with
      | none => rw [e1] at ed; cases ed
      | some x =>
        rw [e1] at ed
        cases ed
        obtain ⟨u, eu, ru⟩ := (st2.reps S' ra).get e1
        refine ⟨⟨us, u, ha2, eu⟩, fun v H2 ⟨T, u', e3, hT, e4, e5⟩ => ?_⟩
        have e5' := e5 us ha2
        rw [eu] at e5'
        cases e5'
        subst e3 e4
        have e0 : 0 + i = i := Nat.zero_add i
        rw [e0]
        obtain ⟨h1, h2, h3⟩ := S2.newTup (p := T) hT (Reps.cons (Rep.mkInt (i := (i : Int))) (Reps.cons ru Reps.nil))
        exact ⟨_, h2, h1, h3⟩
  · exact q'.elim
end
end NL
end L2
/-! NL21: slots that are read no more are forgotten. -/
namespace L2
namespace NL
open PySem PySem.Spec PyProof.Rows
/-- a slot is forgotten, if it is none of the caller's -/
def drop1 (n : NSt) (v : Nat) : NSt := match n[v]? with
  | some (some (.val _)) => n.set v none
  | some (some (.own _)) => n.set v none
  | _ => n
def dropN (n : NSt) : List Nat → NSt
  | [] => n
  | v :: vs => dropN (drop1 n v) vs
def sDrop (vs : List Nat) (f : NStm) : NStm := fun n => match f n with
  | .nx n' => .nx (dropN n' vs)
  | .ct n' => .ct (dropN n' vs)
  | r => r
section
variable {K : PySem.W.Frag}
theorem Sim.drop1 {c : Cf} (S : Sim K c) (i : Nat) : Sim K ⟨drop1 c.n i, c.s, c.H, c.F⟩ ∧ Step c ⟨drop1 c.n i, c.s, c.H, c.F⟩ := by
  have key : (∀ xs, c.n[i]? ≠ some (some (.lent xs))) → i < c.n.length → Sim K ⟨c.n.set i none, c.s, c.H, c.F⟩ ∧ Step c ⟨c.n.set i none, c.s, c.H, c.F⟩ := fun nl hi => by
    have sub : ∀ (j : Nat) (sl : Sl), (c.n.set i none)[j]? = some (some sl) → c.n[j]? = some (some sl) ∧ i ≠ j := fun j sl q => by
      by_cases h : i = j
      · subst h
        rw [List.getElem?_set_self hi] at q
        cases q
      · rw [List.getElem?_set_ne h] at q
        exact ⟨q, h⟩
    refine ⟨⟨by simp [S.len], fun j sl e => S.slot j sl (sub j sl e).1, fun j k sj sk a e1 e2 h1 h2 q1 q2 => S.sep j k sj sk a (sub j sj e1).1 (sub k sk e2).1 h1 h2 q1 q2, S.fz⟩,
      ⟨fun _ _ _ => rfl, fun _ h => h, fun _ h => h, fun _ h => .inl h, fun a h => .inl ?_, fun a h => .inl ?_, fun j xs e => ⟨xs, ?_, rfl⟩, by simp⟩⟩
    · obtain ⟨j, sl, e, hh, es⟩ := h
      exact ⟨j, sl, (sub j sl e).1, hh, es⟩
    · obtain ⟨j, sl, e, es⟩ := h
      exact ⟨j, sl, (sub j _ e).1, es⟩
    · have hj : i ≠ j := fun z => by subst z; exact nl xs e
      show (c.n.set i none)[j]? = _
      rw [List.getElem?_set_ne hj]
      exact e
  unfold L2.NL.drop1
  split
  · rename_i d e
    exact key (fun xs h => by rw [e] at h; cases h) (lt_of_get e)
  · rename_i d e
    exact key (fun xs h => by rw [e] at h; cases h) (lt_of_get e)
  · exact ⟨S, Step.refl c⟩
theorem Sim.dropN {s : St} {H : Hp} {F : Fz} : ∀ (vs : List Nat) {n : NSt}, Sim K ⟨n, s, H, F⟩ → Sim K ⟨dropN n vs, s, H, F⟩ ∧ Step ⟨n, s, H, F⟩ ⟨dropN n vs, s, H, F⟩
  | [], n, S => ⟨S, Step.refl _⟩
  | v :: vs, n, S => by
    obtain ⟨S1, t1⟩ := Sim.drop1 S v
    obtain ⟨S2, t2⟩ := Sim.dropN vs S1
    exact ⟨S2, t1.trans t2⟩
theorem psts_drop {mg : Str → Option Value} {W : WX} {c : Cf} {D : Ends} {vs : List Nat} {f : NStm} (h : PstS K mg W c D (sDrop vs f c.n)) : PstS K mg W c D (f c.n) := by
  unfold sDrop at h
  cases e : f c.n with
  | nx n' =>
    rw [e] at h
    intro σ' H' F' st S
    obtain ⟨S2, t2⟩ := Sim.dropN vs S
    exact h σ' H' F' (st.trans t2) S2
  | ct n' =>
    rw [e] at h
    intro σ' H' F' st S
    obtain ⟨S2, t2⟩ := Sim.dropN vs S
    exact h σ' H' F' (st.trans t2) S2
  | ret d n' => rw [e] at h; exact h
  | brk n' => rw [e] at h; exact h
  | err x n' => rw [e] at h; exact h
  | bad => rw [e] at h; exact h
end
section
variable {X : Cx} {W : WX} {st : Stmt} {sts : List Stmt} {f : NStm}
theorem ns_drop (vs : List Nat) (h : NS X W st f) : NS X W st (sDrop vs f) := by
  obtain ⟨t, p, s⟩ := h.ex
  exact ⟨t, p, fun c D S q => s c D S (psts_drop q)⟩
theorem nss_drop (vs : List Nat) (h : NSs X W sts f) : NSs X W sts (sDrop vs f) := by
  obtain ⟨t, p, s⟩ := h.ex
  exact ⟨t, p, fun c D S q => s c D S (psts_drop q)⟩
end
end NL
end L2
/-! NL22: texts of ints, f-strings, join, list(range), range with a step. -/
namespace L2
namespace NL
open PySem PySem.Spec PyProof.Rows
/-! ### str(int) -/
def bStr (ds : List PyData) : Option PyData := match ds with
  | [.int i] => if i.natAbs.log2 < 1920 then some (.str (toString i)) else none
  | _ => none
section
variable {X : Cx} {W : WX} {e e2 : Expr} {f g : NExp} {p q : Opd} {pos : Pos}
theorem cn_str : CallN X (fun xs H Q => ∃ i, xs = [.int i] ∧ i.natAbs.log2 < 1920 ∧ Q (.str (toString i)) H) bStr := by
  intro c ds z vs Q S r e h
  unfold bStr at e
  split at e
  · rename_i i
    split at e
    · rename_i hz
      cases e
      cases r with
      | cons r1 rr =>
        cases rr
        have e1 := r1.int
        subst e1
        exact ⟨i, rfl, hz, fin0 S h Rep.mkStr⟩
    · cases e
  · cases e
/-! ### a method of a text, one argument -/
def SmR (X : Cx) (r : V → List V → Hp → VK → Prop) (o : Str → PyData → Option PyData) : Prop := ∀ (c : Cf) (x : Str) (y z : PyData) (u : V) (Q : VK), Sim X.K c → Rep1 X.K c.H c.F y u → o x y = some z →
  (∀ v H' F', Step c ⟨c.n, c.s, H', F'⟩ → Sim X.K ⟨c.n, c.s, H', F'⟩ → Rep X.K H' F' z v → Q v H') → r (.str x) [u] c.H Q
def nSm1 (o : Str → PyData → Option PyData) (f : NExp) (q : Opd) : NExp := fun n => (f n).bind fun d n1 => match d with
  | .str x => (q.run n1).bind fun b n2 => match b.get n2 with
    | some y => liftO (o x y) n2
    | none => .bad
  | _ => .bad
theorem sm1_st {ta tb : TE} {o : Str → PyData → Option PyData} {r : V → List V → Hp → VK → Prop} (sa : ∀ (c : Cf) (Q : VK), Sim X.K c → Pst X.K X.mg W (relE X.K) c Q (f c.n) → ta c.s c.H Q)
    (sb : ∀ (c : Cf) (Q : VK), Sim X.K c → Pst X.K X.mg W (relV X.K) c Q (q.run c.n) → tb c.s c.H Q) (no : SmR X r o) {c : Cf} {Q : VK} (S : Sim X.K c) (h : Pst X.K X.mg W (relE X.K) c Q (nSm1 o f q c.n)) : tM1 r ta tb c.s c.H Q := by
  refine sa c _ S (Pst.seq (rel := relE X.K) mono_E h fun d n1 vx H1 F1 _ st1 S1 rx h1 => ?_)
  cases d with
  | str x =>
    have e1 := Rep.str (K := X.K) (H := H1) (F := F1) rx
    subst e1
    refine ⟨⟨x, rfl⟩, sb ⟨n1, c.s, H1, F1⟩ _ S1 (Pst.seq (rel := relV X.K) mono_E h1 fun b n2 vy H2 F2 _ st2 S2 ry h2 => ?_)⟩
    cases eb : b.get n2 with
    | none => rw [eb] at h2; exact h2.elim
    | some y =>
      rw [eb] at h2
      dsimp only at h2
      cases eo : o x y with
      | none => rw [eo] at h2; exact h2.elim
      | some z =>
        rw [eo] at h2
        exact no ⟨n2, c.s, H2, F2⟩ x y z vy Q S2 (S2.avGet ry eb) eo fun v H' F' st' S' r' => h2 v H' F' st' S' r'
  | _ => exact h1.elim
def strL : List PyData → Option (List Str)
  | [] => some []
  | .str x :: ds => (strL ds).map (x :: ·)
  | _ :: _ => none
def oJoin (a : Str) (y : PyData) : Option PyData := match y with
  | .list ds => (strL ds).bind fun ys => if (ys.map (·.length)).sum + ys.length * a.length ≤ 16777216 then some (.str (Txt.join a ys)) else none
  | .tuple ds => (strL ds).bind fun ys => if (ys.map (·.length)).sum + ys.length * a.length ≤ 16777216 then some (.str (Txt.join a ys)) else none
  | _ => none
theorem strs_reps {K : PySem.W.Frag} {H : Hp} {F : Fz} : ∀ {ds : List PyData} {ys : List Str} {vs : List V}, strL ds = some ys → Reps K H F ds vs → vs = ys.map V.str
  | [], ys, vs, h, r => by
    cases h
    unfold Reps at r
    rw [r]
    rfl
  | d :: ds, ys, vs, h, r => by
    unfold Reps at r
    obtain ⟨v, vs', rfl, r1, r2⟩ := r
    cases d with
    | str x =>
      have h : (strL ds).map (x :: ·) = some ys := h
      cases e : strL ds with
      | none => rw [e] at h; cases h
      | some zs =>
        rw [e] at h
        cases h
        rw [Rep.str (K := K) (H := H) (F := F) r1, strs_reps e r2]
        rfl
    | _ => cases h
theorem sm_join : SmR X (fun x xs H Q => ∃ a p, ∃ ys : List Str, x = .str a ∧ xs = [.ref p] ∧ (SqL X.K H p (ys.map V.str) ∨ SqT X.K H p (ys.map V.str)) ∧ (ys.map (·.length)).sum + ys.length * a.length ≤ 16777216 ∧ Q (.str (Txt.join a ys)) H) oJoin := by
  intro c x y z u Q S r e h
  unfold oJoin at e
  split at e
  · rename_i ds
    cases es : strL ds with
    | none => rw [es] at e; cases e
    | some ys =>
      rw [es] at e
      have e : (if (ys.map (·.length)).sum + ys.length * x.length ≤ 16777216 then some (PyData.str (Txt.join x ys)) else none) = some z := e
      split at e
      · rename_i hz
        cases e
        obtain ⟨a, us, rfl, ha, ra⟩ := r.list
        have eu := strs_reps es ra
        subst eu
        exact ⟨x, a, ys, rfl, rfl, .inl (SqL.of ha), hz, fin0 S h Rep.mkStr⟩
      · cases e
  · rename_i ds
    cases es : strL ds with
    | none => rw [es] at e; cases e
    | some ys =>
      rw [es] at e
      have e : (if (ys.map (·.length)).sum + ys.length * x.length ≤ 16777216 then some (PyData.str (Txt.join x ys)) else none) = some z := e
      split at e
      · rename_i hz
        cases e
        obtain ⟨a, us, rfl, ha, ra⟩ := r.tuple
        have eu := strs_reps es ra
        subst eu
        exact ⟨x, a, ys, rfl, rfl, .inr ha, hz, fin0 S h Rep.mkStr⟩
      · cases e
  · cases e
theorem ne_join {apos : Pos} (ho : NE X W e f) (he : NO X W e2 q) (hs : starEach [e2] X.env = [(false, eval e2 X.env)] := by rfl) (hbase : attributeBase e "join" X.env (eval e X.env) = eval e X.env := by rfl) (hline : (apos.endLine == pos.line) = true := by rfl) :
    NE X W (.Call (.Attribute e "join" apos) [e2] [] pos) (nSm1 oJoin f q) := by
  obtain ⟨ta, pa, sa⟩ := ho.ex
  obtain ⟨tb, pb, sb⟩ := he.ex
  exact ⟨_, pe_join pa pb hs hbase hline, fun c Q S h => sm1_st sa sb sm_join S h⟩
/-! ### f-strings -/
def nFmt (f : NExp) : NExp := fun n => (f n).bind fun d n1 => match d with
  | .str y => if y.length ≤ sizeLine then .ok (.str y) n1 else .bad
  | .int i => if i.natAbs.log2 < 1920 then .ok (.str (toString i)) n1 else .bad
  | _ => .bad
theorem ne_fmt (h : NE X W e f) : NE X W (.FormattedValue e (-1) none pos) (nFmt f) := by
  obtain ⟨t, pe, s⟩ := h.ex
  refine ⟨tFmt t, pe_fmt pe, fun c Q S h => ?_⟩
  refine s c _ S (Pst.seq (rel := relE X.K) (rel' := relE X.K) mono_E h fun d n1 vx H1 F1 _ st1 S1 rx h1 => ?_)
  cases d with
  | str y =>
    have e1 := Rep.str (K := X.K) (H := H1) (F := F1) rx
    dsimp only at h1
    split at h1
    · rename_i hz
      exact .inl ⟨y, e1, hz, h1 _ H1 F1 (Step.refl _) S1 Rep.mkStr⟩
    · exact h1.elim
  | int i =>
    have e1 := Rep.int (K := X.K) (H := H1) (F := F1) rx
    dsimp only at h1
    split at h1
    · rename_i hz
      exact .inr ⟨i, e1, hz, h1 _ H1 F1 (Step.refl _) S1 Rep.mkStr⟩
    · exact h1.elim
  | _ => exact h1.elim
structure NJ (X : Cx) (W : WX) (es : List Expr) (g : Str → NExp) : Prop where
  ex : ∃ ts, PJ X es ts ∧ ∀ (c : Cf) (acc : Str) (Q : VK), Sim X.K c → Pst X.K X.mg W (relE X.K) c Q (g acc c.n) → tJs ts acc c.s c.H (fun out H1 => Q (.str out) H1)
def jNil : Str → NExp := fun acc n => .ok (.str acc) n
def jCons (f : NExp) (g : Str → NExp) : Str → NExp := fun acc n => (f n).bind fun d n1 => match d with
  | .str y => if (acc ++ y).length ≤ sizeLine then g (acc ++ y) n1 else .bad
  | _ => .bad
theorem nj_nil : NJ X W [] jNil := ⟨[], .nil, fun c acc Q S h => h _ c.H c.F (Step.refl _) S Rep.mkStr⟩
theorem nj_cons {es : List Expr} {g : Str → NExp} (h : NE X W e f) (r : NJ X W es g) : NJ X W (e :: es) (jCons f g) := by
  obtain ⟨t, pe, s⟩ := h.ex
  obtain ⟨ts, pj, sr⟩ := r.ex
  refine ⟨t :: ts, .cons pe pj, fun c acc Q S h => ?_⟩
  refine s c _ S (Pst.seq (rel := relE X.K) (rel' := relE X.K) mono_E h fun d n1 vx H1 F1 _ st1 S1 rx h1 => ?_)
  cases d with
  | str y =>
    have e1 := Rep.str (K := X.K) (H := H1) (F := F1) rx
    dsimp only at h1
    split at h1
    · rename_i hz
      exact ⟨y, e1, hz, sr ⟨n1, c.s, H1, F1⟩ (acc ++ y) Q S1 h1⟩
    · exact h1.elim
  | _ => exact h1.elim
theorem ne_fstr {v1 v2 : Expr} {rest : List Expr} {g : Str → NExp} (h : NJ X W (v1 :: v2 :: rest) g) : NE X W (.JoinedStr (v1 :: v2 :: rest) pos) (g Str.empty) := by
  obtain ⟨ts, pj, s⟩ := h.ex
  exact ⟨_, pe_joined pj, fun c Q S h => s c Str.empty Q S h⟩
theorem ne_fstr1 (h : NE X W e f) : NE X W (.JoinedStr [e] pos) f := by
  obtain ⟨t, pe, s⟩ := h.ex
  exact ⟨t, pe_joined1 pe, s⟩
/-! ### list(range(n)) -/
def nLstRg (f : NExp) : NSt → R (List PyData) := fun n => (f n).bind fun d n' => match d with
  | .int j => if 0 ≤ j ∧ j ≤ 100000 then .ok (rgD 0 j) n' else .bad
  | _ => .bad
theorem neo_listRg {a : Expr} {p0 p1 q0 : Pos} (hc : X.calm = true) (hm : X.mg "list" = none) (hm1 : X.mg "range" = none) (ha : NE X W a f) (hg : Gl X "list" := by rfl) (hg1 : Gl X "range" := by rfl)
    (na : starEach [a] X.env = (false, eval a X.env) :: starEach [] X.env := by rfl)
    (na2 : starEach [Expr.Call (.Name "range" p1) [a] [] q0] X.env = (false, eval (Expr.Call (.Name "range" p1) [a] [] q0) X.env) :: starEach [] X.env := by rfl) :
    NEo X W (.Call (.Name "list" p0) [.Call (.Name "range" p1) [a] [] q0] [] pos) (nLstRg f) := by
  obtain ⟨t, pa, s⟩ := ha.ex
  refine ⟨_, pe_listRg hc hg hm (prg_1 hg1 hm1 pa na) na2, fun c Q S h => ?_⟩
  refine s c _ S (Pst.seq (rel := relE X.K) (rel' := relO X.K) mono_O h fun d n1 v H1 F1 _ st1 S1 r1 h1 => ?_)
  cases d with
  | int j =>
    dsimp only at h1
    split at h1
    · rename_i hj
      have e1 := Rep.int (K := X.K) (H := H1) (F := F1) r1
      refine ⟨j, e1, RgOk.of_le (by omega) (by omega) (by omega) (by omega), fun q hq => ?_⟩
      obtain ⟨S2, st2, r2⟩ := S1.newLst (p := q) hq (reps_rg 0 j)
      exact h1 _ _ _ st2 S2 r2
    · exact h1.elim
  | _ => exact h1.elim
/-! ### range with a step -/
def rgD3 (i j c : Int) : List PyData := (List.range (Builtin.Range.rangeSize i j c).toNat).map fun (k : Nat) => .int (i + (k : Int) * c)
def rg3Ok (i j c : Int) : Bool := decide (c ≠ 0) && (decide (c.natAbs < 1073741824) && (Builtin.Range.small i j c && decide (0 ≤ Builtin.Range.rangeSize i j c)))
def iRg3 (f : NSt → R (List AV)) : NSt → R (List PyData) := fun n => (f n).bind fun as n' => match as with
  | [.v (.int i), .v (.int j), .v (.int c)] => if rg3Ok i j c = true then .ok (rgD3 i j c) n' else .bad
  | _ => .bad
theorem gives_rng3 {K : PySem.W.Frag} {c1 : Cf} {lo c : Int} {n : Nat} : Gives K (Itc lo c n) ((List.range n).map fun (k : Nat) => PyData.int (lo + (k : Int) * c)) c1 := fun c2 st S2 i hi' => by
  rw [List.length_map, List.length_range] at hi'
  refine ⟨fun d ed => ?_, fun e => by rw [List.length_map, List.length_range] at e; exact Nat.le_of_eq e.symm⟩
  rw [List.getElem?_map] at ed
  cases q : (List.range n)[i]? with
  | none => rw [q] at ed; cases ed
  | some k =>
    rw [q] at ed
    cases ed
    obtain ⟨hlt, hk⟩ := List.getElem?_eq_some_iff.mp q
    rw [List.length_range] at hlt
    rw [List.getElem_range] at hk
    subst hk
    exact ⟨hlt, fun x H' ⟨e1, e2⟩ => by subst e1 e2; exact ⟨c2.F, Step.refl _, S2, Rep.mkInt⟩⟩
theorem ni_rg3 {tg a b d : Expr} {fs : NSt → R (List AV)} {p pos : Pos} (hm : X.mg "range" = none) (ha : NA X W [a, b, d] fs) (hg : Gl X "range" := by rfl) (hs : starEach [a, b, d] X.env = (false, eval a X.env) :: starEach [b, d] X.env := by rfl) (hpl : (backTo pos (starEach [b, d] X.env)).any (·.1) = false := by rfl) :
    NI X W tg (.Call (.Name "range" p) [a, b, d] [] pos) (iRg3 fs) := by
  obtain ⟨t, pa, s⟩ := ha.ex
  refine ⟨iRng3 t, pi_range3 hg hm pa hs hpl, fun c Q S q => ?_⟩
  refine s c _ S (Pst.seq (rel := relA X.K) (rel' := fun _ c1 ds J => Gives X.K J ds c1) mono_I q fun as n' vs H' F' _ st S' r q' => ?_)
  split at q'
  · rename_i i j k _
    split at q'
    · rename_i hz
      cases r with
      | cons r1 rr =>
        cases rr with
        | cons r2 rr =>
          cases rr with
          | cons r3 rr =>
            cases rr
            unfold rg3Ok at hz
            rw [Bool.and_eq_true, Bool.and_eq_true, Bool.and_eq_true] at hz
            obtain ⟨h1, h2, h3, h4⟩ := hz
            have e1 : _ = V.int i := Rep.int (K := X.K) (H := H') (F := F') r1
            have e2 : _ = V.int j := Rep.int (K := X.K) (H := H') (F := F') r2
            have e3 : _ = V.int k := Rep.int (K := X.K) (H := H') (F := F') r3
            subst e1 e2 e3
            have h4 := of_decide_eq_true h4
            exact ⟨i, j, k, (Builtin.Range.rangeSize i j k).toNat, rfl, ⟨of_decide_eq_true h1, of_decide_eq_true h2, h3, by omega⟩, q' (Itc i k _) H' F' (Step.refl _) S' gives_rng3⟩
    · exact q'.elim
  · exact q'.elim
end
end NL
end L2
namespace L2
namespace NL
open PySem PySem.Spec PyProof.Rows
namespace Wlaw_k02
def top (i : Nat) : Stmt := PySem.Challenge.pw_borderward_k02_whole_duties_told_simply.main.body.getD i (.Pass ⟨0, 0, 0, 0⟩)
def tblF : List Str := ["NotRight", "NotThere", "NoAnswer", "TooLarge", "Malformed"]
def knownF : List Str := ["NotRight"]
def subF (x y : Str) : Bool := (x == "NotRight" && y == "NotRight")
/-- what the written part gives -/
structure Tx (K : PySem.W.Frag) (mg : Str → Option Value) : Prop where
  f_abs : mg "abs" = none
  f_all : mg "all" = none
  f_bool : mg "bool" = none
  f_dict : mg "dict" = none
  f_enumerate : mg "enumerate" = none
  f_int : mg "int" = none
  f_isinstance : mg "isinstance" = none
  f_len : mg "len" = none
  f_list : mg "list" = none
  f_max : mg "max" = none
  f_min : mg "min" = none
  f_range : mg "range" = none
  f_reversed : mg "reversed" = none
  f_str : mg "str" = none
  f_sum : mg "sum" = none
  f_tuple : mg "tuple" = none
  f_zip : mg "zip" = none
  g_DEEPEST : Gv K mg "DEEPEST" (.int 6)
  g_GROUPS : Gv K mg "GROUPS" (.tuple [(.str "most"), (.str "least"), (.str "sum")])
  g_MOST_CROSSED : Gv K mg "MOST_CROSSED" (.int 10000)
  d__law_draws : DefIn K mg "_law_draws" "_law_draws" (top 34)
  d__law_due : DefIn K mg "_law_due" "_law_due" (top 46)
  d__law_duty : DefIn K mg "_law_duty" "_law_duty" (top 45)
  d__law_flags : DefIn K mg "_law_flags" "_law_flags" (top 38)
  d__law_goods : DefIn K mg "_law_goods" "_law_goods" (top 47)
  d__law_is_at_most : DefIn K mg "_law_is_at_most" "_law_is_at_most" (top 43)
  d__law_is_crossing_right : DefIn K mg "_law_is_crossing_right" "_law_is_crossing_right" (top 51)
  d__law_part : DefIn K mg "_law_part" "_law_part" (top 44)
  d__law_pick : DefIn K mg "_law_pick" "_law_pick" (top 36)
  d__law_plain : DefIn K mg "_law_plain" "_law_plain" (top 48)
  d__law_plus : DefIn K mg "_law_plus" "_law_plus" (top 40)
  d__law_ratio : DefIn K mg "_law_ratio" "_law_ratio" (top 39)
  d__law_same : DefIn K mg "_law_same" "_law_same" (top 37)
  d__law_sum : DefIn K mg "_law_sum" "_law_sum" (top 42)
  d__law_take : DefIn K mg "_law_take" "_law_take" (top 35)
  d__law_text : DefIn K mg "_law_text" "_law_text" (top 49)
  d__law_told : DefIn K mg "_law_told" "_law_told" (top 50)
  d_all_duties : DefIn K mg "all_duties" "all_duties" (top 22)
  d_are_goods : DefIn K mg "are_goods" "are_goods" (top 20)
  d_are_steps : DefIn K mg "are_steps" "are_steps" (top 17)
  d_check : DefIn K mg "check" "check" (top 8)
  d_check_both : DefIn K mg "check_both" "check_both" (top 21)
  d_crossing : DefIn K mg "crossing" "crossing" (top 32)
  d_due_by : DefIn K mg "due_by" "due_by" (top 26)
  d_due_of : DefIn K mg "due_of" "due_of" (top 27)
  d_due_times : DefIn K mg "due_times" "due_times" (top 25)
  d_inner_duties : DefIn K mg "inner_duties" "inner_duties" (top 18)
  d_is_count : DefIn K mg "is_count" "is_count" (top 11)
  d_is_duty : DefIn K mg "is_duty" "is_duty" (top 19)
  d_is_integer : DefIn K mg "is_integer" "is_integer" (top 7)
  d_is_ratio : DefIn K mg "is_ratio" "is_ratio" (top 16)
  d_ratio : DefIn K mg "ratio" "ratio" (top 10)
  d_shared : DefIn K mg "shared" "shared" (top 9)
  d_simplified : DefIn K mg "simplified" "simplified" (top 29)
  d_simplified_by : DefIn K mg "simplified_by" "simplified_by" (top 28)
  d_steps_times : DefIn K mg "steps_times" "steps_times" (top 24)
  d_text_by : DefIn K mg "text_by" "text_by" (top 30)
  d_text_of : DefIn K mg "text_of" "text_of" (top 31)
  d_whole_of : DefIn K mg "whole_of" "whole_of" (top 23)
  x_NotRight : ExcF K mg "NotRight"
  CB : ∃ C : Addr, mg "BorderError" = some (.ref C) ∧ ∀ y ∈ knownF, ∃ D, Flg K mg subF tblF y D ∧ PySem.W.exmOne K (.ref D) (.ref C) = some true

variable {P : Program} {w : World} {K : PySem.W.Frag} {mg : Str → Option Value} {base : Heap}
theorem sc_8 : FnScope ["is_right"] ["is_right"] (defScope (top 8)) := ⟨rfl, rfl, rfl, by decide +kernel, rfl, by decide +kernel, by decide +kernel⟩
def B_8 : NStm :=
  sIf (tNot' (asT (.o 0))) (sRaise "NotRight") (sNil)
def D_8 : NExp := runD 1 B_8
theorem n_8 {x : Str} (T : Tx K mg) (h : DefIn K mg x "check" (top 8)) : NFn P w K mg base 1 x 1 D_8 := by
  obtain ⟨f, fd, F0, hm⟩ := h.ex
  exact NFn.of F0 hm sc_8 (FunD.bindsN (ps := ["is_right"]) F0 fun _ _ _ _ _ _ us hl => match us, hl with | [_], _ => rfl) rfl fun cdv A outer s H E hr => by exact (nss_one (ns_if (nt_not (nt_t (no_o 0))) (nss_one (ns_raise T.x_NotRight rfl (takes_of rfl rfl rfl rfl))) nss_nil))
theorem sc_7 : FnScope ["value"] ["value"] (defScope (top 7)) := ⟨rfl, rfl, rfl, by decide +kernel, rfl, by decide +kernel, by decide +kernel⟩
def B_7 : NStm :=
  sRet (nAnd (nIsi "int" (.o 0)) (nNot (nIsi "bool" (.o 0))))
def D_7 : NExp := runD 1 B_7
theorem n_7 {x : Str} (T : Tx K mg) (h : DefIn K mg x "is_integer" (top 7)) : NFn P w K mg base 1 x 1 D_7 := by
  obtain ⟨f, fd, F0, hm⟩ := h.ex
  exact NFn.of F0 hm sc_7 (FunD.bindsN (ps := ["value"]) F0 fun _ _ _ _ _ _ us hl => match us, hl with | [_], _ => rfl) rfl fun cdv A outer s H E hr => by exact (nss_one (ns_ret (ne_and (ne_isi kit_int (no_o 0) T.f_isinstance T.f_int bt_int) (ne_one (ne_not (ne_isi kit_bool (no_o 0) T.f_isinstance T.f_bool bt_bool))))))
theorem sc_11 : FnScope ["value"] ["value"] (defScope (top 11)) := ⟨rfl, rfl, rfl, by decide +kernel, rfl, by decide +kernel, by decide +kernel⟩
def B_11 : NStm :=
  sRet (nAnd (nCall D_7 (aCons (.o 0) (aNil))) (nOp2 oGe (.o 0) (.e (nC (.int 0)))))
def D_11 : NExp := runD 1 B_11
theorem n_11 {x : Str} (T : Tx K mg) (h : DefIn K mg x "is_count" (top 11)) : NFn P w K mg base 2 x 1 D_11 := by
  obtain ⟨f, fd, F0, hm⟩ := h.ex
  exact NFn.of F0 hm sc_11 (FunD.bindsN (ps := ["value"]) F0 fun _ _ _ _ _ _ us hl => match us, hl with | [_], _ => rfl) rfl fun cdv A outer s H E hr => by exact (nss_one (ns_ret (ne_and (ne_call ((n_7 T T.d_is_integer).mono (by first | omega | exact Nat.le_trans (by decide) (Nat.le_add_right _ _))) hr (takes_of rfl rfl rfl rfl) (na_cons (no_o 0) na_nil) rfl rfl (aCons_len aNil_len)) (ne_one (ne_cmp op_geN no_ge (no_o 0) (no_e ne_int) rfl)))))
theorem sc_9 : FnScope ["one", "other"] ["one", "other"] (defScope (top 9)) := ⟨rfl, rfl, rfl, by decide +kernel, rfl, by decide +kernel, by decide +kernel⟩
def B_9 : NStm :=
  sSeq (sPar 0 1 (evV (nCB bAbs (aCons (.o 0) (aNil)))) (evV (nCB bAbs (aCons (.o 1) (aNil)))))
  (sSeq (sWhile 400 (asB (nOp2 oGt (.o 1) (.e (nC (.int 0))))) (sPar 0 1 (evV (nF 1)) (evV (nOp2 oMod (.o 0) (.o 1)))))
  (sRet (nF 0)))
def D_9 : NExp := runD 2 B_9
theorem n_9 {x : Str} (T : Tx K mg) (h : DefIn K mg x "shared" (top 9)) : NFn P w K mg base 1 x 2 D_9 := by
  obtain ⟨f, fd, F0, hm⟩ := h.ex
  exact NFn.of F0 hm sc_9 (FunD.bindsN (ps := ["one", "other"]) F0 fun _ _ _ _ _ _ us hl => match us, hl with | [_, _], _ => rfl) rfl fun cdv A outer s H E hr => by exact (nss_cons (ns_par 0 1 rfl sc_9.nd rfl rfl (by decide) rfl rfl (nv_v (ne_cb call_abs cn_abs T.f_abs bt_abs (na_cons (no_o 0) na_nil))) (nv_v (ne_cb call_abs cn_abs T.f_abs bt_abs (na_cons (no_o 1) na_nil))))
    (nss_cons (ns_while 400 (passes_of rfl) (nt_cmp op_gtN no_gt (no_o 1) (no_e ne_int) rfl) (nss_one (ns_par 0 1 rfl sc_9.nd rfl rfl (by decide) rfl rfl (nv_v (ne_f 1)) (nv_v (ne_op op_modN no_mod (no_o 0) (no_o 1))))))
    (nss_one (ns_ret (ne_f 0)))))
theorem sc_16 : FnScope ["value"] ["value"] (defScope (top 16)) := ⟨rfl, rfl, rfl, by decide +kernel, rfl, by decide +kernel, by decide +kernel⟩
def B_16 : NStm :=
  sSeq (sIf (tOr' (tNot' (asT (.e (nIsi "tuple" (.o 0))))) (tOr' (asB (nOp2 oNe (.e (nCB bLen (aCons (.o 0) (aNil)))) (.e (nC (.int 2))))) (tOr' (tNot' (asT (.e (nCall D_11 (aCons (.e (nOp2 oIx (.o 0) (.e (nC (.int 0))))) (aNil)))))) (tNot' (asT (.e (nCall D_7 (aCons (.e (nOp2 oIx (.o 0) (.e (nC (.int 1))))) (aNil))))))))) (sRet (nC (.bool false))) (sNil))
  (sRet (nAnd (nOp2 oGt (.e (nOp2 oIx (.o 0) (.e (nC (.int 1))))) (.e (nC (.int 0)))) (nOp2 oEq (.e (nCall D_9 (aCons (.e (nOp2 oIx (.o 0) (.e (nC (.int 0))))) (aCons (.e (nOp2 oIx (.o 0) (.e (nC (.int 1))))) (aNil))))) (.e (nC (.int 1))))))
def D_16 : NExp := runD 1 B_16
theorem n_16 {x : Str} (T : Tx K mg) (h : DefIn K mg x "is_ratio" (top 16)) : NFn P w K mg base 3 x 1 D_16 := by
  obtain ⟨f, fd, F0, hm⟩ := h.ex
  exact NFn.of F0 hm sc_16 (FunD.bindsN (ps := ["value"]) F0 fun _ _ _ _ _ _ us hl => match us, hl with | [_], _ => rfl) rfl fun cdv A outer s H E hr => by exact (nss_cons (ns_if (NW.t (nw_or (nt_not (nt_t (no_e (ne_isi kit_tuple (no_o 0) T.f_isinstance T.f_tuple bt_tuple)))) (nw_or (nt_cmp (op_neN hr.units) no_ne (no_e (ne_len T.f_len (na_cons (no_o 0) na_nil))) (no_e ne_int) rfl) (nw_or (nt_not (nt_t (no_e (ne_call ((n_11 T T.d_is_count).mono (by first | omega | exact Nat.le_trans (by decide) (Nat.le_add_right _ _))) hr (takes_of rfl rfl rfl rfl) (na_cons (no_e (ne_ix (no_o 0) (no_e ne_int))) na_nil) rfl rfl (aCons_len aNil_len))))) (nw_or1 (nt_not (nt_t (no_e (ne_call ((n_7 T T.d_is_integer).mono (by first | omega | exact Nat.le_trans (by decide) (Nat.le_add_right _ _))) hr (takes_of rfl rfl rfl rfl) (na_cons (no_e (ne_ix (no_o 0) (no_e ne_int))) na_nil) rfl rfl (aCons_len aNil_len)))))))))) (nss_one (ns_ret ne_bool)) nss_nil)
    (nss_one (ns_ret (ne_and (ne_cmp op_gtN no_gt (no_e (ne_ix (no_o 0) (no_e ne_int))) (no_e ne_int) rfl) (ne_one (ne_cmp (op_eqN hr.units) no_eq (no_e (ne_call ((n_9 T T.d_shared).mono (by first | omega | exact Nat.le_trans (by decide) (Nat.le_add_right _ _))) hr (takes_of rfl rfl rfl rfl) (na_cons (no_e (ne_ix (no_o 0) (no_e ne_int))) (na_cons (no_e (ne_ix (no_o 0) (no_e ne_int))) na_nil)) rfl rfl (aCons_len (aCons_len aNil_len)))) (no_e ne_int) rfl))))))
theorem sc_17 : FnScope ["value", "one", "other"] ["value"] (defScope (top 17)) := ⟨rfl, rfl, rfl, by decide +kernel, rfl, by decide +kernel, by decide +kernel⟩
def B_17 : NStm :=
  sSeq (sIf (tOr' (tNot' (asT (.e (nIsi "tuple" (.o 0))))) (tOr' (asB (nOp2 oEq (.e (nCB bLen (aCons (.o 0) (aNil)))) (.e (nC (.int 0))))) (tNot' (asT (.e (nCB bAll (aCons (.e (nL (nLc (iV (nF 0)) (gN 1) (tYesN) (nIsi "tuple" (.o 1)) [1]))) (aNil)))))))) (sRet (nC (.bool false))) (sNil))
  (sSeq (sIf (tNot' (asT (.e (nCB bAll (aCons (.e (nL (nLc (iV (nF 0)) (gN 1) (tYesN) (nAnd (nOp2 oEq (.e (nCB bLen (aCons (.o 1) (aNil)))) (.e (nC (.int 2)))) (nAnd (nCall D_11 (aCons (.e (nOp2 oIx (.o 1) (.e (nC (.int 0))))) (aNil))) (nCall D_16 (aCons (.e (nOp2 oIx (.o 1) (.e (nC (.int 1))))) (aNil))))) [1]))) (aNil)))))) (sRet (nC (.bool false))) (sNil))
  (sRet (nAnd (nOp2 oEq (.e (nOp2 oIx (.e (nOp2 oIx (.o 0) (.e (nC (.int 0))))) (.e (nC (.int 0))))) (.e (nC (.int 0)))) (nCB bAll (aCons (.e (nL (nLc (iZp (aCons (.e (nF 0)) (aCons (.e (nSl (.o 0) (pSome (nC (.int 1))) (pNone))) (aNil)))) (gT (gCons' (gN 1) (gCons' (gN 2) (gNil')))) (tYesN) (nOp2 oLt (.e (nOp2 oIx (.o 1) (.e (nC (.int 0))))) (.e (nOp2 oIx (.o 2) (.e (nC (.int 0)))))) [1, 2]))) (aNil))))))
def D_17 : NExp := runD 3 B_17
theorem n_17 {x : Str} (T : Tx K mg) (h : DefIn K mg x "are_steps" (top 17)) : NFn P w K mg base 4 x 1 D_17 := by
  obtain ⟨f, fd, F0, hm⟩ := h.ex
  exact NFn.of F0 hm sc_17 (FunD.bindsN (ps := ["value"]) F0 fun _ _ _ _ _ _ us hl => match us, hl with | [_], _ => rfl) rfl fun cdv A outer s H E hr => by exact (nss_cons (ns_if (NW.t (nw_or (nt_not (nt_t (no_e (ne_isi kit_tuple (no_o 0) T.f_isinstance T.f_tuple bt_tuple)))) (nw_or (nt_cmp (op_eqN hr.units) no_eq (no_e (ne_len T.f_len (na_cons (no_o 0) na_nil))) (no_e ne_int) rfl) (nw_or1 (nt_not (nt_t (no_e (ne_cb (cr_all rfl) cn_all T.f_all bt_all (na_cons (no_e (ne_l (neo_lc (own := [("one", 1)]) rfl sc_17.nd (ni_v (ne_f 0)) (blkOk_by rfl) (fun s_ H_ C_ cl_ fp_ => (ng_name 1 sc_17.nd rfl (by first | exact Or.inl rfl | exact Or.inr rfl))) (fun s_ H_ C_ cl_ fp_ => pts_nilN) (fun s_ H_ C_ cl_ fp_ => (ne_isi kit_tuple (no_o 1) T.f_isinstance T.f_tuple bt_tuple))))) na_nil))))))))) (nss_one (ns_ret ne_bool)) nss_nil)
    (nss_cons (ns_if (nt_not (nt_t (no_e (ne_cb (cr_all rfl) cn_all T.f_all bt_all (na_cons (no_e (ne_l (neo_lc (own := [("one", 1)]) rfl sc_17.nd (ni_v (ne_f 0)) (blkOk_by rfl) (fun s_ H_ C_ cl_ fp_ => (ng_name 1 sc_17.nd rfl (by first | exact Or.inl rfl | exact Or.inr rfl))) (fun s_ H_ C_ cl_ fp_ => pts_nilN) (fun s_ H_ C_ cl_ fp_ => (ne_and (ne_cmp (op_eqN hr.units) no_eq (no_e (ne_len T.f_len (na_cons (no_o 1) na_nil))) (no_e ne_int) rfl) (ne_and (ne_call ((n_11 T T.d_is_count).mono (by first | omega | exact Nat.le_trans (by decide) (Nat.le_add_right _ _))) hr takes0 (na_cons (no_e (ne_ix (no_o 1) (no_e ne_int))) na_nil) rfl rfl (aCons_len aNil_len)) (ne_one (ne_call ((n_16 T T.d_is_ratio).mono (by first | omega | exact Nat.le_trans (by decide) (Nat.le_add_right _ _))) hr takes0 (na_cons (no_e (ne_ix (no_o 1) (no_e ne_int))) na_nil) rfl rfl (aCons_len aNil_len))))))))) na_nil))))) (nss_one (ns_ret ne_bool)) nss_nil)
    (nss_one (ns_ret (ne_and (ne_cmp (op_eqN hr.units) no_eq (no_e (ne_ix (no_e (ne_ix (no_o 0) (no_e ne_int))) (no_e ne_int))) (no_e ne_int) rfl) (ne_one (ne_cb (cr_all rfl) cn_all T.f_all bt_all (na_cons (no_e (ne_l (neo_lc (own := [("one", 1), ("other", 2)]) rfl sc_17.nd (ni_zip T.f_zip (na_cons (no_e (ne_f 0)) (na_cons (no_e (ne_sl (no_o 0) (np_some ne_int) np_none)) na_nil))) (blkOk_by rfl) (fun s_ H_ C_ cl_ fp_ => (ng_tup rfl (ngs_cons (ng_name 1 sc_17.nd rfl (by first | exact Or.inl rfl | exact Or.inr rfl)) (ngs_cons (ng_name 2 sc_17.nd rfl (by first | exact Or.inl rfl | exact Or.inr rfl)) ngs_nil)) (gCons_len (gCons_len gNil_len)))) (fun s_ H_ C_ cl_ fp_ => pts_nilN) (fun s_ H_ C_ cl_ fp_ => (ne_cmp (op_ltN hr.units) no_lt (no_e (ne_ix (no_o 1) (no_e ne_int))) (no_e (ne_ix (no_o 2) (no_e ne_int))) rfl))))) na_nil))))))))
theorem sc_18 : FnScope ["duty"] ["duty"] (defScope (top 18)) := ⟨rfl, rfl, rfl, by decide +kernel, rfl, by decide +kernel, by decide +kernel⟩
def B_18 : NStm :=
  sSeq (sIf (tOr' (tNot' (asT (.e (nIsi "tuple" (.o 0))))) (asB (nOp2 oEq (.e (nCB bLen (aCons (.o 0) (aNil)))) (.e (nC (.int 0)))))) (sRet (nC .none)) (sNil))
  (sSeq (sIf (tOr' (asB (nOp2 oEq (.o 0) (.e (nTup (aCons (.e (nC (.str "free"))) (aNil)))))) (tAnd' (asB (nOp2 oEq (.e (nCB bLen (aCons (.o 0) (aNil)))) (.e (nC (.int 3))))) (tAnd' (asB (nOp2 oEq (.e (nOp2 oIx (.o 0) (.e (nC (.int 0))))) (.e (nC (.str "value"))))) (asT (.e (nCall D_16 (aCons (.e (nSl (.o 0) (pSome (nC (.int 1))) (pNone))) (aNil)))))))) (sRet (nL (nLstO (aNil)))) (sNil))
  (sSeq (sIf (asB (nOp2 oNe (.e (nCB bLen (aCons (.o 0) (aNil)))) (.e (nC (.int 2))))) (sRet (nC .none)) (sNil))
  (sSeq (sIf (tOr' (tAnd' (asB (nOp2 oIn (.e (nOp2 oIx (.o 0) (.e (nC (.int 0))))) (.e (nTup (aCons (.e (nC (.str "piece"))) (aCons (.e (nC (.str "weight"))) (aNil))))))) (asT (.e (nCall D_11 (aCons (.e (nOp2 oIx (.o 0) (.e (nC (.int 1))))) (aNil)))))) (tAnd' (asB (nOp2 oEq (.e (nOp2 oIx (.o 0) (.e (nC (.int 0))))) (.e (nC (.str "steps"))))) (asT (.e (nCall D_17 (aCons (.e (nOp2 oIx (.o 0) (.e (nC (.int 1))))) (aNil))))))) (sRet (nL (nLstO (aNil)))) (sNil))
  (sSeq (sIf (tAnd' (asB (nOp2 oIn (.e (nOp2 oIx (.o 0) (.e (nC (.int 0))))) (.e (nC (.tuple [(.str "most"), (.str "least"), (.str "sum")]))))) (tAnd' (asT (.e (nIsi "tuple" (.e (nOp2 oIx (.o 0) (.e (nC (.int 1)))))))) (asB (nOp2 oGt (.e (nCB bLen (aCons (.e (nOp2 oIx (.o 0) (.e (nC (.int 1))))) (aNil)))) (.e (nC (.int 0))))))) (sRet (nL (nLstO (aStar (.e (nOp2 oIx (.o 0) (.e (nC (.int 1))))) (aNil))))) (sNil))
  (sRet (nC .none))))))
def D_18 : NExp := runD 1 B_18
theorem n_18 {x : Str} (T : Tx K mg) (h : DefIn K mg x "inner_duties" (top 18)) : NFn P w K mg base 5 x 1 D_18 := by
  obtain ⟨f, fd, F0, hm⟩ := h.ex
  exact NFn.of F0 hm sc_18 (FunD.bindsN (ps := ["duty"]) F0 fun _ _ _ _ _ _ us hl => match us, hl with | [_], _ => rfl) rfl fun cdv A outer s H E hr => by exact (nss_cons (ns_if (NW.t (nw_or (nt_not (nt_t (no_e (ne_isi kit_tuple (no_o 0) T.f_isinstance T.f_tuple bt_tuple)))) (nw_or1 (nt_cmp (op_eqN hr.units) no_eq (no_e (ne_len T.f_len (na_cons (no_o 0) na_nil))) (no_e ne_int) rfl)))) (nss_one (ns_ret ne_none)) nss_nil)
    (nss_cons (ns_if (NW.t (nw_or (nt_cmp (op_eqN hr.units) no_eq (no_o 0) (no_e (ne_tup (na_cons (no_e ne_str) na_nil))) rfl) (nw_or1 (NW.t (nw_and (nt_cmp (op_eqN hr.units) no_eq (no_e (ne_len T.f_len (na_cons (no_o 0) na_nil))) (no_e ne_int) rfl) (nw_and (nt_cmp (op_eqN hr.units) no_eq (no_e (ne_ix (no_o 0) (no_e ne_int))) (no_e ne_str) rfl) (nw_and1 (nt_t (no_e (ne_call ((n_16 T T.d_is_ratio).mono (by first | omega | exact Nat.le_trans (by decide) (Nat.le_add_right _ _))) hr (takes_of rfl rfl rfl rfl) (na_cons (no_e (ne_sl (no_o 0) (np_some ne_int) np_none)) na_nil) rfl rfl (aCons_len aNil_len))))))))))) (nss_one (ns_ret (ne_l (neo_lst na_nil)))) nss_nil)
    (nss_cons (ns_if (nt_cmp (op_neN hr.units) no_ne (no_e (ne_len T.f_len (na_cons (no_o 0) na_nil))) (no_e ne_int) rfl) (nss_one (ns_ret ne_none)) nss_nil)
    (nss_cons (ns_if (NW.t (nw_or (NW.t (nw_and (nt_cmp (op_inN (u65 hr)) no_in (no_e (ne_ix (no_o 0) (no_e ne_int))) (no_e (ne_tup (na_cons (no_e ne_str) (na_cons (no_e ne_str) na_nil)))) rfl) (nw_and1 (nt_t (no_e (ne_call ((n_11 T T.d_is_count).mono (by first | omega | exact Nat.le_trans (by decide) (Nat.le_add_right _ _))) hr (takes_of rfl rfl rfl rfl) (na_cons (no_e (ne_ix (no_o 0) (no_e ne_int))) na_nil) rfl rfl (aCons_len aNil_len))))))) (nw_or1 (NW.t (nw_and (nt_cmp (op_eqN hr.units) no_eq (no_e (ne_ix (no_o 0) (no_e ne_int))) (no_e ne_str) rfl) (nw_and1 (nt_t (no_e (ne_call ((n_17 T T.d_are_steps).mono (by first | omega | exact Nat.le_trans (by decide) (Nat.le_add_right _ _))) hr (takes_of rfl rfl rfl rfl) (na_cons (no_e (ne_ix (no_o 0) (no_e ne_int))) na_nil) rfl rfl (aCons_len aNil_len)))))))))) (nss_one (ns_ret (ne_l (neo_lst na_nil)))) nss_nil)
    (nss_cons (ns_if (NW.t (nw_and (nt_cmp (op_inN (u65 hr)) no_in (no_e (ne_ix (no_o 0) (no_e ne_int))) (no_e (ne_g T.g_GROUPS)) rfl) (nw_and (nt_t (no_e (ne_isi kit_tuple (no_e (ne_ix (no_o 0) (no_e ne_int))) T.f_isinstance T.f_tuple bt_tuple))) (nw_and1 (nt_cmp op_gtN no_gt (no_e (ne_len T.f_len (na_cons (no_e (ne_ix (no_o 0) (no_e ne_int))) na_nil))) (no_e ne_int) rfl))))) (nss_one (ns_ret (ne_l (neo_lst (na_star (no_e (ne_ix (no_o 0) (no_e ne_int))) na_nil))))) nss_nil)
    (nss_one (ns_ret ne_none)))))))
theorem sc_19 : FnScope ["value", "waiting", "duty", "deep", "inner", "one"] ["value"] (defScope (top 19)) := ⟨rfl, rfl, rfl, by decide +kernel, rfl, by decide +kernel, by decide +kernel⟩
def B_19 : NStm :=
  sSeq (sOwn 1 (nLstO (aCons (.e (nTup (aCons (.e (nF 0)) (aCons (.e (nC (.int 1))) (aNil))))) (aNil))))
  (sSeq (sWhile 400 (asB (nOp2 oGt (.e (nCB bLen (aCons (.o 1) (aNil)))) (.e (nC (.int 0))))) (sSeq (sAsg (nPop 1) (gT (gCons' (gN 2) (gCons' (gN 3) (gNil')))))
  (sSeq (sAsg (nCall D_18 (aCons (.o 2) (aNil))) (gN 4))
  (sSeq (sIf (tOr' (asB (nOp2 oIs (.o 4) (.e (nC .none)))) (asB (nOp2 oGt (.o 3) (.e (nC (.int 6)))))) (sRet (nC (.bool false))) (sNil))
  (sExpr (nMeth1 1 mExtend (.e (nL (nLc (iV (nV 4)) (gN 5) (tYesN) (nTup (aCons (.e (nV 5)) (aCons (.e (nOp2 oAdd (.o 3) (.e (nC (.int 1))))) (aNil)))) [5])))))))))
  (sRet (nC (.bool true))))
def D_19 : NExp := runD 6 B_19
theorem n_19 {x : Str} (T : Tx K mg) (h : DefIn K mg x "is_duty" (top 19)) : NFn P w K mg base 6 x 1 D_19 := by
  obtain ⟨f, fd, F0, hm⟩ := h.ex
  exact NFn.of F0 hm sc_19 (FunD.bindsN (ps := ["value"]) F0 fun _ _ _ _ _ _ us hl => match us, hl with | [_], _ => rfl) rfl fun cdv A outer s H E hr => by exact (nss_cons (ns_own 1 sc_19.nd rfl (by first | exact Or.inl rfl | exact Or.inr rfl) (neo_lst (na_cons (no_e (ne_tup (na_cons (no_e (ne_f 0)) (na_cons (no_e ne_int) na_nil)))) na_nil)))
    (nss_cons (ns_while 400 (passes_of rfl) (nt_cmp op_gtN no_gt (no_e (ne_len T.f_len (na_cons (no_o 1) na_nil))) (no_e ne_int) rfl) (nss_cons (ns_asg (ne_pop 1) (ng_tup rfl (ngs_cons (ng_name 2 sc_19.nd rfl (by first | exact Or.inl rfl | exact Or.inr rfl)) (ngs_cons (ng_name 3 sc_19.nd rfl (by first | exact Or.inl rfl | exact Or.inr rfl)) ngs_nil)) (gCons_len (gCons_len gNil_len))))
    (nss_cons (ns_asg (ne_call ((n_18 T T.d_inner_duties).mono (by first | omega | exact Nat.le_trans (by decide) (Nat.le_add_right _ _))) hr (takes_of rfl rfl rfl rfl) (na_cons (no_o 2) na_nil) rfl rfl (aCons_len aNil_len)) (ng_name 4 sc_19.nd rfl (by first | exact Or.inl rfl | exact Or.inr rfl)))
    (nss_cons (ns_if (NW.t (nw_or (nt_cmp op_isNN no_is (no_o 4) (no_e ne_none) rfl) (nw_or1 (nt_cmp op_gtN no_gt (no_o 3) (no_e (ne_g T.g_DEEPEST)) rfl)))) (nss_one (ns_ret ne_bool)) nss_nil)
    (nss_one (ns_expr (ne_meth1 1 PySem.F.slot_list_extend PySem.F.type_list_extend mt_extend me_extend (no_e (ne_l (neo_lc (own := [("one", 5)]) rfl sc_19.nd (ni_v (ne_v 4)) (blkOk_by rfl) (fun s_ H_ C_ cl_ fp_ => (ng_name 5 sc_19.nd rfl (by first | exact Or.inl rfl | exact Or.inr rfl))) (fun s_ H_ C_ cl_ fp_ => pts_nilN) (fun s_ H_ C_ cl_ fp_ => (ne_tup (na_cons (no_e (ne_v 5)) (na_cons (no_e (ne_op op_addN no_add (no_o 3) (no_e ne_int))) na_nil))))))))))))))
    (nss_one (ns_ret ne_bool))))
theorem sc_20 : FnScope ["value", "one"] ["value"] (defScope (top 20)) := ⟨rfl, rfl, rfl, by decide +kernel, rfl, by decide +kernel, by decide +kernel⟩
def B_20 : NStm :=
  sRet (nAnd (nIsi "tuple" (.o 0)) (nAnd (nOp2 oEq (.e (nCB bLen (aCons (.o 0) (aNil)))) (.e (nC (.int 3)))) (nCB bAll (aCons (.e (nL (nLc (iV (nF 0)) (gN 1) (tYesN) (nCall D_11 (aCons (.o 1) (aNil))) [1]))) (aNil)))))
def D_20 : NExp := runD 2 B_20
theorem n_20 {x : Str} (T : Tx K mg) (h : DefIn K mg x "are_goods" (top 20)) : NFn P w K mg base 3 x 1 D_20 := by
  obtain ⟨f, fd, F0, hm⟩ := h.ex
  exact NFn.of F0 hm sc_20 (FunD.bindsN (ps := ["value"]) F0 fun _ _ _ _ _ _ us hl => match us, hl with | [_], _ => rfl) rfl fun cdv A outer s H E hr => by exact (nss_one (ns_ret (ne_and (ne_isi kit_tuple (no_o 0) T.f_isinstance T.f_tuple bt_tuple) (ne_and (ne_cmp (op_eqN hr.units) no_eq (no_e (ne_len T.f_len (na_cons (no_o 0) na_nil))) (no_e ne_int) rfl) (ne_one (ne_cb (cr_all rfl) cn_all T.f_all bt_all (na_cons (no_e (ne_l (neo_lc (own := [("one", 1)]) rfl sc_20.nd (ni_v (ne_f 0)) (blkOk_by rfl) (fun s_ H_ C_ cl_ fp_ => (ng_name 1 sc_20.nd rfl (by first | exact Or.inl rfl | exact Or.inr rfl))) (fun s_ H_ C_ cl_ fp_ => pts_nilN) (fun s_ H_ C_ cl_ fp_ => (ne_call ((n_11 T T.d_is_count).mono (by first | omega | exact Nat.le_trans (by decide) (Nat.le_add_right _ _))) hr takes0 (na_cons (no_o 1) na_nil) rfl rfl (aCons_len aNil_len)))))) na_nil)))))))
theorem sc_21 : FnScope ["duty", "goods"] ["duty", "goods"] (defScope (top 21)) := ⟨rfl, rfl, rfl, by decide +kernel, rfl, by decide +kernel, by decide +kernel⟩
def B_21 : NStm :=
  sSeq (sExpr (nCall D_8 (aCons (.e (nCall D_19 (aCons (.o 0) (aNil)))) (aNil))))
  (sExpr (nCall D_8 (aCons (.e (nCall D_20 (aCons (.o 1) (aNil)))) (aNil))))
def D_21 : NExp := runD 2 B_21
theorem n_21 {x : Str} (T : Tx K mg) (h : DefIn K mg x "check_both" (top 21)) : NFn P w K mg base 7 x 2 D_21 := by
  obtain ⟨f, fd, F0, hm⟩ := h.ex
  exact NFn.of F0 hm sc_21 (FunD.bindsN (ps := ["duty", "goods"]) F0 fun _ _ _ _ _ _ us hl => match us, hl with | [_, _], _ => rfl) rfl fun cdv A outer s H E hr => by exact (nss_cons (ns_expr (ne_call ((n_8 T T.d_check).mono (by first | omega | exact Nat.le_trans (by decide) (Nat.le_add_right _ _))) hr (takes_of rfl rfl rfl rfl) (na_cons (no_e (ne_call ((n_19 T T.d_is_duty).mono (by first | omega | exact Nat.le_trans (by decide) (Nat.le_add_right _ _))) hr (takes_of rfl rfl rfl rfl) (na_cons (no_o 0) na_nil) rfl rfl (aCons_len aNil_len))) na_nil) rfl rfl (aCons_len aNil_len)))
    (nss_one (ns_expr (ne_call ((n_8 T T.d_check).mono (by first | omega | exact Nat.le_trans (by decide) (Nat.le_add_right _ _))) hr (takes_of rfl rfl rfl rfl) (na_cons (no_e (ne_call ((n_20 T T.d_are_goods).mono (by first | omega | exact Nat.le_trans (by decide) (Nat.le_add_right _ _))) hr (takes_of rfl rfl rfl rfl) (na_cons (no_o 1) na_nil) rfl rfl (aCons_len aNil_len))) na_nil) rfl rfl (aCons_len aNil_len)))))
theorem sc_10 : FnScope ["number", "divisor", "least"] ["number", "divisor"] (defScope (top 10)) := ⟨rfl, rfl, rfl, by decide +kernel, rfl, by decide +kernel, by decide +kernel⟩
def B_10 : NStm :=
  sSeq (sAsg (nCall D_9 (aCons (.o 0) (aCons (.o 1) (aNil)))) (gN 2))
  (sRet (nTup (aCons (.e (nOp2 oFdiv (.o 0) (.o 2))) (aCons (.e (nOp2 oFdiv (.o 1) (.o 2))) (aNil)))))
def D_10 : NExp := runD 3 B_10
theorem n_10 {x : Str} (T : Tx K mg) (h : DefIn K mg x "ratio" (top 10)) : NFn P w K mg base 2 x 2 D_10 := by
  obtain ⟨f, fd, F0, hm⟩ := h.ex
  exact NFn.of F0 hm sc_10 (FunD.bindsN (ps := ["number", "divisor"]) F0 fun _ _ _ _ _ _ us hl => match us, hl with | [_, _], _ => rfl) rfl fun cdv A outer s H E hr => by exact (nss_cons (ns_asg (ne_call ((n_9 T T.d_shared).mono (by first | omega | exact Nat.le_trans (by decide) (Nat.le_add_right _ _))) hr (takes_of rfl rfl rfl rfl) (na_cons (no_o 0) (na_cons (no_o 1) na_nil)) rfl rfl (aCons_len (aCons_len aNil_len))) (ng_name 2 sc_10.nd rfl (by first | exact Or.inl rfl | exact Or.inr rfl)))
    (nss_one (ns_ret (ne_tup (na_cons (no_e (ne_op op_fdivNN no_fdiv (no_o 0) (no_o 2))) (na_cons (no_e (ne_op op_fdivNN no_fdiv (no_o 1) (no_o 2))) na_nil))))))
theorem sc_22 : FnScope ["duty", "found", "waiting", "one"] ["duty"] (defScope (top 22)) := ⟨rfl, rfl, rfl, by decide +kernel, rfl, by decide +kernel, by decide +kernel⟩
def B_22 : NStm :=
  sSeq (sPar 1 2 (evO (nLstO (aNil))) (evO (nLstO (aCons (.e (nF 0)) (aNil)))))
  (sSeq (sWhile 400 (asB (nOp2 oGt (.e (nCB bLen (aCons (.o 2) (aNil)))) (.e (nC (.int 0))))) (sSeq (sAsg (nPop 2) (gN 3))
  (sSeq (sExpr (nAppend 1 (nV 3)))
  (sExpr (nMeth1 2 mExtend (.e (nCall D_18 (aCons (.o 3) (aNil)))))))))
  (sRet (nF 1)))
def D_22 : NExp := runD 4 B_22
theorem n_22 {x : Str} (T : Tx K mg) (h : DefIn K mg x "all_duties" (top 22)) : NFn P w K mg base 6 x 1 D_22 := by
  obtain ⟨f, fd, F0, hm⟩ := h.ex
  exact NFn.of F0 hm sc_22 (FunD.bindsN (ps := ["duty"]) F0 fun _ _ _ _ _ _ us hl => match us, hl with | [_], _ => rfl) rfl fun cdv A outer s H E hr => by exact (nss_cons (ns_par 1 2 rfl sc_22.nd rfl rfl (by decide) rfl rfl (nv_o (neo_lst na_nil)) (nv_o (neo_lst (na_cons (no_e (ne_f 0)) na_nil))))
    (nss_cons (ns_while 400 (passes_of rfl) (nt_cmp op_gtN no_gt (no_e (ne_len T.f_len (na_cons (no_o 2) na_nil))) (no_e ne_int) rfl) (nss_cons (ns_asg (ne_pop 2) (ng_name 3 sc_22.nd rfl (by first | exact Or.inl rfl | exact Or.inr rfl)))
    (nss_cons (ns_expr (ne_append 1 (ne_v 3)))
    (nss_one (ns_expr (ne_meth1 2 PySem.F.slot_list_extend PySem.F.type_list_extend mt_extend me_extend (no_e (ne_call ((n_18 T T.d_inner_duties).mono (by first | omega | exact Nat.le_trans (by decide) (Nat.le_add_right _ _))) hr (takes_of rfl rfl rfl rfl) (na_cons (no_o 3) na_nil) rfl rfl (aCons_len aNil_len)))))))))
    (nss_one (ns_ret (ne_f 1)))))
theorem sc_23 : FnScope ["duty", "whole", "one", "divisors", "_", "part", "divisor"] ["duty"] (defScope (top 23)) := ⟨rfl, rfl, rfl, by decide +kernel, rfl, by decide +kernel, by decide +kernel⟩
def B_23 : NStm :=
  sSeq (sAsg (nC (.int 1)) (gN 1))
  (sSeq (sFor (iV (nCall D_22 (aCons (.o 0) (aNil)))) (gN 2) (sSeq (sOwn 3 (nIfO (asB (nOp2 oEq (.e (nOp2 oIx (.o 2) (.e (nC (.int 0))))) (.e (nC (.str "value"))))) (nLstO (aCons (.e (nOp2 oIx (.o 2) (.e (nC (.int 2))))) (aNil))) (nLstO (aNil))))
  (sSeq (sExpr (nMeth1 3 mExtend (.e (nIf (asB (nOp2 oEq (.e (nOp2 oIx (.o 2) (.e (nC (.int 0))))) (.e (nC (.str "steps"))))) (nL (nLc (iV (nOp2 oIx (.o 2) (.e (nC (.int 1))))) (gT (gCons' (gN 4) (gCons' (gN 5) (gNil')))) (tYesN) (nOp2 oIx (.o 5) (.e (nC (.int 1)))) [4, 5])) (nL (nLstO (aNil)))))))
  (sFor (iV (nF 3)) (gN 6) (sAsg (nOp2 oFdiv (.e (nOp2 oMul (.o 1) (.o 6))) (.e (nCall D_9 (aCons (.o 1) (aCons (.o 6) (aNil)))))) (gN 1))))))
  (sRet (nV 1)))
def D_23 : NExp := runD 7 B_23
theorem n_23 {x : Str} (T : Tx K mg) (h : DefIn K mg x "whole_of" (top 23)) : NFn P w K mg base 7 x 1 D_23 := by
  obtain ⟨f, fd, F0, hm⟩ := h.ex
  exact NFn.of F0 hm sc_23 (FunD.bindsN (ps := ["duty"]) F0 fun _ _ _ _ _ _ us hl => match us, hl with | [_], _ => rfl) rfl fun cdv A outer s H E hr => by exact (nss_cons (ns_asg ne_int (ng_name 1 sc_23.nd rfl (by first | exact Or.inl rfl | exact Or.inr rfl)))
    (nss_cons (ns_for (passes_of rfl) rfl (ni_v (ne_call ((n_22 T T.d_all_duties).mono (by first | omega | exact Nat.le_trans (by decide) (Nat.le_add_right _ _))) hr (takes_of rfl rfl rfl rfl) (na_cons (no_o 0) na_nil) rfl rfl (aCons_len aNil_len))) (ng_name 2 sc_23.nd rfl (by first | exact Or.inl rfl | exact Or.inr rfl)) (nss_cons (ns_own 3 sc_23.nd rfl (by first | exact Or.inl rfl | exact Or.inr rfl) (neo_if (nt_cmp (op_eqN hr.units) no_eq (no_e (ne_ix (no_o 2) (no_e ne_int))) (no_e ne_str) rfl) (neo_lst (na_cons (no_e (ne_ix (no_o 2) (no_e ne_int))) na_nil)) (neo_lst na_nil)))
    (nss_cons (ns_expr (ne_meth1 3 PySem.F.slot_list_extend PySem.F.type_list_extend mt_extend me_extend (no_e (ne_if (nt_cmp (op_eqN hr.units) no_eq (no_e (ne_ix (no_o 2) (no_e ne_int))) (no_e ne_str) rfl) (ne_l (neo_lc (own := [("_", 4), ("part", 5)]) rfl sc_23.nd (ni_v (ne_ix (no_o 2) (no_e ne_int))) (blkOk_by rfl) (fun s_ H_ C_ cl_ fp_ => (ng_tup rfl (ngs_cons (ng_name 4 sc_23.nd rfl (by first | exact Or.inl rfl | exact Or.inr rfl)) (ngs_cons (ng_name 5 sc_23.nd rfl (by first | exact Or.inl rfl | exact Or.inr rfl)) ngs_nil)) (gCons_len (gCons_len gNil_len)))) (fun s_ H_ C_ cl_ fp_ => pts_nilN) (fun s_ H_ C_ cl_ fp_ => (ne_ix (no_o 5) (no_e ne_int))))) (ne_l (neo_lst na_nil))))))
    (nss_one (ns_for (passes_of rfl) rfl (ni_v (ne_f 3)) (ng_name 6 sc_23.nd rfl (by first | exact Or.inl rfl | exact Or.inr rfl)) (nss_one (ns_asg (ne_op op_fdivNN no_fdiv (no_e (ne_op op_mulN no_mul (no_o 1) (no_o 6))) (no_e (ne_call ((n_9 T T.d_shared).mono (by first | omega | exact Nat.le_trans (by decide) (Nat.le_add_right _ _))) hr (takes_of rfl rfl rfl rfl) (na_cons (no_o 1) (na_cons (no_o 6) na_nil)) rfl rfl (aCons_len (aCons_len aNil_len))))) (ng_name 1 sc_23.nd rfl (by first | exact Or.inl rfl | exact Or.inr rfl)))))))))
    (nss_one (ns_ret (ne_v 1)))))
theorem sc_24 : FnScope ["steps", "value", "whole", "found", "at", "first", "n", "d", "behind"] ["steps", "value", "whole"] (defScope (top 24)) := ⟨rfl, rfl, rfl, by decide +kernel, rfl, by decide +kernel, by decide +kernel⟩
def B_24 : NStm :=
  sSeq (sAsg (nC (.int 0)) (gN 3))
  (sSeq (sFor (iEn2 (aCons (.e (nF 0)) (aNil))) (gT (gCons' (gN 4) (gCons' (gT (gCons' (gN 5) (gCons' (gT (gCons' (gN 6) (gCons' (gN 7) (gNil')))) (gNil')))) (gNil')))) (sSeq (sAsg (nIf (asB (nOp2 oEq (.e (nOp2 oAdd (.o 4) (.e (nC (.int 1))))) (.e (nCB bLen (aCons (.o 0) (aNil)))))) (nF 1) (nCB bMin (aCons (.o 1) (aCons (.e (nOp2 oIx (.e (nOp2 oIx (.o 0) (.e (nOp2 oAdd (.o 4) (.e (nC (.int 1))))))) (.e (nC (.int 0))))) (aNil))))) (gN 8))
  (sAug 3 oAddI (.e (nOp2 oMul (.e (nOp2 oMul (.e (nCB bMax (aCons (.e (nC (.int 0))) (aCons (.e (nOp2 oSub (.o 8) (.o 5))) (aNil))))) (.e (nOp2 oFdiv (.o 2) (.o 7))))) (.o 6))))))
  (sRet (nV 3)))
def D_24 : NExp := runD 9 B_24
theorem n_24 {x : Str} (T : Tx K mg) (h : DefIn K mg x "steps_times" (top 24)) : NFn P w K mg base 1 x 3 D_24 := by
  obtain ⟨f, fd, F0, hm⟩ := h.ex
  exact NFn.of F0 hm sc_24 (FunD.bindsN (ps := ["steps", "value", "whole"]) F0 fun _ _ _ _ _ _ us hl => match us, hl with | [_, _, _], _ => rfl) rfl fun cdv A outer s H E hr => by exact (nss_cons (ns_asg ne_int (ng_name 3 sc_24.nd rfl (by first | exact Or.inl rfl | exact Or.inr rfl)))
    (nss_cons (ns_for (passes_of rfl) rfl (ni_enum2 T.f_enumerate (na_cons (no_e (ne_f 0)) na_nil)) (ng_tup rfl (ngs_cons (ng_name 4 sc_24.nd rfl (by first | exact Or.inl rfl | exact Or.inr rfl)) (ngs_cons (ng_tup rfl (ngs_cons (ng_name 5 sc_24.nd rfl (by first | exact Or.inl rfl | exact Or.inr rfl)) (ngs_cons (ng_tup rfl (ngs_cons (ng_name 6 sc_24.nd rfl (by first | exact Or.inl rfl | exact Or.inr rfl)) (ngs_cons (ng_name 7 sc_24.nd rfl (by first | exact Or.inl rfl | exact Or.inr rfl)) ngs_nil)) (gCons_len (gCons_len gNil_len))) ngs_nil)) (gCons_len (gCons_len gNil_len))) ngs_nil)) (gCons_len (gCons_len gNil_len))) (nss_cons (ns_asg (ne_if (nt_cmp (op_eqN hr.units) no_eq (no_e (ne_op op_addN no_add (no_o 4) (no_e ne_int))) (no_e (ne_len T.f_len (na_cons (no_o 0) na_nil))) rfl) (ne_f 1) (ne_cb (cr_minN rfl) cn_min T.f_min bt_min (na_cons (no_o 1) (na_cons (no_e (ne_ix (no_e (ne_ix (no_o 0) (no_e (ne_op op_addN no_add (no_o 4) (no_e ne_int))))) (no_e ne_int))) na_nil)))) (ng_name 8 sc_24.nd rfl (by first | exact Or.inl rfl | exact Or.inr rfl)))
    (nss_one (ns_aug 3 ip_add no_addI (no_e (ne_op op_mulN no_mul (no_e (ne_op op_mulN no_mul (no_e (ne_cb (cr_maxN rfl) cn_max T.f_max bt_max (na_cons (no_e ne_int) (na_cons (no_e (ne_op op_sub no_sub (no_o 8) (no_o 5))) na_nil)))) (no_e (ne_op op_fdivNN no_fdiv (no_o 2) (no_o 7))))) (no_o 6))) sc_24.nd rfl (by first | exact Or.inl rfl | exact Or.inr rfl)))))
    (nss_one (ns_ret (ne_v 3)))))
theorem sc_25 : FnScope ["duty", "goods", "whole", "value", "pieces", "weight", "dues", "one"] ["duty", "goods", "whole"] (defScope (top 25)) := ⟨rfl, rfl, rfl, by decide +kernel, rfl, by decide +kernel, by decide +kernel⟩
def B_25 (D : NExp) : NStm :=
  sSeq (sAsg (nF 1) (gT (gCons' (gN 3) (gCons' (gN 4) (gCons' (gN 5) (gNil'))))))
  (sSeq (sIf (asB (nOp2 oEq (.e (nOp2 oIx (.o 0) (.e (nC (.int 0))))) (.e (nC (.str "free"))))) (sRet (nC (.int 0))) (sNil))
  (sSeq (sIf (asB (nOp2 oEq (.e (nOp2 oIx (.o 0) (.e (nC (.int 0))))) (.e (nC (.str "value"))))) (sRet (nOp2 oMul (.e (nOp2 oMul (.o 3) (.e (nOp2 oIx (.o 0) (.e (nC (.int 1))))))) (.e (nOp2 oFdiv (.o 2) (.e (nOp2 oIx (.o 0) (.e (nC (.int 2))))))))) (sNil))
  (sSeq (sIf (asB (nOp2 oIn (.e (nOp2 oIx (.o 0) (.e (nC (.int 0))))) (.e (nTup (aCons (.e (nC (.str "piece"))) (aCons (.e (nC (.str "weight"))) (aNil))))))) (sRet (nOp2 oMul (.e (nOp2 oMul (.e (nOp2 oIx (.o 0) (.e (nC (.int 1))))) (.o 2))) (.e (nIf (asB (nOp2 oEq (.e (nOp2 oIx (.o 0) (.e (nC (.int 0))))) (.e (nC (.str "piece"))))) (nV 4) (nV 5))))) (sNil))
  (sSeq (sIf (asB (nOp2 oEq (.e (nOp2 oIx (.o 0) (.e (nC (.int 0))))) (.e (nC (.str "steps"))))) (sRet (nCall D_24 (aCons (.e (nOp2 oIx (.o 0) (.e (nC (.int 1))))) (aCons (.o 3) (aCons (.o 2) (aNil)))))) (sNil))
  (sSeq (sSetL 6 (nLc (iV (nOp2 oIx (.o 0) (.e (nC (.int 1))))) (gN 7) (tYesN) (nCall D (aCons (.o 7) (aCons (.o 1) (aCons (.o 2) (aNil))))) [7]))
  (sSeq (sIf (asB (nOp2 oEq (.e (nOp2 oIx (.o 0) (.e (nC (.int 0))))) (.e (nC (.str "most"))))) (sRet (nCB bMax (aCons (.o 6) (aNil)))) (sNil))
  (sRet (nIf (asB (nOp2 oEq (.e (nOp2 oIx (.o 0) (.e (nC (.int 0))))) (.e (nC (.str "least"))))) (nCB bMin (aCons (.o 6) (aNil))) (nCB bSum (aCons (.o 6) (aNil)))))))))))
def D_25 : Nat → NExp
  | 0 => fun _ => .bad
  | k + 1 => runD 8 (B_25 (D_25 k))
theorem n_25 (T : Tx K mg) (h : DefIn K mg "due_times" "due_times" (top 25)) (fu : Nat) : NFn P w K mg base (1 + fu) "due_times" 3 (D_25 fu) := by
  obtain ⟨f, fd, F0, hm⟩ := h.ex
  induction fu with
  | zero => exact NFn.bad F0 hm (FunD.bindsN (ps := ["duty", "goods", "whole"]) F0 fun _ _ _ _ _ _ us hl => match us, hl with | [_, _, _], _ => rfl)
  | succ k ih =>
    exact NFn.of F0 hm sc_25 (FunD.bindsN (ps := ["duty", "goods", "whole"]) F0 fun _ _ _ _ _ _ us hl => match us, hl with | [_, _, _], _ => rfl) rfl fun cdv A outer s H E hr => by exact (nss_cons (ns_asg (ne_f 1) (ng_tup rfl (ngs_cons (ng_name 3 sc_25.nd rfl (by first | exact Or.inl rfl | exact Or.inr rfl)) (ngs_cons (ng_name 4 sc_25.nd rfl (by first | exact Or.inl rfl | exact Or.inr rfl)) (ngs_cons (ng_name 5 sc_25.nd rfl (by first | exact Or.inl rfl | exact Or.inr rfl)) ngs_nil))) (gCons_len (gCons_len (gCons_len gNil_len)))))
    (nss_cons (ns_if (nt_cmp (op_eqN hr.units) no_eq (no_e (ne_ix (no_o 0) (no_e ne_int))) (no_e ne_str) rfl) (nss_one (ns_ret ne_int)) nss_nil)
    (nss_cons (ns_if (nt_cmp (op_eqN hr.units) no_eq (no_e (ne_ix (no_o 0) (no_e ne_int))) (no_e ne_str) rfl) (nss_one (ns_ret (ne_op op_mulN no_mul (no_e (ne_op op_mulN no_mul (no_o 3) (no_e (ne_ix (no_o 0) (no_e ne_int))))) (no_e (ne_op op_fdivNN no_fdiv (no_o 2) (no_e (ne_ix (no_o 0) (no_e ne_int)))))))) nss_nil)
    (nss_cons (ns_if (nt_cmp (op_inN (u65 hr)) no_in (no_e (ne_ix (no_o 0) (no_e ne_int))) (no_e (ne_tup (na_cons (no_e ne_str) (na_cons (no_e ne_str) na_nil)))) rfl) (nss_one (ns_ret (ne_op op_mulN no_mul (no_e (ne_op op_mulN no_mul (no_e (ne_ix (no_o 0) (no_e ne_int))) (no_o 2))) (no_e (ne_if (nt_cmp (op_eqN hr.units) no_eq (no_e (ne_ix (no_o 0) (no_e ne_int))) (no_e ne_str) rfl) (ne_v 4) (ne_v 5)))))) nss_nil)
    (nss_cons (ns_if (nt_cmp (op_eqN hr.units) no_eq (no_e (ne_ix (no_o 0) (no_e ne_int))) (no_e ne_str) rfl) (nss_one (ns_ret (ne_call ((n_24 T T.d_steps_times).mono (by first | omega | exact Nat.le_trans (by decide) (Nat.le_add_right _ _))) hr (takes_of rfl rfl rfl rfl) (na_cons (no_e (ne_ix (no_o 0) (no_e ne_int))) (na_cons (no_o 3) (na_cons (no_o 2) na_nil))) rfl rfl (aCons_len (aCons_len (aCons_len aNil_len)))))) nss_nil)
    (nss_cons (ns_setLc (own := [("one", 7)]) 6 rfl sc_25.nd rfl rfl rfl (ni_v (ne_ix (no_o 0) (no_e ne_int))) (blkOk_by rfl) (fun s_ H_ C_ cl_ fp_ => (ng_name 7 sc_25.nd rfl (by first | exact Or.inl rfl | exact Or.inr rfl))) (fun s_ H_ C_ cl_ fp_ => pts_nilN) (fun s_ H_ C_ cl_ fp_ => (ne_call ih hr takes0 (na_cons (no_o 7) (na_cons (no_o 1) (na_cons (no_o 2) na_nil))) rfl rfl (aCons_len (aCons_len (aCons_len aNil_len))))))
    (nss_cons (ns_if (nt_cmp (op_eqN hr.units) no_eq (no_e (ne_ix (no_o 0) (no_e ne_int))) (no_e ne_str) rfl) (nss_one (ns_ret (ne_cb (cr_maxN rfl) cn_max T.f_max bt_max (na_cons (no_o 6) na_nil)))) nss_nil)
    (nss_one (ns_ret (ne_if (nt_cmp (op_eqN hr.units) no_eq (no_e (ne_ix (no_o 0) (no_e ne_int))) (no_e ne_str) rfl) (ne_cb (cr_minN rfl) cn_min T.f_min bt_min (na_cons (no_o 6) na_nil)) (ne_cb (cr_sum rfl) cn_sum T.f_sum bt_sum (na_cons (no_o 6) na_nil))))))))))))
theorem sc_26 : FnScope ["duty", "goods", "whole"] ["duty", "goods"] (defScope (top 26)) := ⟨rfl, rfl, rfl, by decide +kernel, rfl, by decide +kernel, by decide +kernel⟩
def B_26 : NStm :=
  sSeq (sAsg (nCall D_23 (aCons (.o 0) (aNil))) (gN 2))
  (sRet (nCall D_10 (aCons (.e (nCall (D_25 12) (aCons (.o 0) (aCons (.o 1) (aCons (.o 2) (aNil)))))) (aCons (.o 2) (aNil)))))
def D_26 : NExp := runD 3 B_26
theorem n_26 {x : Str} (T : Tx K mg) (h : DefIn K mg x "due_by" (top 26)) : NFn P w K mg base 15 x 2 D_26 := by
  obtain ⟨f, fd, F0, hm⟩ := h.ex
  exact NFn.of F0 hm sc_26 (FunD.bindsN (ps := ["duty", "goods"]) F0 fun _ _ _ _ _ _ us hl => match us, hl with | [_, _], _ => rfl) rfl fun cdv A outer s H E hr => by exact (nss_cons (ns_asg (ne_call ((n_23 T T.d_whole_of).mono (by first | omega | exact Nat.le_trans (by decide) (Nat.le_add_right _ _))) hr (takes_of rfl rfl rfl rfl) (na_cons (no_o 0) na_nil) rfl rfl (aCons_len aNil_len)) (ng_name 2 sc_26.nd rfl (by first | exact Or.inl rfl | exact Or.inr rfl)))
    (nss_one (ns_ret (ne_call ((n_10 T T.d_ratio).mono (by first | omega | exact Nat.le_trans (by decide) (Nat.le_add_right _ _))) hr (takes_of rfl rfl rfl rfl) (na_cons (no_e (ne_call ((n_25 T T.d_due_times 12).mono (by first | omega | exact Nat.le_trans (by decide) (Nat.le_add_right _ _))) hr (takes_of rfl rfl rfl rfl) (na_cons (no_o 0) (na_cons (no_o 1) (na_cons (no_o 2) na_nil))) rfl rfl (aCons_len (aCons_len (aCons_len aNil_len))))) (na_cons (no_o 2) na_nil)) rfl rfl (aCons_len (aCons_len aNil_len))))))
theorem sc_27 : FnScope ["duty", "goods"] ["duty", "goods"] (defScope (top 27)) := ⟨rfl, rfl, rfl, by decide +kernel, rfl, by decide +kernel, by decide +kernel⟩
def B_27 : NStm :=
  sSeq (sExpr (nCall D_21 (aCons (.o 0) (aCons (.o 1) (aNil)))))
  (sRet (nCall D_26 (aCons (.o 0) (aCons (.o 1) (aNil)))))
def D_27 : NExp := runD 2 B_27
theorem n_27 {x : Str} (T : Tx K mg) (h : DefIn K mg x "due_of" (top 27)) : NFn P w K mg base 16 x 2 D_27 := by
  obtain ⟨f, fd, F0, hm⟩ := h.ex
  exact NFn.of F0 hm sc_27 (FunD.bindsN (ps := ["duty", "goods"]) F0 fun _ _ _ _ _ _ us hl => match us, hl with | [_, _], _ => rfl) rfl fun cdv A outer s H E hr => by exact (nss_cons (ns_expr (ne_call ((n_21 T T.d_check_both).mono (by first | omega | exact Nat.le_trans (by decide) (Nat.le_add_right _ _))) hr (takes_of rfl rfl rfl rfl) (na_cons (no_o 0) (na_cons (no_o 1) na_nil)) rfl rfl (aCons_len (aCons_len aNil_len))))
    (nss_one (ns_ret (ne_call ((n_26 T T.d_due_by).mono (by first | omega | exact Nat.le_trans (by decide) (Nat.le_add_right _ _))) hr (takes_of rfl rfl rfl rfl) (na_cons (no_o 0) (na_cons (no_o 1) na_nil)) rfl rfl (aCons_len (aCons_len aNil_len))))))
theorem sc_28 : FnScope ["duty", "inner", "one"] ["duty"] (defScope (top 28)) := ⟨rfl, rfl, rfl, by decide +kernel, rfl, by decide +kernel, by decide +kernel⟩
def B_28 (D : NExp) : NStm :=
  sSeq (sIf (asB (nOp2 oNotIn (.e (nOp2 oIx (.o 0) (.e (nC (.int 0))))) (.e (nC (.tuple [(.str "most"), (.str "least"), (.str "sum")]))))) (sRet (nF 0)) (sNil))
  (sSeq (sAsg (nCB bTuple (aCons (.e (nL (nLc (iV (nOp2 oIx (.o 0) (.e (nC (.int 1))))) (gN 2) (tYesN) (nCall D (aCons (.o 2) (aNil))) [2]))) (aNil))) (gN 1))
  (sSeq (sIf (asB (nOp2 oEq (.e (nOp2 oIx (.o 0) (.e (nC (.int 0))))) (.e (nC (.str "sum"))))) (sAsg (nCB bTuple (aCons (.e (nL (nLc (iV (nV 1)) (gN 2) (asB (nOp2 oNe (.o 2) (.e (nTup (aCons (.e (nC (.str "free"))) (aNil)))))) (nV 2) [2]))) (aNil))) (gN 1)) (sNil))
  (sSeq (sIf (asB (nOp2 oEq (.e (nCB bLen (aCons (.o 1) (aNil)))) (.e (nC (.int 0))))) (sRet (nTup (aCons (.e (nC (.str "free"))) (aNil)))) (sNil))
  (sRet (nIf (asB (nOp2 oEq (.e (nCB bLen (aCons (.o 1) (aNil)))) (.e (nC (.int 1))))) (nOp2 oIx (.o 1) (.e (nC (.int 0)))) (nTup (aCons (.e (nOp2 oIx (.o 0) (.e (nC (.int 0))))) (aCons (.e (nV 1)) (aNil)))))))))
def D_28 : Nat → NExp
  | 0 => fun _ => .bad
  | k + 1 => runD 3 (B_28 (D_28 k))
theorem n_28 (T : Tx K mg) (h : DefIn K mg "simplified_by" "simplified_by" (top 28)) (fu : Nat) : NFn P w K mg base (0 + fu) "simplified_by" 1 (D_28 fu) := by
  obtain ⟨f, fd, F0, hm⟩ := h.ex
  induction fu with
  | zero => exact NFn.bad F0 hm (FunD.bindsN (ps := ["duty"]) F0 fun _ _ _ _ _ _ us hl => match us, hl with | [_], _ => rfl)
  | succ k ih =>
    exact NFn.of F0 hm sc_28 (FunD.bindsN (ps := ["duty"]) F0 fun _ _ _ _ _ _ us hl => match us, hl with | [_], _ => rfl) rfl fun cdv A outer s H E hr => by exact (nss_cons (ns_if (nt_cmp (op_notInN (u65 hr)) no_notin (no_e (ne_ix (no_o 0) (no_e ne_int))) (no_e (ne_g T.g_GROUPS)) rfl) (nss_one (ns_ret (ne_f 0))) nss_nil)
    (nss_cons (ns_asg (ne_cty call_tuple_of cn_tuple T.f_tuple bt_tuple (na_cons (no_e (ne_l (neo_lc (own := [("one", 2)]) rfl sc_28.nd (ni_v (ne_ix (no_o 0) (no_e ne_int))) (blkOk_by rfl) (fun s_ H_ C_ cl_ fp_ => (ng_name 2 sc_28.nd rfl (by first | exact Or.inl rfl | exact Or.inr rfl))) (fun s_ H_ C_ cl_ fp_ => pts_nilN) (fun s_ H_ C_ cl_ fp_ => (ne_call ih hr takes0 (na_cons (no_o 2) na_nil) rfl rfl (aCons_len aNil_len)))))) na_nil)) (ng_name 1 sc_28.nd rfl (by first | exact Or.inl rfl | exact Or.inr rfl)))
    (nss_cons (ns_if (nt_cmp (op_eqN hr.units) no_eq (no_e (ne_ix (no_o 0) (no_e ne_int))) (no_e ne_str) rfl) (nss_one (ns_asg (ne_cty call_tuple_of cn_tuple T.f_tuple bt_tuple (na_cons (no_e (ne_l (neo_lc (own := [("one", 2)]) rfl sc_28.nd (ni_v (ne_v 1)) (blkOk_by rfl) (fun s_ H_ C_ cl_ fp_ => (ng_name 2 sc_28.nd rfl (by first | exact Or.inl rfl | exact Or.inr rfl))) (fun s_ H_ C_ cl_ fp_ => (pts_oneN (nt_cmp (op_neN hr.units) no_ne (no_o 2) (no_e (ne_tup (na_cons (no_e ne_str) na_nil))) rfl))) (fun s_ H_ C_ cl_ fp_ => (ne_v 2))))) na_nil)) (ng_name 1 sc_28.nd rfl (by first | exact Or.inl rfl | exact Or.inr rfl)))) nss_nil)
    (nss_cons (ns_if (nt_cmp (op_eqN hr.units) no_eq (no_e (ne_len T.f_len (na_cons (no_o 1) na_nil))) (no_e ne_int) rfl) (nss_one (ns_ret (ne_tup (na_cons (no_e ne_str) na_nil)))) nss_nil)
    (nss_one (ns_ret (ne_if (nt_cmp (op_eqN hr.units) no_eq (no_e (ne_len T.f_len (na_cons (no_o 1) na_nil))) (no_e ne_int) rfl) (ne_ix (no_o 1) (no_e ne_int)) (ne_tup (na_cons (no_e (ne_ix (no_o 0) (no_e ne_int))) (na_cons (no_e (ne_v 1)) na_nil))))))))))
theorem sc_29 : FnScope ["duty"] ["duty"] (defScope (top 29)) := ⟨rfl, rfl, rfl, by decide +kernel, rfl, by decide +kernel, by decide +kernel⟩
def B_29 : NStm :=
  sSeq (sExpr (nCall D_8 (aCons (.e (nCall D_19 (aCons (.o 0) (aNil)))) (aNil))))
  (sRet (nCall (D_28 12) (aCons (.o 0) (aNil))))
def D_29 : NExp := runD 1 B_29
theorem n_29 {x : Str} (T : Tx K mg) (h : DefIn K mg x "simplified" (top 29)) : NFn P w K mg base 14 x 1 D_29 := by
  obtain ⟨f, fd, F0, hm⟩ := h.ex
  exact NFn.of F0 hm sc_29 (FunD.bindsN (ps := ["duty"]) F0 fun _ _ _ _ _ _ us hl => match us, hl with | [_], _ => rfl) rfl fun cdv A outer s H E hr => by exact (nss_cons (ns_expr (ne_call ((n_8 T T.d_check).mono (by first | omega | exact Nat.le_trans (by decide) (Nat.le_add_right _ _))) hr (takes_of rfl rfl rfl rfl) (na_cons (no_e (ne_call ((n_19 T T.d_is_duty).mono (by first | omega | exact Nat.le_trans (by decide) (Nat.le_add_right _ _))) hr (takes_of rfl rfl rfl rfl) (na_cons (no_o 0) na_nil) rfl rfl (aCons_len aNil_len))) na_nil) rfl rfl (aCons_len aNil_len)))
    (nss_one (ns_ret (ne_call ((n_28 T T.d_simplified_by 12).mono (by first | omega | exact Nat.le_trans (by decide) (Nat.le_add_right _ _))) hr (takes_of rfl rfl rfl rfl) (na_cons (no_o 0) na_nil) rfl rfl (aCons_len aNil_len)))))
theorem sc_32 : FnScope ["one", "other", "goods", "whole", "value", "own"] ["one", "other", "goods"] (defScope (top 32)) := ⟨rfl, rfl, rfl, by decide +kernel, rfl, by decide +kernel, by decide +kernel⟩
def B_32 : NStm :=
  sSeq (sExpr (nCall D_8 (aCons (.e (nCall D_19 (aCons (.o 0) (aNil)))) (aNil))))
  (sSeq (sExpr (nCall D_21 (aCons (.o 1) (aCons (.o 2) (aNil)))))
  (sSeq (sAsg (nOp2 oMul (.e (nCall D_23 (aCons (.o 0) (aNil)))) (.e (nCall D_23 (aCons (.o 1) (aNil))))) (gN 3))
  (sSeq (sFor (iRg1 (aCons (.e (nOp2 oAdd (.e (nC (.int 10000))) (.e (nC (.int 1))))) (aNil))) (gN 4) (sSeq (sAsg (nTup (aCons (.e (nV 4)) (aStar (.e (nSl (.o 2) (pSome (nC (.int 1))) (pNone))) (aNil)))) (gN 5))
  (sIf (asB (nOp2 oLt (.e (nCall (D_25 12) (aCons (.o 1) (aCons (.o 5) (aCons (.o 3) (aNil)))))) (.e (nCall (D_25 12) (aCons (.o 0) (aCons (.o 5) (aCons (.o 3) (aNil)))))))) (sRet (nV 4)) (sNil))))
  (sRet (nC .none)))))
def D_32 : NExp := runD 6 B_32
theorem n_32 {x : Str} (T : Tx K mg) (h : DefIn K mg x "crossing" (top 32)) : NFn P w K mg base 15 x 3 D_32 := by
  obtain ⟨f, fd, F0, hm⟩ := h.ex
  exact NFn.of F0 hm sc_32 (FunD.bindsN (ps := ["one", "other", "goods"]) F0 fun _ _ _ _ _ _ us hl => match us, hl with | [_, _, _], _ => rfl) rfl fun cdv A outer s H E hr => by exact (nss_cons (ns_expr (ne_call ((n_8 T T.d_check).mono (by first | omega | exact Nat.le_trans (by decide) (Nat.le_add_right _ _))) hr (takes_of rfl rfl rfl rfl) (na_cons (no_e (ne_call ((n_19 T T.d_is_duty).mono (by first | omega | exact Nat.le_trans (by decide) (Nat.le_add_right _ _))) hr (takes_of rfl rfl rfl rfl) (na_cons (no_o 0) na_nil) rfl rfl (aCons_len aNil_len))) na_nil) rfl rfl (aCons_len aNil_len)))
    (nss_cons (ns_expr (ne_call ((n_21 T T.d_check_both).mono (by first | omega | exact Nat.le_trans (by decide) (Nat.le_add_right _ _))) hr (takes_of rfl rfl rfl rfl) (na_cons (no_o 1) (na_cons (no_o 2) na_nil)) rfl rfl (aCons_len (aCons_len aNil_len))))
    (nss_cons (ns_asg (ne_op op_mulN no_mul (no_e (ne_call ((n_23 T T.d_whole_of).mono (by first | omega | exact Nat.le_trans (by decide) (Nat.le_add_right _ _))) hr (takes_of rfl rfl rfl rfl) (na_cons (no_o 0) na_nil) rfl rfl (aCons_len aNil_len))) (no_e (ne_call ((n_23 T T.d_whole_of).mono (by first | omega | exact Nat.le_trans (by decide) (Nat.le_add_right _ _))) hr (takes_of rfl rfl rfl rfl) (na_cons (no_o 1) na_nil) rfl rfl (aCons_len aNil_len)))) (ng_name 3 sc_32.nd rfl (by first | exact Or.inl rfl | exact Or.inr rfl)))
    (nss_cons (ns_for (passes_of rfl) rfl (ni_rg1 T.f_range (na_cons (no_e (ne_op op_addN no_add (no_e (ne_g T.g_MOST_CROSSED)) (no_e ne_int))) na_nil)) (ng_name 4 sc_32.nd rfl (by first | exact Or.inl rfl | exact Or.inr rfl)) (nss_cons (ns_asg (ne_tup (na_cons (no_e (ne_v 4)) (na_star (no_e (ne_sl (no_o 2) (np_some ne_int) np_none)) na_nil))) (ng_name 5 sc_32.nd rfl (by first | exact Or.inl rfl | exact Or.inr rfl)))
    (nss_one (ns_if (nt_cmp (op_ltN hr.units) no_lt (no_e (ne_call ((n_25 T T.d_due_times 12).mono (by first | omega | exact Nat.le_trans (by decide) (Nat.le_add_right _ _))) hr (takes_of rfl rfl rfl rfl) (na_cons (no_o 1) (na_cons (no_o 5) (na_cons (no_o 3) na_nil))) rfl rfl (aCons_len (aCons_len (aCons_len aNil_len))))) (no_e (ne_call ((n_25 T T.d_due_times 12).mono (by first | omega | exact Nat.le_trans (by decide) (Nat.le_add_right _ _))) hr (takes_of rfl rfl rfl rfl) (na_cons (no_o 0) (na_cons (no_o 5) (na_cons (no_o 3) na_nil))) rfl rfl (aCons_len (aCons_len (aCons_len aNil_len))))) rfl) (nss_one (ns_ret (ne_v 4))) nss_nil))))
    (nss_one (ns_ret ne_none))))))
theorem sc_34 : FnScope ["script", "draws", "seed", "cell", "number", "k"] ["script"] (defScope (top 34)) := ⟨rfl, rfl, rfl, by decide +kernel, rfl, by decide +kernel, by decide +kernel⟩
def B_34 : NSt → R (List PyData) :=
  sSeqO (sOwn 1 (nLstO (aNil)))
  (sSeqO (sAsg (nC (.int 11)) (gN 2))
  (sSeqO (sFor (iScr 0) (gN 3) (sSeq (sAsg (nCB bAbs (aCons (.e (nCB bInt (aCons (.o 3) (aNil)))) (aNil))) (gN 4))
  (sSeq (sAsg (nOp2 oMod (.e (nCB bInt (aCons (.e (nOp2 oAdd (.e (nOp2 oAdd (.e (nOp2 oMul (.o 2) (.e (nC (.int 48271))))) (.o 4))) (.e (nC (.int 1))))) (aNil)))) (.e (nC (.int 2147483647)))) (gN 2))
  (sSeq (sIf (asB (nOp2 oLt (.o 4) (.e (nOp2 oPow (.e (nC (.int 10))) (.e (nC (.int 18))))))) (sSeq (sExpr (nAppend 1 (nOp2 oMod (.e (nCB bInt (aCons (.o 4) (aNil)))) (.e (nC (.int 997))))))
  (sSeq (sExpr (nAppend 1 (nOp2 oMod (.e (nCB bInt (aCons (.o 2) (aNil)))) (.e (nC (.int 65521))))))
  (sAsg (nC (.int 0)) (gN 4)))) (sNil))
  (sFor (iRg1 (aCons (.e (nC (.int 60))) (aNil))) (gN 5) (sIf (asB (nOp2 oGt (.o 4) (.e (nC (.int 0))))) (sSeq (sExpr (nAppend 1 (nOp2 oMod (.e (nCB bInt (aCons (.o 4) (aNil)))) (.e (nC (.int 997))))))
  (sAsg (nOp2 oFdiv (.o 4) (.e (nC (.int 997)))) (gN 4))) (sNil)))))))
  (sSeqO (sFor (iRg1 (aCons (.e (nC (.int 900))) (aNil))) (gN 5) (sSeq (sAsg (nOp2 oMod (.e (nCB bInt (aCons (.e (nOp2 oAdd (.e (nOp2 oMul (.o 2) (.e (nC (.int 48271))))) (.e (nC (.int 69621))))) (aNil)))) (.e (nC (.int 2147483647)))) (gN 2))
  (sExpr (nAppend 1 (nOp2 oFdiv (.o 2) (.e (nC (.int 5))))))))
  (nLstRev (.o 1)))))
def D_34 : NSt → R (List PyData) := runDO 6 B_34
theorem n_34 {x : Str} (T : Tx K mg) (h : DefIn K mg x "_law_draws" (top 34)) : NFnO P w K mg base 1 x 1 D_34 := by
  obtain ⟨f, fd, F0, hm⟩ := h.ex
  exact NFnO.of F0 hm sc_34 (FunD.bindsN (ps := ["script"]) F0 fun _ _ _ _ _ _ us hl => match us, hl with | [_], _ => rfl) rfl fun cdv A outer s H E hr => by exact (nso_cons (ns_own 1 sc_34.nd rfl (by first | exact Or.inl rfl | exact Or.inr rfl) (neo_lst na_nil))
    (nso_cons (ns_asg ne_int (ng_name 2 sc_34.nd rfl (by first | exact Or.inl rfl | exact Or.inr rfl)))
    (nso_cons (ns_for (passes_of rfl) rfl (ni_scr 0) (ng_name 3 sc_34.nd rfl (by first | exact Or.inl rfl | exact Or.inr rfl)) (nss_cons (ns_asg (ne_cb call_abs cn_abs T.f_abs bt_abs (na_cons (no_e (ne_cty call_int1 cn_int T.f_int bt_int (na_cons (no_o 3) na_nil))) na_nil)) (ng_name 4 sc_34.nd rfl (by first | exact Or.inl rfl | exact Or.inr rfl)))
    (nss_cons (ns_asg (ne_op op_modN no_mod (no_e (ne_cty call_int1 cn_int T.f_int bt_int (na_cons (no_e (ne_op op_addN no_add (no_e (ne_op op_addN no_add (no_e (ne_op op_mulN no_mul (no_o 2) (no_e ne_int))) (no_o 4))) (no_e ne_int))) na_nil))) (no_e ne_int)) (ng_name 2 sc_34.nd rfl (by first | exact Or.inl rfl | exact Or.inr rfl)))
    (nss_cons (ns_if (nt_cmp (op_ltN hr.units) no_lt (no_o 4) (no_e (ne_op op_pow no_pow (no_e ne_int) (no_e ne_int))) rfl) (nss_cons (ns_expr (ne_append 1 (ne_op op_modN no_mod (no_e (ne_cty call_int1 cn_int T.f_int bt_int (na_cons (no_o 4) na_nil))) (no_e ne_int))))
    (nss_cons (ns_expr (ne_append 1 (ne_op op_modN no_mod (no_e (ne_cty call_int1 cn_int T.f_int bt_int (na_cons (no_o 2) na_nil))) (no_e ne_int))))
    (nss_one (ns_asg ne_int (ng_name 4 sc_34.nd rfl (by first | exact Or.inl rfl | exact Or.inr rfl)))))) nss_nil)
    (nss_one (ns_for (passes_of rfl) rfl (ni_rg1 T.f_range (na_cons (no_e ne_int) na_nil)) (ng_name 5 sc_34.nd rfl (by first | exact Or.inl rfl | exact Or.inr rfl)) (nss_one (ns_if (nt_cmp op_gtN no_gt (no_o 4) (no_e ne_int) rfl) (nss_cons (ns_expr (ne_append 1 (ne_op op_modN no_mod (no_e (ne_cty call_int1 cn_int T.f_int bt_int (na_cons (no_o 4) na_nil))) (no_e ne_int))))
    (nss_one (ns_asg (ne_op op_fdivNN no_fdiv (no_o 4) (no_e ne_int)) (ng_name 4 sc_34.nd rfl (by first | exact Or.inl rfl | exact Or.inr rfl))))) nss_nil))))))))
    (nso_cons (ns_for (passes_of rfl) rfl (ni_rg1 T.f_range (na_cons (no_e ne_int) na_nil)) (ng_name 5 sc_34.nd rfl (by first | exact Or.inl rfl | exact Or.inr rfl)) (nss_cons (ns_asg (ne_op op_modN no_mod (no_e (ne_cty call_int1 cn_int T.f_int bt_int (na_cons (no_e (ne_op op_addN no_add (no_e (ne_op op_mulN no_mul (no_o 2) (no_e ne_int))) (no_e ne_int))) na_nil))) (no_e ne_int)) (ng_name 2 sc_34.nd rfl (by first | exact Or.inl rfl | exact Or.inr rfl)))
    (nss_one (ns_expr (ne_append 1 (ne_op op_fdivNN no_fdiv (no_o 2) (no_e ne_int)))))))
    (nso_ret (neo_listRev rfl T.f_list T.f_reversed (no_o 1)))))))
theorem sc_35 : FnScope ["draws", "bound"] ["draws", "bound"] (defScope (top 35)) := ⟨rfl, rfl, rfl, by decide +kernel, rfl, by decide +kernel, by decide +kernel⟩
def B_35 : NStm :=
  sSeq (sIf (asB (nOp2 oEq (.e (nCB bLen (aCons (.o 0) (aNil)))) (.e (nC (.int 0))))) (sRet (nC (.int 0))) (sNil))
  (sRet (nOp2 oMod (.e (nCB bInt (aCons (.e (nPop 0)) (aNil)))) (.o 1)))
def D_35 : NExp := runD 2 B_35
theorem n_35 {x : Str} (T : Tx K mg) (h : DefIn K mg x "_law_take" (top 35)) : NFn P w K mg base 1 x 2 D_35 := by
  obtain ⟨f, fd, F0, hm⟩ := h.ex
  exact NFn.of F0 hm sc_35 (FunD.bindsN (ps := ["draws", "bound"]) F0 fun _ _ _ _ _ _ us hl => match us, hl with | [_, _], _ => rfl) rfl fun cdv A outer s H E hr => by exact (nss_cons (ns_if (nt_cmp (op_eqN hr.units) no_eq (no_e (ne_len T.f_len (na_cons (no_o 0) na_nil))) (no_e ne_int) rfl) (nss_one (ns_ret ne_int)) nss_nil)
    (nss_one (ns_ret (ne_op op_modN no_mod (no_e (ne_cty call_int1 cn_int T.f_int bt_int (na_cons (no_e (ne_pop 0)) na_nil))) (no_o 1)))))
theorem sc_36 : FnScope ["draws", "some"] ["draws", "some"] (defScope (top 36)) := ⟨rfl, rfl, rfl, by decide +kernel, rfl, by decide +kernel, by decide +kernel⟩
def B_36 : NStm :=
  sRet (nOp2 oIx (.o 1) (.e (nCall D_35 (aCons (.o 0) (aCons (.e (nCB bLen (aCons (.o 1) (aNil)))) (aNil))))))
def D_36 : NExp := runD 2 B_36
theorem n_36 {x : Str} (T : Tx K mg) (h : DefIn K mg x "_law_pick" (top 36)) : NFn P w K mg base 2 x 2 D_36 := by
  obtain ⟨f, fd, F0, hm⟩ := h.ex
  exact NFn.of F0 hm sc_36 (FunD.bindsN (ps := ["draws", "some"]) F0 fun _ _ _ _ _ _ us hl => match us, hl with | [_, _], _ => rfl) rfl fun cdv A outer s H E hr => by exact (nss_one (ns_ret (ne_ix (no_o 1) (no_e (ne_call ((n_35 T T.d__law_take).mono (by first | omega | exact Nat.le_trans (by decide) (Nat.le_add_right _ _))) hr (takes_of rfl rfl rfl rfl) (na_cons (no_o 0) (na_cons (no_e (ne_len T.f_len (na_cons (no_o 1) na_nil))) na_nil)) rfl rfl (aCons_len (aCons_len aNil_len)))))))
theorem sc_37 : FnScope ["actual", "due", "k", "key"] ["actual", "due"] (defScope (top 37)) := ⟨rfl, rfl, rfl, by decide +kernel, rfl, by decide +kernel, by decide +kernel⟩
def B_37 (D : NExp) : NStm :=
  sSeq (sIf (asB (nOp2 oIs (.o 1) (.e (nC .none)))) (sRet (nOp2 oIs (.o 0) (.e (nC .none)))) (sNil))
  (sSeq (sIf (tOr' (asT (.e (nIsi "tuple" (.o 1)))) (asT (.e (nIsi "list" (.o 1))))) (sSeq (sIf (tOr' (asB (nOp2 oNe (.e (nIsi "tuple" (.o 1))) (.e (nIsi "tuple" (.o 0))))) (asB (nOp2 oNe (.e (nIsi "list" (.o 1))) (.e (nIsi "list" (.o 0)))))) (sRet (nC (.bool false))) (sNil))
  (sSeq (sIf (asB (nOp2 oNe (.e (nCB bLen (aCons (.o 0) (aNil)))) (.e (nCB bLen (aCons (.o 1) (aNil)))))) (sRet (nC (.bool false))) (sNil))
  (sSeq (sFor (iRg1 (aCons (.e (nCB bLen (aCons (.o 1) (aNil)))) (aNil))) (gN 2) (sIf (tNot' (asT (.e (nCall D (aCons (.e (nOp2 oIx (.o 0) (.o 2))) (aCons (.e (nOp2 oIx (.o 1) (.o 2))) (aNil))))))) (sRet (nC (.bool false))) (sNil)))
  (sRet (nC (.bool true)))))) (sNil))
  (sSeq (sIf (asT (.e (nIsi "dict" (.o 1)))) (sSeq (sIf (tOr' (tNot' (asT (.e (nIsi "dict" (.o 0))))) (asB (nOp2 oNe (.e (nCB bLen (aCons (.o 0) (aNil)))) (.e (nCB bLen (aCons (.o 1) (aNil))))))) (sRet (nC (.bool false))) (sNil))
  (sRet (nOp2 oEq (.e (nL (nLc (iV (nF 1)) (gN 3) (tOr' (asB (nOp2 oNotIn (.o 3) (.o 0))) (tNot' (asT (.e (nCall D (aCons (.e (nOp2 oIx (.o 0) (.o 3))) (aCons (.e (nOp2 oIx (.o 1) (.o 3))) (aNil)))))))) (nV 3) [3]))) (.e (nL (nLstO (aNil))))))) (sNil))
  (sSeq (sIf (asB (nOp2 oNe (.e (nIsi "bool" (.o 1))) (.e (nIsi "bool" (.o 0))))) (sRet (nC (.bool false))) (sNil))
  (sSeq (sIf (tOr' (asB (nOp2 oNe (.e (nIsi "int" (.o 1))) (.e (nIsi "int" (.o 0))))) (asB (nOp2 oNe (.e (nIsi "str" (.o 1))) (.e (nIsi "str" (.o 0)))))) (sRet (nC (.bool false))) (sNil))
  (sRet (nOp2 oEq (.o 0) (.o 1)))))))
def D_37 : Nat → NExp
  | 0 => fun _ => .bad
  | k + 1 => runD 4 (B_37 (D_37 k))
theorem n_37 (T : Tx K mg) (h : DefIn K mg "_law_same" "_law_same" (top 37)) (fu : Nat) : NFn P w K mg base (0 + fu) "_law_same" 2 (D_37 fu) := by
  obtain ⟨f, fd, F0, hm⟩ := h.ex
  induction fu with
  | zero => exact NFn.bad F0 hm (FunD.bindsN (ps := ["actual", "due"]) F0 fun _ _ _ _ _ _ us hl => match us, hl with | [_, _], _ => rfl)
  | succ k ih =>
    exact NFn.of F0 hm sc_37 (FunD.bindsN (ps := ["actual", "due"]) F0 fun _ _ _ _ _ _ us hl => match us, hl with | [_, _], _ => rfl) rfl fun cdv A outer s H E hr => by exact (nss_cons (ns_if (nt_cmp op_isNN no_is (no_o 1) (no_e ne_none) rfl) (nss_one (ns_ret (ne_cmp op_isNN no_is (no_o 0) (no_e ne_none) rfl))) nss_nil)
    (nss_cons (ns_if (NW.t (nw_or (nt_t (no_e (ne_isi kit_tuple (no_o 1) T.f_isinstance T.f_tuple bt_tuple))) (nw_or1 (nt_t (no_e (ne_isi kit_list (no_o 1) T.f_isinstance T.f_list bt_list)))))) (nss_cons (ns_if (NW.t (nw_or (nt_cmp (op_neN hr.units) no_ne (no_e (ne_isi kit_tuple (no_o 1) T.f_isinstance T.f_tuple bt_tuple)) (no_e (ne_isi kit_tuple (no_o 0) T.f_isinstance T.f_tuple bt_tuple)) rfl) (nw_or1 (nt_cmp (op_neN hr.units) no_ne (no_e (ne_isi kit_list (no_o 1) T.f_isinstance T.f_list bt_list)) (no_e (ne_isi kit_list (no_o 0) T.f_isinstance T.f_list bt_list)) rfl)))) (nss_one (ns_ret ne_bool)) nss_nil)
    (nss_cons (ns_if (nt_cmp (op_neN hr.units) no_ne (no_e (ne_len T.f_len (na_cons (no_o 0) na_nil))) (no_e (ne_len T.f_len (na_cons (no_o 1) na_nil))) rfl) (nss_one (ns_ret ne_bool)) nss_nil)
    (nss_cons (ns_for (passes_of rfl) rfl (ni_rg1 T.f_range (na_cons (no_e (ne_len T.f_len (na_cons (no_o 1) na_nil))) na_nil)) (ng_name 2 sc_37.nd rfl (by first | exact Or.inl rfl | exact Or.inr rfl)) (nss_one (ns_if (nt_not (nt_t (no_e (ne_call ih hr (takes_of rfl rfl rfl rfl) (na_cons (no_e (ne_ix (no_o 0) (no_o 2))) (na_cons (no_e (ne_ix (no_o 1) (no_o 2))) na_nil)) rfl rfl (aCons_len (aCons_len aNil_len)))))) (nss_one (ns_ret ne_bool)) nss_nil)))
    (nss_one (ns_ret ne_bool))))) nss_nil)
    (nss_cons (ns_if (nt_t (no_e (ne_isi kit_dict (no_o 1) T.f_isinstance T.f_dict bt_dict))) (nss_cons (ns_if (NW.t (nw_or (nt_not (nt_t (no_e (ne_isi kit_dict (no_o 0) T.f_isinstance T.f_dict bt_dict)))) (nw_or1 (nt_cmp (op_neN hr.units) no_ne (no_e (ne_len T.f_len (na_cons (no_o 0) na_nil))) (no_e (ne_len T.f_len (na_cons (no_o 1) na_nil))) rfl)))) (nss_one (ns_ret ne_bool)) nss_nil)
    (nss_one (ns_ret (ne_cmp (op_eqN hr.units) no_eq (no_e (ne_l (neo_lc (own := [("key", 3)]) rfl sc_37.nd (ni_v (ne_f 1)) (blkOk_by rfl) (fun s_ H_ C_ cl_ fp_ => (ng_name 3 sc_37.nd rfl (by first | exact Or.inl rfl | exact Or.inr rfl))) (fun s_ H_ C_ cl_ fp_ => (pts_oneN (NW.t (nw_or (nt_cmp (op_notInN (u65 hr)) no_notin (no_o 3) (no_o 0) rfl) (nw_or1 (nt_not (nt_t (no_e (ne_call ih hr takes0 (na_cons (no_e (ne_ix (no_o 0) (no_o 3))) (na_cons (no_e (ne_ix (no_o 1) (no_o 3))) na_nil)) rfl rfl (aCons_len (aCons_len aNil_len))))))))))) (fun s_ H_ C_ cl_ fp_ => (ne_v 3))))) (no_e (ne_l (neo_lst na_nil))) rfl)))) nss_nil)
    (nss_cons (ns_if (nt_cmp (op_neN hr.units) no_ne (no_e (ne_isi kit_bool (no_o 1) T.f_isinstance T.f_bool bt_bool)) (no_e (ne_isi kit_bool (no_o 0) T.f_isinstance T.f_bool bt_bool)) rfl) (nss_one (ns_ret ne_bool)) nss_nil)
    (nss_cons (ns_if (NW.t (nw_or (nt_cmp (op_neN hr.units) no_ne (no_e (ne_isi kit_int (no_o 1) T.f_isinstance T.f_int bt_int)) (no_e (ne_isi kit_int (no_o 0) T.f_isinstance T.f_int bt_int)) rfl) (nw_or1 (nt_cmp (op_neN hr.units) no_ne (no_e (ne_isi kit_str (no_o 1) T.f_isinstance T.f_str bt_str)) (no_e (ne_isi kit_str (no_o 0) T.f_isinstance T.f_str bt_str)) rfl)))) (nss_one (ns_ret ne_bool)) nss_nil)
    (nss_one (ns_ret (ne_cmp (op_eqN hr.units) no_eq (no_o 0) (no_o 1) rfl))))))))
theorem sc_39 : FnScope ["a", "b", "x", "y", "turn"] ["a", "b"] (defScope (top 39)) := ⟨rfl, rfl, rfl, by decide +kernel, rfl, by decide +kernel, by decide +kernel⟩
def B_39 : NStm :=
  sSeq (sPar 2 3 (evV (nCB bAbs (aCons (.o 0) (aNil)))) (evV (nCB bAbs (aCons (.o 1) (aNil)))))
  (sSeq (sFor (iRg1 (aCons (.e (nC (.int 4000))) (aNil))) (gN 4) (sSeq (sIf (asB (nOp2 oEq (.o 3) (.e (nC (.int 0))))) (sBreak) (sNil))
  (sPar 2 3 (evV (nV 3)) (evV (nOp2 oMod (.e (nCB bInt (aCons (.o 2) (aNil)))) (.o 3))))))
  (sRet (nTup (aCons (.e (nOp2 oFdiv (.o 0) (.o 2))) (aCons (.e (nOp2 oFdiv (.o 1) (.o 2))) (aNil))))))
def D_39 : NExp := runD 5 B_39
theorem n_39 {x : Str} (T : Tx K mg) (h : DefIn K mg x "_law_ratio" (top 39)) : NFn P w K mg base 1 x 2 D_39 := by
  obtain ⟨f, fd, F0, hm⟩ := h.ex
  exact NFn.of F0 hm sc_39 (FunD.bindsN (ps := ["a", "b"]) F0 fun _ _ _ _ _ _ us hl => match us, hl with | [_, _], _ => rfl) rfl fun cdv A outer s H E hr => by exact (nss_cons (ns_par 2 3 rfl sc_39.nd rfl rfl (by decide) rfl rfl (nv_v (ne_cb call_abs cn_abs T.f_abs bt_abs (na_cons (no_o 0) na_nil))) (nv_v (ne_cb call_abs cn_abs T.f_abs bt_abs (na_cons (no_o 1) na_nil))))
    (nss_cons (ns_for (passes_of rfl) rfl (ni_rg1 T.f_range (na_cons (no_e ne_int) na_nil)) (ng_name 4 sc_39.nd rfl (by first | exact Or.inl rfl | exact Or.inr rfl)) (nss_cons (ns_if (nt_cmp (op_eqN hr.units) no_eq (no_o 3) (no_e ne_int) rfl) (nss_one ns_break) nss_nil)
    (nss_one (ns_par 2 3 rfl sc_39.nd rfl rfl (by decide) rfl rfl (nv_v (ne_v 3)) (nv_v (ne_op op_modN no_mod (no_e (ne_cty call_int1 cn_int T.f_int bt_int (na_cons (no_o 2) na_nil))) (no_o 3)))))))
    (nss_one (ns_ret (ne_tup (na_cons (no_e (ne_op op_fdivNN no_fdiv (no_o 0) (no_o 2))) (na_cons (no_e (ne_op op_fdivNN no_fdiv (no_o 1) (no_o 2))) na_nil)))))))
theorem sc_44 : FnScope ["draws"] ["draws"] (defScope (top 44)) := ⟨rfl, rfl, rfl, by decide +kernel, rfl, by decide +kernel, by decide +kernel⟩
def B_44 : NStm :=
  sRet (nCall D_36 (aCons (.o 0) (aCons (.e (nL (nLstO (aCons (.e (nTup (aCons (.e (nC (.int 0))) (aCons (.e (nC (.int 1))) (aNil))))) (aCons (.e (nTup (aCons (.e (nC (.int 1))) (aCons (.e (nC (.int 1))) (aNil))))) (aCons (.e (nTup (aCons (.e (nC (.int 1))) (aCons (.e (nC (.int 10))) (aNil))))) (aCons (.e (nTup (aCons (.e (nC (.int 1))) (aCons (.e (nC (.int 2))) (aNil))))) (aCons (.e (nCall D_39 (aCons (.e (nCall D_35 (aCons (.o 0) (aCons (.e (nC (.int 40))) (aNil))))) (aCons (.e (nOp2 oAdd (.e (nC (.int 1))) (.e (nCall D_35 (aCons (.o 0) (aCons (.e (nC (.int 30))) (aNil))))))) (aNil))))) (aNil))))))))) (aNil))))
def D_44 : NExp := runD 1 B_44
theorem n_44 {x : Str} (T : Tx K mg) (h : DefIn K mg x "_law_part" (top 44)) : NFn P w K mg base 3 x 1 D_44 := by
  obtain ⟨f, fd, F0, hm⟩ := h.ex
  exact NFn.of F0 hm sc_44 (FunD.bindsN (ps := ["draws"]) F0 fun _ _ _ _ _ _ us hl => match us, hl with | [_], _ => rfl) rfl fun cdv A outer s H E hr => by exact (nss_one (ns_ret (ne_call ((n_36 T T.d__law_pick).mono (by first | omega | exact Nat.le_trans (by decide) (Nat.le_add_right _ _))) hr (takes_of rfl rfl rfl rfl) (na_cons (no_o 0) (na_cons (no_e (ne_l (neo_lst (na_cons (no_e (ne_tup (na_cons (no_e ne_int) (na_cons (no_e ne_int) na_nil)))) (na_cons (no_e (ne_tup (na_cons (no_e ne_int) (na_cons (no_e ne_int) na_nil)))) (na_cons (no_e (ne_tup (na_cons (no_e ne_int) (na_cons (no_e ne_int) na_nil)))) (na_cons (no_e (ne_tup (na_cons (no_e ne_int) (na_cons (no_e ne_int) na_nil)))) (na_cons (no_e (ne_call ((n_39 T T.d__law_ratio).mono (by first | omega | exact Nat.le_trans (by decide) (Nat.le_add_right _ _))) hr (takes_of rfl rfl rfl rfl) (na_cons (no_e (ne_call ((n_35 T T.d__law_take).mono (by first | omega | exact Nat.le_trans (by decide) (Nat.le_add_right _ _))) hr (takes_of rfl rfl rfl rfl) (na_cons (no_o 0) (na_cons (no_e ne_int) na_nil)) rfl rfl (aCons_len (aCons_len aNil_len)))) (na_cons (no_e (ne_op op_addN no_add (no_e ne_int) (no_e (ne_call ((n_35 T T.d__law_take).mono (by first | omega | exact Nat.le_trans (by decide) (Nat.le_add_right _ _))) hr (takes_of rfl rfl rfl rfl) (na_cons (no_o 0) (na_cons (no_e ne_int) na_nil)) rfl rfl (aCons_len (aCons_len aNil_len)))))) na_nil)) rfl rfl (aCons_len (aCons_len aNil_len)))) na_nil)))))))) na_nil)) rfl rfl (aCons_len (aCons_len aNil_len)))))
theorem sc_45 : FnScope ["draws", "deep", "kind", "steps", "first", "k"] ["draws", "deep"] (defScope (top 45)) := ⟨rfl, rfl, rfl, by decide +kernel, rfl, by decide +kernel, by decide +kernel⟩
def B_45 (D : NExp) : NStm :=
  sSeq (sAsg (nCall D_35 (aCons (.o 0) (aCons (.e (nC (.int 9))) (aNil)))) (gN 2))
  (sSeq (sIf (asB (nOp2 oEq (.o 2) (.e (nC (.int 0))))) (sRet (nTup (aCons (.e (nC (.str "free"))) (aNil)))) (sNil))
  (sSeq (sIf (asB (nOp2 oLt (.o 2) (.e (nC (.int 3))))) (sRet (nOp2 oAdd (.e (nTup (aCons (.e (nC (.str "value"))) (aNil)))) (.e (nCall D_44 (aCons (.o 0) (aNil)))))) (sNil))
  (sSeq (sIf (asB (nOp2 oEq (.o 2) (.e (nC (.int 3))))) (sRet (nTup (aCons (.e (nCall D_36 (aCons (.o 0) (aCons (.e (nL (nLstO (aCons (.e (nC (.str "piece"))) (aCons (.e (nC (.str "weight"))) (aNil)))))) (aNil))))) (aCons (.e (nCall D_35 (aCons (.o 0) (aCons (.e (nC (.int 20))) (aNil))))) (aNil))))) (sNil))
  (sSeq (sIf (tOr' (asB (nOp2 oEq (.o 2) (.e (nC (.int 4))))) (asB (nOp2 oEq (.o 1) (.e (nC (.int 1)))))) (sSeq (sPar 3 4 (evO (nLstO (aNil))) (evV (nC (.int 0))))
  (sSeq (sFor (iRg1 (aCons (.e (nOp2 oAdd (.e (nC (.int 1))) (.e (nCall D_35 (aCons (.o 0) (aCons (.e (nC (.int 4))) (aNil))))))) (aNil))) (gN 5) (sSeq (sExpr (nAppend 3 (nTup (aCons (.e (nV 4)) (aCons (.e (nCall D_44 (aCons (.o 0) (aNil)))) (aNil))))))
  (sAsg (nOp2 oAdd (.e (nOp2 oAdd (.o 4) (.e (nC (.int 1))))) (.e (nCall D_35 (aCons (.o 0) (aCons (.e (nC (.int 60))) (aNil)))))) (gN 4))))
  (sRet (nTup (aCons (.e (nC (.str "steps"))) (aCons (.e (nCB bTuple (aCons (.o 3) (aNil)))) (aNil))))))) (sNil))
  (sRet (nTup (aCons (.e (nCall D_36 (aCons (.o 0) (aCons (.e (nL (nLstO (aCons (.e (nC (.str "most"))) (aCons (.e (nC (.str "least"))) (aCons (.e (nC (.str "sum"))) (aNil))))))) (aNil))))) (aCons (.e (nCB bTuple (aCons (.e (nL (nLc (iRg1 (aCons (.e (nOp2 oAdd (.e (nC (.int 1))) (.e (nCall D_35 (aCons (.o 0) (aCons (.e (nC (.int 3))) (aNil))))))) (aNil))) (gN 5) (tYesN) (nCall D (aCons (.o 0) (aCons (.e (nOp2 oSub (.o 1) (.e (nC (.int 1))))) (aNil)))) [5]))) (aNil)))) (aNil)))))))))
def D_45 : Nat → NExp
  | 0 => fun _ => .bad
  | k + 1 => runD 6 (B_45 (D_45 k))
theorem n_45 (T : Tx K mg) (h : DefIn K mg "_law_duty" "_law_duty" (top 45)) (fu : Nat) : NFn P w K mg base (3 + fu) "_law_duty" 2 (D_45 fu) := by
  obtain ⟨f, fd, F0, hm⟩ := h.ex
  induction fu with
  | zero => exact NFn.bad F0 hm (FunD.bindsN (ps := ["draws", "deep"]) F0 fun _ _ _ _ _ _ us hl => match us, hl with | [_, _], _ => rfl)
  | succ k ih =>
    exact NFn.of F0 hm sc_45 (FunD.bindsN (ps := ["draws", "deep"]) F0 fun _ _ _ _ _ _ us hl => match us, hl with | [_, _], _ => rfl) rfl fun cdv A outer s H E hr => by exact (nss_cons (ns_asg (ne_call ((n_35 T T.d__law_take).mono (by first | omega | exact Nat.le_trans (by decide) (Nat.le_add_right _ _))) hr (takes_of rfl rfl rfl rfl) (na_cons (no_o 0) (na_cons (no_e ne_int) na_nil)) rfl rfl (aCons_len (aCons_len aNil_len))) (ng_name 2 sc_45.nd rfl (by first | exact Or.inl rfl | exact Or.inr rfl)))
    (nss_cons (ns_if (nt_cmp (op_eqN hr.units) no_eq (no_o 2) (no_e ne_int) rfl) (nss_one (ns_ret (ne_tup (na_cons (no_e ne_str) na_nil)))) nss_nil)
    (nss_cons (ns_if (nt_cmp (op_ltN hr.units) no_lt (no_o 2) (no_e ne_int) rfl) (nss_one (ns_ret (ne_op op_addN no_add (no_e (ne_tup (na_cons (no_e ne_str) na_nil))) (no_e (ne_call ((n_44 T T.d__law_part).mono (by first | omega | exact Nat.le_trans (by decide) (Nat.le_add_right _ _))) hr (takes_of rfl rfl rfl rfl) (na_cons (no_o 0) na_nil) rfl rfl (aCons_len aNil_len)))))) nss_nil)
    (nss_cons (ns_if (nt_cmp (op_eqN hr.units) no_eq (no_o 2) (no_e ne_int) rfl) (nss_one (ns_ret (ne_tup (na_cons (no_e (ne_call ((n_36 T T.d__law_pick).mono (by first | omega | exact Nat.le_trans (by decide) (Nat.le_add_right _ _))) hr (takes_of rfl rfl rfl rfl) (na_cons (no_o 0) (na_cons (no_e (ne_l (neo_lst (na_cons (no_e ne_str) (na_cons (no_e ne_str) na_nil))))) na_nil)) rfl rfl (aCons_len (aCons_len aNil_len)))) (na_cons (no_e (ne_call ((n_35 T T.d__law_take).mono (by first | omega | exact Nat.le_trans (by decide) (Nat.le_add_right _ _))) hr (takes_of rfl rfl rfl rfl) (na_cons (no_o 0) (na_cons (no_e ne_int) na_nil)) rfl rfl (aCons_len (aCons_len aNil_len)))) na_nil))))) nss_nil)
    (nss_cons (ns_if (NW.t (nw_or (nt_cmp (op_eqN hr.units) no_eq (no_o 2) (no_e ne_int) rfl) (nw_or1 (nt_cmp (op_eqN hr.units) no_eq (no_o 1) (no_e ne_int) rfl)))) (nss_cons (ns_par 3 4 rfl sc_45.nd rfl rfl (by decide) rfl rfl (nv_o (neo_lst na_nil)) (nv_v ne_int))
    (nss_cons (ns_for (passes_of rfl) rfl (ni_rg1 T.f_range (na_cons (no_e (ne_op op_addN no_add (no_e ne_int) (no_e (ne_call ((n_35 T T.d__law_take).mono (by first | omega | exact Nat.le_trans (by decide) (Nat.le_add_right _ _))) hr (takes_of rfl rfl rfl rfl) (na_cons (no_o 0) (na_cons (no_e ne_int) na_nil)) rfl rfl (aCons_len (aCons_len aNil_len)))))) na_nil)) (ng_name 5 sc_45.nd rfl (by first | exact Or.inl rfl | exact Or.inr rfl)) (nss_cons (ns_expr (ne_append 3 (ne_tup (na_cons (no_e (ne_v 4)) (na_cons (no_e (ne_call ((n_44 T T.d__law_part).mono (by first | omega | exact Nat.le_trans (by decide) (Nat.le_add_right _ _))) hr (takes_of rfl rfl rfl rfl) (na_cons (no_o 0) na_nil) rfl rfl (aCons_len aNil_len))) na_nil)))))
    (nss_one (ns_asg (ne_op op_addN no_add (no_e (ne_op op_addN no_add (no_o 4) (no_e ne_int))) (no_e (ne_call ((n_35 T T.d__law_take).mono (by first | omega | exact Nat.le_trans (by decide) (Nat.le_add_right _ _))) hr (takes_of rfl rfl rfl rfl) (na_cons (no_o 0) (na_cons (no_e ne_int) na_nil)) rfl rfl (aCons_len (aCons_len aNil_len))))) (ng_name 4 sc_45.nd rfl (by first | exact Or.inl rfl | exact Or.inr rfl))))))
    (nss_one (ns_ret (ne_tup (na_cons (no_e ne_str) (na_cons (no_e (ne_cty call_tuple_of cn_tuple T.f_tuple bt_tuple (na_cons (no_o 3) na_nil))) na_nil))))))) nss_nil)
    (nss_one (ns_ret (ne_tup (na_cons (no_e (ne_call ((n_36 T T.d__law_pick).mono (by first | omega | exact Nat.le_trans (by decide) (Nat.le_add_right _ _))) hr (takes_of rfl rfl rfl rfl) (na_cons (no_o 0) (na_cons (no_e (ne_l (neo_lst (na_cons (no_e ne_str) (na_cons (no_e ne_str) (na_cons (no_e ne_str) na_nil)))))) na_nil)) rfl rfl (aCons_len (aCons_len aNil_len)))) (na_cons (no_e (ne_cty call_tuple_of cn_tuple T.f_tuple bt_tuple (na_cons (no_e (ne_l (neo_lc (own := [("k", 5)]) rfl sc_45.nd (ni_rg1 T.f_range (na_cons (no_e (ne_op op_addN no_add (no_e ne_int) (no_e (ne_call ((n_35 T T.d__law_take).mono (by first | omega | exact Nat.le_trans (by decide) (Nat.le_add_right _ _))) hr (takes_of rfl rfl rfl rfl) (na_cons (no_o 0) (na_cons (no_e ne_int) na_nil)) rfl rfl (aCons_len (aCons_len aNil_len)))))) na_nil)) (blkOk_by rfl) (fun s_ H_ C_ cl_ fp_ => (ng_name 5 sc_45.nd rfl (by first | exact Or.inl rfl | exact Or.inr rfl))) (fun s_ H_ C_ cl_ fp_ => pts_nilN) (fun s_ H_ C_ cl_ fp_ => (ne_call ih hr takes0 (na_cons (no_o 0) (na_cons (no_e (ne_op op_sub no_sub (no_o 1) (no_e ne_int))) na_nil)) rfl rfl (aCons_len (aCons_len aNil_len))))))) na_nil))) na_nil))))))))))
theorem sc_40 : FnScope ["one", "other"] ["one", "other"] (defScope (top 40)) := ⟨rfl, rfl, rfl, by decide +kernel, rfl, by decide +kernel, by decide +kernel⟩
def B_40 : NStm :=
  sRet (nCall D_39 (aCons (.e (nOp2 oAdd (.e (nOp2 oMul (.e (nOp2 oIx (.o 0) (.e (nC (.int 0))))) (.e (nOp2 oIx (.o 1) (.e (nC (.int 1))))))) (.e (nOp2 oMul (.e (nOp2 oIx (.o 1) (.e (nC (.int 0))))) (.e (nOp2 oIx (.o 0) (.e (nC (.int 1))))))))) (aCons (.e (nOp2 oMul (.e (nOp2 oIx (.o 0) (.e (nC (.int 1))))) (.e (nOp2 oIx (.o 1) (.e (nC (.int 1))))))) (aNil))))
def D_40 : NExp := runD 2 B_40
theorem n_40 {x : Str} (T : Tx K mg) (h : DefIn K mg x "_law_plus" (top 40)) : NFn P w K mg base 2 x 2 D_40 := by
  obtain ⟨f, fd, F0, hm⟩ := h.ex
  exact NFn.of F0 hm sc_40 (FunD.bindsN (ps := ["one", "other"]) F0 fun _ _ _ _ _ _ us hl => match us, hl with | [_, _], _ => rfl) rfl fun cdv A outer s H E hr => by exact (nss_one (ns_ret (ne_call ((n_39 T T.d__law_ratio).mono (by first | omega | exact Nat.le_trans (by decide) (Nat.le_add_right _ _))) hr (takes_of rfl rfl rfl rfl) (na_cons (no_e (ne_op op_addN no_add (no_e (ne_op op_mulN no_mul (no_e (ne_ix (no_o 0) (no_e ne_int))) (no_e (ne_ix (no_o 1) (no_e ne_int))))) (no_e (ne_op op_mulN no_mul (no_e (ne_ix (no_o 1) (no_e ne_int))) (no_e (ne_ix (no_o 0) (no_e ne_int))))))) (na_cons (no_e (ne_op op_mulN no_mul (no_e (ne_ix (no_o 0) (no_e ne_int))) (no_e (ne_ix (no_o 1) (no_e ne_int))))) na_nil)) rfl rfl (aCons_len (aCons_len aNil_len)))))
theorem sc_42 : FnScope ["some", "found", "one"] ["some"] (defScope (top 42)) := ⟨rfl, rfl, rfl, by decide +kernel, rfl, by decide +kernel, by decide +kernel⟩
def B_42 : NStm :=
  sSeq (sAsg (nTup (aCons (.e (nC (.int 0))) (aCons (.e (nC (.int 1))) (aNil)))) (gN 1))
  (sSeq (sFor (iV (nF 0)) (gN 2) (sAsg (nCall D_40 (aCons (.o 1) (aCons (.o 2) (aNil)))) (gN 1)))
  (sRet (nV 1)))
def D_42 : NExp := runD 3 B_42
theorem n_42 {x : Str} (T : Tx K mg) (h : DefIn K mg x "_law_sum" (top 42)) : NFn P w K mg base 3 x 1 D_42 := by
  obtain ⟨f, fd, F0, hm⟩ := h.ex
  exact NFn.of F0 hm sc_42 (FunD.bindsN (ps := ["some"]) F0 fun _ _ _ _ _ _ us hl => match us, hl with | [_], _ => rfl) rfl fun cdv A outer s H E hr => by exact (nss_cons (ns_asg (ne_tup (na_cons (no_e ne_int) (na_cons (no_e ne_int) na_nil))) (ng_name 1 sc_42.nd rfl (by first | exact Or.inl rfl | exact Or.inr rfl)))
    (nss_cons (ns_for (passes_of rfl) rfl (ni_v (ne_f 0)) (ng_name 2 sc_42.nd rfl (by first | exact Or.inl rfl | exact Or.inr rfl)) (nss_one (ns_asg (ne_call ((n_40 T T.d__law_plus).mono (by first | omega | exact Nat.le_trans (by decide) (Nat.le_add_right _ _))) hr (takes_of rfl rfl rfl rfl) (na_cons (no_o 1) (na_cons (no_o 2) na_nil)) rfl rfl (aCons_len (aCons_len aNil_len))) (ng_name 1 sc_42.nd rfl (by first | exact Or.inl rfl | exact Or.inr rfl)))))
    (nss_one (ns_ret (ne_v 1)))))
theorem sc_43 : FnScope ["one", "other"] ["one", "other"] (defScope (top 43)) := ⟨rfl, rfl, rfl, by decide +kernel, rfl, by decide +kernel, by decide +kernel⟩
def B_43 : NStm :=
  sRet (nOp2 oLe (.e (nOp2 oMul (.e (nOp2 oIx (.o 0) (.e (nC (.int 0))))) (.e (nOp2 oIx (.o 1) (.e (nC (.int 1))))))) (.e (nOp2 oMul (.e (nOp2 oIx (.o 1) (.e (nC (.int 0))))) (.e (nOp2 oIx (.o 0) (.e (nC (.int 1))))))))
def D_43 : NExp := runD 2 B_43
theorem n_43 {x : Str} (T : Tx K mg) (h : DefIn K mg x "_law_is_at_most" (top 43)) : NFn P w K mg base 1 x 2 D_43 := by
  obtain ⟨f, fd, F0, hm⟩ := h.ex
  exact NFn.of F0 hm sc_43 (FunD.bindsN (ps := ["one", "other"]) F0 fun _ _ _ _ _ _ us hl => match us, hl with | [_, _], _ => rfl) rfl fun cdv A outer s H E hr => by exact (nss_one (ns_ret (ne_cmp op_leN no_le (no_e (ne_op op_mulN no_mul (no_e (ne_ix (no_o 0) (no_e ne_int))) (no_e (ne_ix (no_o 1) (no_e ne_int))))) (no_e (ne_op op_mulN no_mul (no_e (ne_ix (no_o 1) (no_e ne_int))) (no_e (ne_ix (no_o 0) (no_e ne_int))))) rfl)))
theorem sc_46 : FnScope ["duty", "goods", "value", "pieces", "weight", "found", "steps", "k", "behind", "step", "own", "dues", "one", "best", "due"] ["duty", "goods"] (defScope (top 46)) := ⟨rfl, rfl, rfl, by decide +kernel, rfl, by decide +kernel, by decide +kernel⟩
def B_46 (D : NExp) : NStm :=
  sSeq (sAsg (nF 1) (gT (gCons' (gN 2) (gCons' (gN 3) (gCons' (gN 4) (gNil'))))))
  (sSeq (sIf (asB (nOp2 oEq (.e (nOp2 oIx (.o 0) (.e (nC (.int 0))))) (.e (nC (.str "free"))))) (sRet (nTup (aCons (.e (nC (.int 0))) (aCons (.e (nC (.int 1))) (aNil))))) (sNil))
  (sSeq (sIf (asB (nOp2 oEq (.e (nOp2 oIx (.o 0) (.e (nC (.int 0))))) (.e (nC (.str "value"))))) (sRet (nCall D_39 (aCons (.e (nOp2 oMul (.o 2) (.e (nOp2 oIx (.o 0) (.e (nC (.int 1))))))) (aCons (.e (nOp2 oIx (.o 0) (.e (nC (.int 2))))) (aNil))))) (sNil))
  (sSeq (sIf (asB (nOp2 oIn (.e (nOp2 oIx (.o 0) (.e (nC (.int 0))))) (.e (nL (nLstO (aCons (.e (nC (.str "piece"))) (aCons (.e (nC (.str "weight"))) (aNil)))))))) (sRet (nTup (aCons (.e (nOp2 oMul (.e (nOp2 oIx (.o 0) (.e (nC (.int 1))))) (.e (nOp2 oIx (.e (nL (nLstO (aCons (.e (nV 3)) (aCons (.e (nV 4)) (aNil)))))) (.e (nCB bInt (aCons (.e (nOp2 oEq (.e (nOp2 oIx (.o 0) (.e (nC (.int 0))))) (.e (nC (.str "weight"))))) (aNil)))))))) (aCons (.e (nC (.int 1))) (aNil))))) (sNil))
  (sSeq (sIf (asB (nOp2 oEq (.e (nOp2 oIx (.o 0) (.e (nC (.int 0))))) (.e (nC (.str "steps"))))) (sSeq (sPar 5 6 (evV (nTup (aCons (.e (nC (.int 0))) (aCons (.e (nC (.int 1))) (aNil))))) (evV (nOp2 oIx (.o 0) (.e (nC (.int 1))))))
  (sSeq (sFor (iRg1 (aCons (.e (nCB bLen (aCons (.o 6) (aNil)))) (aNil))) (gN 7) (sSeq (sAsg (nOp2 oIx (.e (nOp2 oAdd (.e (nL (nLc (iV (nSl (.o 6) (pSome (nOp2 oAdd (.o 7) (.e (nC (.int 1))))) (pNone))) (gN 9) (tYesN) (nOp2 oIx (.o 9) (.e (nC (.int 0)))) [9]))) (.e (nL (nLstO (aCons (.e (nV 2)) (aNil))))))) (.e (nC (.int 0)))) (gN 8))
  (sSeq (sAsg (nCB bMax (aCons (.e (nC (.int 0))) (aCons (.e (nOp2 oSub (.e (nCB bMin (aCons (.o 2) (aCons (.o 8) (aNil))))) (.e (nOp2 oIx (.e (nOp2 oIx (.o 6) (.o 7))) (.e (nC (.int 0))))))) (aNil)))) (gN 10))
  (sSeq (sIf (asB (nOp2 oEq (.o 7) (.e (nOp2 oSub (.e (nCB bLen (aCons (.o 6) (aNil)))) (.e (nC (.int 1))))))) (sAsg (nCB bMax (aCons (.e (nC (.int 0))) (aCons (.e (nOp2 oSub (.o 2) (.e (nOp2 oIx (.e (nOp2 oIx (.o 6) (.o 7))) (.e (nC (.int 0))))))) (aNil)))) (gN 10)) (sNil))
  (sAsg (nCall D_40 (aCons (.o 5) (aCons (.e (nCall D_39 (aCons (.e (nOp2 oMul (.o 10) (.e (nOp2 oIx (.e (nOp2 oIx (.e (nOp2 oIx (.o 6) (.o 7))) (.e (nC (.int 1))))) (.e (nC (.int 0))))))) (aCons (.e (nOp2 oIx (.e (nOp2 oIx (.e (nOp2 oIx (.o 6) (.o 7))) (.e (nC (.int 1))))) (.e (nC (.int 1))))) (aNil))))) (aNil)))) (gN 5))))))
  (sRet (nV 5)))) (sNil))
  (sSeq (sSetL 11 (nLc (iV (nOp2 oIx (.o 0) (.e (nC (.int 1))))) (gN 12) (tYesN) (nCall D (aCons (.o 12) (aCons (.o 1) (aNil)))) [12]))
  (sSeq (sIf (asB (nOp2 oEq (.e (nOp2 oIx (.o 0) (.e (nC (.int 0))))) (.e (nC (.str "sum"))))) (sRet (nCall D_42 (aCons (.o 11) (aNil)))) (sNil))
  (sSeq (sAsg (nOp2 oIx (.o 11) (.e (nC (.int 0)))) (gN 13))
  (sSeq (sFor (iV (nV 11)) (gN 14) (sIf (asB (nOp2 oEq (.e (nCall D_43 (aCons (.o 14) (aCons (.o 13) (aNil))))) (.e (nOp2 oEq (.e (nOp2 oIx (.o 0) (.e (nC (.int 0))))) (.e (nC (.str "least"))))))) (sAsg (nV 14) (gN 13)) (sNil)))
  (sRet (nV 13))))))))))
def D_46 : Nat → NExp
  | 0 => fun _ => .bad
  | k + 1 => runD 15 (B_46 (D_46 k))
theorem n_46 (T : Tx K mg) (h : DefIn K mg "_law_due" "_law_due" (top 46)) (fu : Nat) : NFn P w K mg base (3 + fu) "_law_due" 2 (D_46 fu) := by
  obtain ⟨f, fd, F0, hm⟩ := h.ex
  induction fu with
  | zero => exact NFn.bad F0 hm (FunD.bindsN (ps := ["duty", "goods"]) F0 fun _ _ _ _ _ _ us hl => match us, hl with | [_, _], _ => rfl)
  | succ k ih =>
    exact NFn.of F0 hm sc_46 (FunD.bindsN (ps := ["duty", "goods"]) F0 fun _ _ _ _ _ _ us hl => match us, hl with | [_, _], _ => rfl) rfl fun cdv A outer s H E hr => by exact (nss_cons (ns_asg (ne_f 1) (ng_tup rfl (ngs_cons (ng_name 2 sc_46.nd rfl (by first | exact Or.inl rfl | exact Or.inr rfl)) (ngs_cons (ng_name 3 sc_46.nd rfl (by first | exact Or.inl rfl | exact Or.inr rfl)) (ngs_cons (ng_name 4 sc_46.nd rfl (by first | exact Or.inl rfl | exact Or.inr rfl)) ngs_nil))) (gCons_len (gCons_len (gCons_len gNil_len)))))
    (nss_cons (ns_if (nt_cmp (op_eqN hr.units) no_eq (no_e (ne_ix (no_o 0) (no_e ne_int))) (no_e ne_str) rfl) (nss_one (ns_ret (ne_tup (na_cons (no_e ne_int) (na_cons (no_e ne_int) na_nil))))) nss_nil)
    (nss_cons (ns_if (nt_cmp (op_eqN hr.units) no_eq (no_e (ne_ix (no_o 0) (no_e ne_int))) (no_e ne_str) rfl) (nss_one (ns_ret (ne_call ((n_39 T T.d__law_ratio).mono (by first | omega | exact Nat.le_trans (by decide) (Nat.le_add_right _ _))) hr (takes_of rfl rfl rfl rfl) (na_cons (no_e (ne_op op_mulN no_mul (no_o 2) (no_e (ne_ix (no_o 0) (no_e ne_int))))) (na_cons (no_e (ne_ix (no_o 0) (no_e ne_int))) na_nil)) rfl rfl (aCons_len (aCons_len aNil_len))))) nss_nil)
    (nss_cons (ns_if (nt_cmp (op_inN (u65 hr)) no_in (no_e (ne_ix (no_o 0) (no_e ne_int))) (no_e (ne_l (neo_lst (na_cons (no_e ne_str) (na_cons (no_e ne_str) na_nil))))) rfl) (nss_one (ns_ret (ne_tup (na_cons (no_e (ne_op op_mulN no_mul (no_e (ne_ix (no_o 0) (no_e ne_int))) (no_e (ne_ix (no_e (ne_l (neo_lst (na_cons (no_e (ne_v 3)) (na_cons (no_e (ne_v 4)) na_nil))))) (no_e (ne_cty call_int1 cn_int T.f_int bt_int (na_cons (no_e (ne_cmp (op_eqN hr.units) no_eq (no_e (ne_ix (no_o 0) (no_e ne_int))) (no_e ne_str) rfl)) na_nil))))))) (na_cons (no_e ne_int) na_nil))))) nss_nil)
    (nss_cons (ns_if (nt_cmp (op_eqN hr.units) no_eq (no_e (ne_ix (no_o 0) (no_e ne_int))) (no_e ne_str) rfl) (nss_cons (ns_par 5 6 rfl sc_46.nd rfl rfl (by decide) rfl rfl (nv_v (ne_tup (na_cons (no_e ne_int) (na_cons (no_e ne_int) na_nil)))) (nv_v (ne_ix (no_o 0) (no_e ne_int))))
    (nss_cons (ns_for (passes_of rfl) rfl (ni_rg1 T.f_range (na_cons (no_e (ne_len T.f_len (na_cons (no_o 6) na_nil))) na_nil)) (ng_name 7 sc_46.nd rfl (by first | exact Or.inl rfl | exact Or.inr rfl)) (nss_cons (ns_asg (ne_ix (no_e (ne_op op_addN no_add (no_e (ne_l (neo_lc (own := [("step", 9)]) rfl sc_46.nd (ni_v (ne_sl (no_o 6) (np_some (ne_op op_addN no_add (no_o 7) (no_e ne_int))) np_none)) (blkOk_by rfl) (fun s_ H_ C_ cl_ fp_ => (ng_name 9 sc_46.nd rfl (by first | exact Or.inl rfl | exact Or.inr rfl))) (fun s_ H_ C_ cl_ fp_ => pts_nilN) (fun s_ H_ C_ cl_ fp_ => (ne_ix (no_o 9) (no_e ne_int)))))) (no_e (ne_l (neo_lst (na_cons (no_e (ne_v 2)) na_nil)))))) (no_e ne_int)) (ng_name 8 sc_46.nd rfl (by first | exact Or.inl rfl | exact Or.inr rfl)))
    (nss_cons (ns_asg (ne_cb (cr_maxN rfl) cn_max T.f_max bt_max (na_cons (no_e ne_int) (na_cons (no_e (ne_op op_sub no_sub (no_e (ne_cb (cr_minN rfl) cn_min T.f_min bt_min (na_cons (no_o 2) (na_cons (no_o 8) na_nil)))) (no_e (ne_ix (no_e (ne_ix (no_o 6) (no_o 7))) (no_e ne_int))))) na_nil))) (ng_name 10 sc_46.nd rfl (by first | exact Or.inl rfl | exact Or.inr rfl)))
    (nss_cons (ns_if (nt_cmp (op_eqN hr.units) no_eq (no_o 7) (no_e (ne_op op_sub no_sub (no_e (ne_len T.f_len (na_cons (no_o 6) na_nil))) (no_e ne_int))) rfl) (nss_one (ns_asg (ne_cb (cr_maxN rfl) cn_max T.f_max bt_max (na_cons (no_e ne_int) (na_cons (no_e (ne_op op_sub no_sub (no_o 2) (no_e (ne_ix (no_e (ne_ix (no_o 6) (no_o 7))) (no_e ne_int))))) na_nil))) (ng_name 10 sc_46.nd rfl (by first | exact Or.inl rfl | exact Or.inr rfl)))) nss_nil)
    (nss_one (ns_asg (ne_call ((n_40 T T.d__law_plus).mono (by first | omega | exact Nat.le_trans (by decide) (Nat.le_add_right _ _))) hr (takes_of rfl rfl rfl rfl) (na_cons (no_o 5) (na_cons (no_e (ne_call ((n_39 T T.d__law_ratio).mono (by first | omega | exact Nat.le_trans (by decide) (Nat.le_add_right _ _))) hr (takes_of rfl rfl rfl rfl) (na_cons (no_e (ne_op op_mulN no_mul (no_o 10) (no_e (ne_ix (no_e (ne_ix (no_e (ne_ix (no_o 6) (no_o 7))) (no_e ne_int))) (no_e ne_int))))) (na_cons (no_e (ne_ix (no_e (ne_ix (no_e (ne_ix (no_o 6) (no_o 7))) (no_e ne_int))) (no_e ne_int))) na_nil)) rfl rfl (aCons_len (aCons_len aNil_len)))) na_nil)) rfl rfl (aCons_len (aCons_len aNil_len))) (ng_name 5 sc_46.nd rfl (by first | exact Or.inl rfl | exact Or.inr rfl))))))))
    (nss_one (ns_ret (ne_v 5))))) nss_nil)
    (nss_cons (ns_setLc (own := [("one", 12)]) 11 rfl sc_46.nd rfl rfl rfl (ni_v (ne_ix (no_o 0) (no_e ne_int))) (blkOk_by rfl) (fun s_ H_ C_ cl_ fp_ => (ng_name 12 sc_46.nd rfl (by first | exact Or.inl rfl | exact Or.inr rfl))) (fun s_ H_ C_ cl_ fp_ => pts_nilN) (fun s_ H_ C_ cl_ fp_ => (ne_call ih hr takes0 (na_cons (no_o 12) (na_cons (no_o 1) na_nil)) rfl rfl (aCons_len (aCons_len aNil_len)))))
    (nss_cons (ns_if (nt_cmp (op_eqN hr.units) no_eq (no_e (ne_ix (no_o 0) (no_e ne_int))) (no_e ne_str) rfl) (nss_one (ns_ret (ne_call ((n_42 T T.d__law_sum).mono (by first | omega | exact Nat.le_trans (by decide) (Nat.le_add_right _ _))) hr (takes_of rfl rfl rfl rfl) (na_cons (no_o 11) na_nil) rfl rfl (aCons_len aNil_len)))) nss_nil)
    (nss_cons (ns_asg (ne_ix (no_o 11) (no_e ne_int)) (ng_name 13 sc_46.nd rfl (by first | exact Or.inl rfl | exact Or.inr rfl)))
    (nss_cons (ns_for (passes_of rfl) rfl (ni_v (ne_v 11)) (ng_name 14 sc_46.nd rfl (by first | exact Or.inl rfl | exact Or.inr rfl)) (nss_one (ns_if (nt_cmp (op_eqN hr.units) no_eq (no_e (ne_call ((n_43 T T.d__law_is_at_most).mono (by first | omega | exact Nat.le_trans (by decide) (Nat.le_add_right _ _))) hr (takes_of rfl rfl rfl rfl) (na_cons (no_o 14) (na_cons (no_o 13) na_nil)) rfl rfl (aCons_len (aCons_len aNil_len)))) (no_e (ne_cmp (op_eqN hr.units) no_eq (no_e (ne_ix (no_o 0) (no_e ne_int))) (no_e ne_str) rfl)) rfl) (nss_one (ns_asg (ne_v 14) (ng_name 13 sc_46.nd rfl (by first | exact Or.inl rfl | exact Or.inr rfl)))) nss_nil)))
    (nss_one (ns_ret (ne_v 13))))))))))))
theorem sc_47 : FnScope ["draws"] ["draws"] (defScope (top 47)) := ⟨rfl, rfl, rfl, by decide +kernel, rfl, by decide +kernel, by decide +kernel⟩
def B_47 : NStm :=
  sRet (nTup (aCons (.e (nCall D_36 (aCons (.o 0) (aCons (.e (nL (nLstO (aCons (.e (nC (.int 0))) (aCons (.e (nC (.int 1))) (aCons (.e (nC (.int 100))) (aCons (.e (nCall D_35 (aCons (.o 0) (aCons (.e (nC (.int 200))) (aNil))))) (aCons (.e (nCall D_35 (aCons (.o 0) (aCons (.e (nC (.int 65521))) (aNil))))) (aNil))))))))) (aNil))))) (aCons (.e (nCall D_35 (aCons (.o 0) (aCons (.e (nC (.int 20))) (aNil))))) (aCons (.e (nCall D_35 (aCons (.o 0) (aCons (.e (nC (.int 20))) (aNil))))) (aNil)))))
def D_47 : NExp := runD 1 B_47
theorem n_47 {x : Str} (T : Tx K mg) (h : DefIn K mg x "_law_goods" (top 47)) : NFn P w K mg base 3 x 1 D_47 := by
  obtain ⟨f, fd, F0, hm⟩ := h.ex
  exact NFn.of F0 hm sc_47 (FunD.bindsN (ps := ["draws"]) F0 fun _ _ _ _ _ _ us hl => match us, hl with | [_], _ => rfl) rfl fun cdv A outer s H E hr => by exact (nss_one (ns_ret (ne_tup (na_cons (no_e (ne_call ((n_36 T T.d__law_pick).mono (by first | omega | exact Nat.le_trans (by decide) (Nat.le_add_right _ _))) hr (takes_of rfl rfl rfl rfl) (na_cons (no_o 0) (na_cons (no_e (ne_l (neo_lst (na_cons (no_e ne_int) (na_cons (no_e ne_int) (na_cons (no_e ne_int) (na_cons (no_e (ne_call ((n_35 T T.d__law_take).mono (by first | omega | exact Nat.le_trans (by decide) (Nat.le_add_right _ _))) hr (takes_of rfl rfl rfl rfl) (na_cons (no_o 0) (na_cons (no_e ne_int) na_nil)) rfl rfl (aCons_len (aCons_len aNil_len)))) (na_cons (no_e (ne_call ((n_35 T T.d__law_take).mono (by first | omega | exact Nat.le_trans (by decide) (Nat.le_add_right _ _))) hr (takes_of rfl rfl rfl rfl) (na_cons (no_o 0) (na_cons (no_e ne_int) na_nil)) rfl rfl (aCons_len (aCons_len aNil_len)))) na_nil)))))))) na_nil)) rfl rfl (aCons_len (aCons_len aNil_len)))) (na_cons (no_e (ne_call ((n_35 T T.d__law_take).mono (by first | omega | exact Nat.le_trans (by decide) (Nat.le_add_right _ _))) hr (takes_of rfl rfl rfl rfl) (na_cons (no_o 0) (na_cons (no_e ne_int) na_nil)) rfl rfl (aCons_len (aCons_len aNil_len)))) (na_cons (no_e (ne_call ((n_35 T T.d__law_take).mono (by first | omega | exact Nat.le_trans (by decide) (Nat.le_add_right _ _))) hr (takes_of rfl rfl rfl rfl) (na_cons (no_o 0) (na_cons (no_e ne_int) na_nil)) rfl rfl (aCons_len (aCons_len aNil_len)))) na_nil))))))
theorem sc_48 : FnScope ["duty", "inner", "one"] ["duty"] (defScope (top 48)) := ⟨rfl, rfl, rfl, by decide +kernel, rfl, by decide +kernel, by decide +kernel⟩
def B_48 (D : NExp) : NStm :=
  sSeq (sIf (asB (nOp2 oNotIn (.e (nOp2 oIx (.o 0) (.e (nC (.int 0))))) (.e (nL (nLstO (aCons (.e (nC (.str "most"))) (aCons (.e (nC (.str "least"))) (aCons (.e (nC (.str "sum"))) (aNil))))))))) (sRet (nF 0)) (sNil))
  (sSeq (sSetL 1 (nLc (iV (nOp2 oIx (.o 0) (.e (nC (.int 1))))) (gN 2) (tYesN) (nCall D (aCons (.o 2) (aNil))) [2]))
  (sSeq (sIf (asB (nOp2 oEq (.e (nOp2 oIx (.o 0) (.e (nC (.int 0))))) (.e (nC (.str "sum"))))) (sSetL 1 (nLc (iV (nV 1)) (gN 2) (asB (nOp2 oNe (.o 2) (.e (nTup (aCons (.e (nC (.str "free"))) (aNil)))))) (nV 2) [2])) (sNil))
  (sSeq (sIf (asB (nOp2 oEq (.o 1) (.e (nL (nLstO (aNil)))))) (sRet (nTup (aCons (.e (nC (.str "free"))) (aNil)))) (sNil))
  (sRet (nOp2 oIx (.e (nL (nLstO (aCons (.e (nTup (aCons (.e (nOp2 oIx (.o 0) (.e (nC (.int 0))))) (aCons (.e (nCB bTuple (aCons (.o 1) (aNil)))) (aNil))))) (aCons (.e (nOp2 oIx (.o 1) (.e (nC (.int 0))))) (aNil)))))) (.e (nCB bInt (aCons (.e (nOp2 oEq (.e (nCB bLen (aCons (.o 1) (aNil)))) (.e (nC (.int 1))))) (aNil)))))))))
def D_48 : Nat → NExp
  | 0 => fun _ => .bad
  | k + 1 => runD 3 (B_48 (D_48 k))
theorem n_48 (T : Tx K mg) (h : DefIn K mg "_law_plain" "_law_plain" (top 48)) (fu : Nat) : NFn P w K mg base (0 + fu) "_law_plain" 1 (D_48 fu) := by
  obtain ⟨f, fd, F0, hm⟩ := h.ex
  induction fu with
  | zero => exact NFn.bad F0 hm (FunD.bindsN (ps := ["duty"]) F0 fun _ _ _ _ _ _ us hl => match us, hl with | [_], _ => rfl)
  | succ k ih =>
    exact NFn.of F0 hm sc_48 (FunD.bindsN (ps := ["duty"]) F0 fun _ _ _ _ _ _ us hl => match us, hl with | [_], _ => rfl) rfl fun cdv A outer s H E hr => by exact (nss_cons (ns_if (nt_cmp (op_notInN (u65 hr)) no_notin (no_e (ne_ix (no_o 0) (no_e ne_int))) (no_e (ne_l (neo_lst (na_cons (no_e ne_str) (na_cons (no_e ne_str) (na_cons (no_e ne_str) na_nil)))))) rfl) (nss_one (ns_ret (ne_f 0))) nss_nil)
    (nss_cons (ns_setLc (own := [("one", 2)]) 1 rfl sc_48.nd rfl rfl rfl (ni_v (ne_ix (no_o 0) (no_e ne_int))) (blkOk_by rfl) (fun s_ H_ C_ cl_ fp_ => (ng_name 2 sc_48.nd rfl (by first | exact Or.inl rfl | exact Or.inr rfl))) (fun s_ H_ C_ cl_ fp_ => pts_nilN) (fun s_ H_ C_ cl_ fp_ => (ne_call ih hr takes0 (na_cons (no_o 2) na_nil) rfl rfl (aCons_len aNil_len))))
    (nss_cons (ns_if (nt_cmp (op_eqN hr.units) no_eq (no_e (ne_ix (no_o 0) (no_e ne_int))) (no_e ne_str) rfl) (nss_one (ns_setLc (own := [("one", 2)]) 1 rfl sc_48.nd rfl rfl rfl (ni_v (ne_v 1)) (blkOk_by rfl) (fun s_ H_ C_ cl_ fp_ => (ng_name 2 sc_48.nd rfl (by first | exact Or.inl rfl | exact Or.inr rfl))) (fun s_ H_ C_ cl_ fp_ => (pts_oneN (nt_cmp (op_neN hr.units) no_ne (no_o 2) (no_e (ne_tup (na_cons (no_e ne_str) na_nil))) rfl))) (fun s_ H_ C_ cl_ fp_ => (ne_v 2)))) nss_nil)
    (nss_cons (ns_if (nt_cmp (op_eqN hr.units) no_eq (no_o 1) (no_e (ne_l (neo_lst na_nil))) rfl) (nss_one (ns_ret (ne_tup (na_cons (no_e ne_str) na_nil)))) nss_nil)
    (nss_one (ns_ret (ne_ix (no_e (ne_l (neo_lst (na_cons (no_e (ne_tup (na_cons (no_e (ne_ix (no_o 0) (no_e ne_int))) (na_cons (no_e (ne_cty call_tuple_of cn_tuple T.f_tuple bt_tuple (na_cons (no_o 1) na_nil))) na_nil)))) (na_cons (no_e (ne_ix (no_o 1) (no_e ne_int))) na_nil))))) (no_e (ne_cty call_int1 cn_int T.f_int bt_int (na_cons (no_e (ne_cmp (op_eqN hr.units) no_eq (no_e (ne_len T.f_len (na_cons (no_o 1) na_nil))) (no_e ne_int) rfl)) na_nil))))))))))
theorem sc_49 : FnScope ["duty", "step", "one"] ["duty"] (defScope (top 49)) := ⟨rfl, rfl, rfl, by decide +kernel, rfl, by decide +kernel, by decide +kernel⟩
def B_49 (D : NExp) : NStm :=
  sSeq (sIf (asB (nOp2 oEq (.e (nOp2 oIx (.o 0) (.e (nC (.int 0))))) (.e (nC (.str "free"))))) (sRet (nC (.str "free"))) (sNil))
  (sSeq (sIf (asB (nOp2 oEq (.e (nOp2 oIx (.o 0) (.e (nC (.int 0))))) (.e (nC (.str "value"))))) (sRet (nOp2 oAdd (.e (nOp2 oAdd (.e (nOp2 oAdd (.e (nCB bStr (aCons (.e (nOp2 oIx (.o 0) (.e (nC (.int 1))))) (aNil)))) (.e (nC (.str "/"))))) (.e (nCB bStr (aCons (.e (nOp2 oIx (.o 0) (.e (nC (.int 2))))) (aNil)))))) (.e (nC (.str " of value"))))) (sNil))
  (sSeq (sIf (asB (nOp2 oIn (.e (nOp2 oIx (.o 0) (.e (nC (.int 0))))) (.e (nL (nLstO (aCons (.e (nC (.str "piece"))) (aCons (.e (nC (.str "weight"))) (aNil)))))))) (sRet (nOp2 oAdd (.e (nOp2 oAdd (.e (nCB bStr (aCons (.e (nOp2 oIx (.o 0) (.e (nC (.int 1))))) (aNil)))) (.e (nC (.str " a "))))) (.e (nOp2 oIx (.o 0) (.e (nC (.int 0))))))) (sNil))
  (sSeq (sIf (asB (nOp2 oEq (.e (nOp2 oIx (.o 0) (.e (nC (.int 0))))) (.e (nC (.str "steps"))))) (sRet (nOp2 oAdd (.e (nC (.str "steps "))) (.e (nSm1 oJoin (nC (.str ", ")) (.e (nL (nLc (iV (nOp2 oIx (.o 0) (.e (nC (.int 1))))) (gN 1) (tYesN) (nOp2 oAdd (.e (nOp2 oAdd (.e (nOp2 oAdd (.e (nOp2 oAdd (.e (nCB bStr (aCons (.e (nOp2 oIx (.o 1) (.e (nC (.int 0))))) (aNil)))) (.e (nC (.str " "))))) (.e (nCB bStr (aCons (.e (nOp2 oIx (.e (nOp2 oIx (.o 1) (.e (nC (.int 1))))) (.e (nC (.int 0))))) (aNil)))))) (.e (nC (.str "/"))))) (.e (nCB bStr (aCons (.e (nOp2 oIx (.e (nOp2 oIx (.o 1) (.e (nC (.int 1))))) (.e (nC (.int 1))))) (aNil))))) [1]))))))) (sNil))
  (sRet (nOp2 oAdd (.e (nOp2 oAdd (.e (nOp2 oAdd (.e (nOp2 oAdd (.e (nC (.str "the "))) (.e (nOp2 oIx (.o 0) (.e (nC (.int 0))))))) (.e (nC (.str " of ("))))) (.e (nSm1 oJoin (nC (.str "; ")) (.e (nL (nLc (iV (nOp2 oIx (.o 0) (.e (nC (.int 1))))) (gN 2) (tYesN) (nCall D (aCons (.o 2) (aNil))) [2]))))))) (.e (nC (.str ")"))))))))
def D_49 : Nat → NExp
  | 0 => fun _ => .bad
  | k + 1 => runD 3 (B_49 (D_49 k))
theorem n_49 (T : Tx K mg) (h : DefIn K mg "_law_text" "_law_text" (top 49)) (fu : Nat) : NFn P w K mg base (0 + fu) "_law_text" 1 (D_49 fu) := by
  obtain ⟨f, fd, F0, hm⟩ := h.ex
  induction fu with
  | zero => exact NFn.bad F0 hm (FunD.bindsN (ps := ["duty"]) F0 fun _ _ _ _ _ _ us hl => match us, hl with | [_], _ => rfl)
  | succ k ih =>
    exact NFn.of F0 hm sc_49 (FunD.bindsN (ps := ["duty"]) F0 fun _ _ _ _ _ _ us hl => match us, hl with | [_], _ => rfl) rfl fun cdv A outer s H E hr => by exact (nss_cons (ns_if (nt_cmp (op_eqN hr.units) no_eq (no_e (ne_ix (no_o 0) (no_e ne_int))) (no_e ne_str) rfl) (nss_one (ns_ret ne_str)) nss_nil)
    (nss_cons (ns_if (nt_cmp (op_eqN hr.units) no_eq (no_e (ne_ix (no_o 0) (no_e ne_int))) (no_e ne_str) rfl) (nss_one (ns_ret (ne_op op_addN no_add (no_e (ne_op op_addN no_add (no_e (ne_op op_addN no_add (no_e (ne_cty call_str_int cn_str T.f_str bt_str (na_cons (no_e (ne_ix (no_o 0) (no_e ne_int))) na_nil))) (no_e ne_str))) (no_e (ne_cty call_str_int cn_str T.f_str bt_str (na_cons (no_e (ne_ix (no_o 0) (no_e ne_int))) na_nil))))) (no_e ne_str)))) nss_nil)
    (nss_cons (ns_if (nt_cmp (op_inN (u65 hr)) no_in (no_e (ne_ix (no_o 0) (no_e ne_int))) (no_e (ne_l (neo_lst (na_cons (no_e ne_str) (na_cons (no_e ne_str) na_nil))))) rfl) (nss_one (ns_ret (ne_op op_addN no_add (no_e (ne_op op_addN no_add (no_e (ne_cty call_str_int cn_str T.f_str bt_str (na_cons (no_e (ne_ix (no_o 0) (no_e ne_int))) na_nil))) (no_e ne_str))) (no_e (ne_ix (no_o 0) (no_e ne_int)))))) nss_nil)
    (nss_cons (ns_if (nt_cmp (op_eqN hr.units) no_eq (no_e (ne_ix (no_o 0) (no_e ne_int))) (no_e ne_str) rfl) (nss_one (ns_ret (ne_op op_addN no_add (no_e ne_str) (no_e (ne_join ne_str (no_e (ne_l (neo_lc (own := [("step", 1)]) rfl sc_49.nd (ni_v (ne_ix (no_o 0) (no_e ne_int))) (blkOk_by rfl) (fun s_ H_ C_ cl_ fp_ => (ng_name 1 sc_49.nd rfl (by first | exact Or.inl rfl | exact Or.inr rfl))) (fun s_ H_ C_ cl_ fp_ => pts_nilN) (fun s_ H_ C_ cl_ fp_ => (ne_op op_addN no_add (no_e (ne_op op_addN no_add (no_e (ne_op op_addN no_add (no_e (ne_op op_addN no_add (no_e (ne_cty call_str_int cn_str T.f_str bt_str (na_cons (no_e (ne_ix (no_o 1) (no_e ne_int))) na_nil))) (no_e ne_str))) (no_e (ne_cty call_str_int cn_str T.f_str bt_str (na_cons (no_e (ne_ix (no_e (ne_ix (no_o 1) (no_e ne_int))) (no_e ne_int))) na_nil))))) (no_e ne_str))) (no_e (ne_cty call_str_int cn_str T.f_str bt_str (na_cons (no_e (ne_ix (no_e (ne_ix (no_o 1) (no_e ne_int))) (no_e ne_int))) na_nil))))))))))))) nss_nil)
    (nss_one (ns_ret (ne_op op_addN no_add (no_e (ne_op op_addN no_add (no_e (ne_op op_addN no_add (no_e (ne_op op_addN no_add (no_e ne_str) (no_e (ne_ix (no_o 0) (no_e ne_int))))) (no_e ne_str))) (no_e (ne_join ne_str (no_e (ne_l (neo_lc (own := [("one", 2)]) rfl sc_49.nd (ni_v (ne_ix (no_o 0) (no_e ne_int))) (blkOk_by rfl) (fun s_ H_ C_ cl_ fp_ => (ng_name 2 sc_49.nd rfl (by first | exact Or.inl rfl | exact Or.inr rfl))) (fun s_ H_ C_ cl_ fp_ => pts_nilN) (fun s_ H_ C_ cl_ fp_ => (ne_call ih hr takes0 (na_cons (no_o 2) na_nil) rfl rfl (aCons_len aNil_len)))))))))) (no_e ne_str))))))))
theorem sc_30 : FnScope ["duty", "first", "n", "d", "one"] ["duty"] (defScope (top 30)) := ⟨rfl, rfl, rfl, by decide +kernel, rfl, by decide +kernel, by decide +kernel⟩
def B_30 (D : NExp) : NStm :=
  sSeq (sIf (asB (nOp2 oEq (.e (nOp2 oIx (.o 0) (.e (nC (.int 0))))) (.e (nC (.str "free"))))) (sRet (nC (.str "free"))) (sNil))
  (sSeq (sIf (asB (nOp2 oEq (.e (nOp2 oIx (.o 0) (.e (nC (.int 0))))) (.e (nC (.str "value"))))) (sRet ((jCons (nFmt (nOp2 oIx (.o 0) (.e (nC (.int 1))))) (jCons (nC (.str "/")) (jCons (nFmt (nOp2 oIx (.o 0) (.e (nC (.int 2))))) (jCons (nC (.str " of value")) (jNil))))) Str.empty)) (sNil))
  (sSeq (sIf (asB (nOp2 oIn (.e (nOp2 oIx (.o 0) (.e (nC (.int 0))))) (.e (nTup (aCons (.e (nC (.str "piece"))) (aCons (.e (nC (.str "weight"))) (aNil))))))) (sRet ((jCons (nFmt (nOp2 oIx (.o 0) (.e (nC (.int 1))))) (jCons (nC (.str " a ")) (jCons (nFmt (nOp2 oIx (.o 0) (.e (nC (.int 0))))) (jNil)))) Str.empty)) (sNil))
  (sSeq (sIf (asB (nOp2 oEq (.e (nOp2 oIx (.o 0) (.e (nC (.int 0))))) (.e (nC (.str "steps"))))) (sRet (nOp2 oAdd (.e (nC (.str "steps "))) (.e (nSm1 oJoin (nC (.str ", ")) (.e (nL (nLc (iV (nOp2 oIx (.o 0) (.e (nC (.int 1))))) (gT (gCons' (gN 1) (gCons' (gT (gCons' (gN 2) (gCons' (gN 3) (gNil')))) (gNil')))) (tYesN) ((jCons (nFmt (nV 1)) (jCons (nC (.str " ")) (jCons (nFmt (nV 2)) (jCons (nC (.str "/")) (jCons (nFmt (nV 3)) (jNil)))))) Str.empty) [1, 2, 3]))))))) (sNil))
  (sRet (nOp2 oAdd (.e (nOp2 oAdd (.e ((jCons (nC (.str "the ")) (jCons (nFmt (nOp2 oIx (.o 0) (.e (nC (.int 0))))) (jCons (nC (.str " of (")) (jNil)))) Str.empty)) (.e (nSm1 oJoin (nC (.str "; ")) (.e (nL (nLc (iV (nOp2 oIx (.o 0) (.e (nC (.int 1))))) (gN 4) (tYesN) (nCall D (aCons (.o 4) (aNil))) [4]))))))) (.e (nC (.str ")"))))))))
def D_30 : Nat → NExp
  | 0 => fun _ => .bad
  | k + 1 => runD 5 (B_30 (D_30 k))
theorem n_30 (T : Tx K mg) (h : DefIn K mg "text_by" "text_by" (top 30)) (fu : Nat) : NFn P w K mg base (0 + fu) "text_by" 1 (D_30 fu) := by
  obtain ⟨f, fd, F0, hm⟩ := h.ex
  induction fu with
  | zero => exact NFn.bad F0 hm (FunD.bindsN (ps := ["duty"]) F0 fun _ _ _ _ _ _ us hl => match us, hl with | [_], _ => rfl)
  | succ k ih =>
    exact NFn.of F0 hm sc_30 (FunD.bindsN (ps := ["duty"]) F0 fun _ _ _ _ _ _ us hl => match us, hl with | [_], _ => rfl) rfl fun cdv A outer s H E hr => by exact (nss_cons (ns_if (nt_cmp (op_eqN hr.units) no_eq (no_e (ne_ix (no_o 0) (no_e ne_int))) (no_e ne_str) rfl) (nss_one (ns_ret ne_str)) nss_nil)
    (nss_cons (ns_if (nt_cmp (op_eqN hr.units) no_eq (no_e (ne_ix (no_o 0) (no_e ne_int))) (no_e ne_str) rfl) (nss_one (ns_ret (ne_fstr (nj_cons (ne_fmt (ne_ix (no_o 0) (no_e ne_int))) (nj_cons ne_str (nj_cons (ne_fmt (ne_ix (no_o 0) (no_e ne_int))) (nj_cons ne_str nj_nil))))))) nss_nil)
    (nss_cons (ns_if (nt_cmp (op_inN (u65 hr)) no_in (no_e (ne_ix (no_o 0) (no_e ne_int))) (no_e (ne_tup (na_cons (no_e ne_str) (na_cons (no_e ne_str) na_nil)))) rfl) (nss_one (ns_ret (ne_fstr (nj_cons (ne_fmt (ne_ix (no_o 0) (no_e ne_int))) (nj_cons ne_str (nj_cons (ne_fmt (ne_ix (no_o 0) (no_e ne_int))) nj_nil)))))) nss_nil)
    (nss_cons (ns_if (nt_cmp (op_eqN hr.units) no_eq (no_e (ne_ix (no_o 0) (no_e ne_int))) (no_e ne_str) rfl) (nss_one (ns_ret (ne_op op_addN no_add (no_e ne_str) (no_e (ne_join ne_str (no_e (ne_l (neo_lc (own := [("first", 1), ("n", 2), ("d", 3)]) rfl sc_30.nd (ni_v (ne_ix (no_o 0) (no_e ne_int))) (blkOk_by rfl) (fun s_ H_ C_ cl_ fp_ => (ng_tup rfl (ngs_cons (ng_name 1 sc_30.nd rfl (by first | exact Or.inl rfl | exact Or.inr rfl)) (ngs_cons (ng_tup rfl (ngs_cons (ng_name 2 sc_30.nd rfl (by first | exact Or.inl rfl | exact Or.inr rfl)) (ngs_cons (ng_name 3 sc_30.nd rfl (by first | exact Or.inl rfl | exact Or.inr rfl)) ngs_nil)) (gCons_len (gCons_len gNil_len))) ngs_nil)) (gCons_len (gCons_len gNil_len)))) (fun s_ H_ C_ cl_ fp_ => pts_nilN) (fun s_ H_ C_ cl_ fp_ => (ne_fstr (nj_cons (ne_fmt (ne_v 1)) (nj_cons ne_str (nj_cons (ne_fmt (ne_v 2)) (nj_cons ne_str (nj_cons (ne_fmt (ne_v 3)) nj_nil))))))))))))))) nss_nil)
    (nss_one (ns_ret (ne_op op_addN no_add (no_e (ne_op op_addN no_add (no_e (ne_fstr (nj_cons ne_str (nj_cons (ne_fmt (ne_ix (no_o 0) (no_e ne_int))) (nj_cons ne_str nj_nil))))) (no_e (ne_join ne_str (no_e (ne_l (neo_lc (own := [("one", 4)]) rfl sc_30.nd (ni_v (ne_ix (no_o 0) (no_e ne_int))) (blkOk_by rfl) (fun s_ H_ C_ cl_ fp_ => (ng_name 4 sc_30.nd rfl (by first | exact Or.inl rfl | exact Or.inr rfl))) (fun s_ H_ C_ cl_ fp_ => pts_nilN) (fun s_ H_ C_ cl_ fp_ => (ne_call ih hr takes0 (na_cons (no_o 4) na_nil) rfl rfl (aCons_len aNil_len)))))))))) (no_e ne_str))))))))
theorem sc_31 : FnScope ["duty"] ["duty"] (defScope (top 31)) := ⟨rfl, rfl, rfl, by decide +kernel, rfl, by decide +kernel, by decide +kernel⟩
def B_31 : NStm :=
  sSeq (sExpr (nCall D_8 (aCons (.e (nCall D_19 (aCons (.o 0) (aNil)))) (aNil))))
  (sRet (nCall (D_30 12) (aCons (.o 0) (aNil))))
def D_31 : NExp := runD 1 B_31
theorem n_31 {x : Str} (T : Tx K mg) (h : DefIn K mg x "text_of" (top 31)) : NFn P w K mg base 14 x 1 D_31 := by
  obtain ⟨f, fd, F0, hm⟩ := h.ex
  exact NFn.of F0 hm sc_31 (FunD.bindsN (ps := ["duty"]) F0 fun _ _ _ _ _ _ us hl => match us, hl with | [_], _ => rfl) rfl fun cdv A outer s H E hr => by exact (nss_cons (ns_expr (ne_call ((n_8 T T.d_check).mono (by first | omega | exact Nat.le_trans (by decide) (Nat.le_add_right _ _))) hr (takes_of rfl rfl rfl rfl) (na_cons (no_e (ne_call ((n_19 T T.d_is_duty).mono (by first | omega | exact Nat.le_trans (by decide) (Nat.le_add_right _ _))) hr (takes_of rfl rfl rfl rfl) (na_cons (no_o 0) na_nil) rfl rfl (aCons_len aNil_len))) na_nil) rfl rfl (aCons_len aNil_len)))
    (nss_one (ns_ret (ne_call ((n_30 T T.d_text_by 12).mono (by first | omega | exact Nat.le_trans (by decide) (Nat.le_add_right _ _))) hr (takes_of rfl rfl rfl rfl) (na_cons (no_o 0) na_nil) rfl rfl (aCons_len aNil_len)))))
theorem sc_38 : FnScope ["e"] ["e"] (defScope (top 38)) := ⟨rfl, rfl, rfl, by decide +kernel, rfl, by decide +kernel, by decide +kernel⟩
theorem nFlags (T : Tx K mg) : NFl P w K mg base 1 "_law_flags" subF tblF := by
  obtain ⟨f, fd, F0, hm⟩ := T.d__law_flags.ex
  refine NFl.of F0 hm sc_38 (FunD.bindsN (ps := ["e"]) F0 fun _ _ _ _ _ _ us hl => match us, hl with | [_], _ => rfl) (by decide) fun A outer s H p cdv x D fl zc vf => ?_
  obtain ⟨C0, c0, k0⟩ := fl.a "NotRight" (by decide)
  obtain ⟨C1, c1, k1⟩ := fl.a "NotThere" (by decide)
  obtain ⟨C2, c2, k2⟩ := fl.a "NoAnswer" (by decide)
  obtain ⟨C3, c3, k3⟩ := fl.a "TooLarge" (by decide)
  obtain ⟨C4, c4, k4⟩ := fl.a "Malformed" (by decide)
  exact (pfl_cons (ev := "e") List.mem_cons_self fl.c zc vf c0 k0 T.f_isinstance (pfl_cons (ev := "e") List.mem_cons_self fl.c zc vf c1 k1 T.f_isinstance (pfl_cons (ev := "e") List.mem_cons_self fl.c zc vf c2 k2 T.f_isinstance (pfl_cons (ev := "e") List.mem_cons_self fl.c zc vf c3 k3 T.f_isinstance (pfl_cons (ev := "e") List.mem_cons_self fl.c zc vf c4 k4 T.f_isinstance pfl_nil rfl (Or.inl rfl) (by decide) (by decide) rfl rfl (by decide)) rfl (Or.inl rfl) (by decide) (by decide) rfl rfl (by decide)) rfl (Or.inl rfl) (by decide) (by decide) rfl rfl (by decide)) rfl (Or.inl rfl) (by decide) (by decide) rfl rfl (by decide)) rfl (Or.inl rfl) (by decide) (by decide) rfl rfl (by decide))
theorem sc_50 : FnScope ["which", "one", "two", "three", "e"] ["which", "one", "two", "three"] (defScope (top 50)) := ⟨rfl, rfl, rfl, by decide +kernel, rfl, by decide +kernel, by decide +kernel⟩
def B_50 : NStm :=
  sTryF 4 subF tblF knownF (sSeq (sIf (asB (nOp2 oLt (.o 0) (.e (nC (.int 2))))) (sRet (nPick [D_29, D_31] (nF 0) (aCons (.o 1) (aNil)))) (sNil))
  (sRet (nCall D_32 (aCons (.o 1) (aCons (.o 2) (aCons (.o 3) (aNil)))))))
def D_50 : NExp := runD 5 B_50
theorem n_50 {x : Str} (T : Tx K mg) (h : DefIn K mg x "_law_told" (top 50)) : NFn P w K mg base 16 x 4 D_50 := by
  obtain ⟨f, fd, F0, hm⟩ := h.ex
  obtain ⟨CB, gb, known⟩ := T.CB
  exact NFn.of F0 hm sc_50 (FunD.bindsN (ps := ["which", "one", "two", "three"]) F0 fun _ _ _ _ _ _ us hl => match us, hl with | [_, _, _, _], _ => rfl) rfl fun cdv A outer s H E hr => by exact (nss_one (ns_tryF (i := 4) rfl rfl sc_50.nd rfl rfl gb (takes_of rfl rfl rfl rfl) hr ((nFlags T).mono (by first | omega | exact Nat.le_trans (by decide) (Nat.le_add_right _ _))) known (fun W_ pn_ xe_ tk_ hp_ => (nss_cons (ns_if (nt_cmp (op_ltN hr.units) no_lt (no_o 0) (no_e ne_int) rfl) (nss_one (ns_ret (ne_pick (picks_cons ((n_29 T T.d_simplified).mono (by first | omega | exact Nat.le_trans (by decide) (Nat.le_add_right _ _))) (Nat.le_refl _) (picks_cons ((n_31 T T.d_text_of).mono (by first | omega | exact Nat.le_trans (by decide) (Nat.le_add_right _ _))) (Nat.le_refl _) picks_nil)) (by decide) hr tk_ (ne_f 0) (na_cons (no_o 1) na_nil) rfl (aCons_len aNil_len)))) nss_nil)
    (nss_one (ns_ret (ne_call ((n_32 T T.d_crossing).mono (by first | omega | exact Nat.le_trans (by decide) (Nat.le_add_right _ _))) hr tk_ (na_cons (no_o 1) (na_cons (no_o 2) (na_cons (no_o 3) na_nil))) rfl rfl (aCons_len (aCons_len (aCons_len aNil_len)))))))) rfl (by decide) rfl (by decide) (Or.inl rfl) (by decide) (by decide)))
theorem sc_51 : FnScope ["one", "other", "goods", "got", "last", "looked", "value"] ["one", "other", "goods"] (defScope (top 51)) := ⟨rfl, rfl, rfl, by decide +kernel, rfl, by decide +kernel, by decide +kernel⟩
def B_51 : NStm :=
  sSeq (sAsg (nCall D_50 (aCons (.e (nC (.int 2))) (aCons (.o 0) (aCons (.o 1) (aCons (.o 2) (aNil)))))) (gN 3))
  (sSeq (sIf (tAnd' (asB (nOp2 oIsNot (.o 3) (.e (nC .none)))) (tOr' (tNot' (asT (.e (nIsi "int" (.o 3))))) (tOr' (asT (.e (nIsi "bool" (.o 3)))) (tNot' (asB (nChain oLe oLe (.e (nC (.int 0))) (.o 3) (.e (nC (.int 10000))))))))) (sRet (nC (.bool false))) (sNil))
  (sSeq (sAsg (nC (.int 10001)) (gN 4))
  (sSeq (sIf (asB (nOp2 oIsNot (.o 3) (.e (nC .none)))) (sSeq (sAsg (nV 3) (gN 4))
  (sIf (asT (.e (nCall D_43 (aCons (.e (nCall (D_46 12) (aCons (.o 0) (aCons (.e (nOp2 oAdd (.e (nTup (aCons (.e (nV 3)) (aNil)))) (.e (nSl (.o 2) (pSome (nC (.int 1))) (pNone))))) (aNil))))) (aCons (.e (nCall (D_46 12) (aCons (.o 1) (aCons (.e (nOp2 oAdd (.e (nTup (aCons (.e (nV 3)) (aNil)))) (.e (nSl (.o 2) (pSome (nC (.int 1))) (pNone))))) (aNil))))) (aNil)))))) (sRet (nC (.bool false))) (sNil))) (sNil))
  (sSeq (sAsg (nOp2 oAdd (.e (nOp2 oAdd (.e (nL (nLstRg (nCB bMin (aCons (.o 4) (aCons (.e (nC (.int 120))) (aNil))))))) (.e (nL (nLc (iRg3 (aCons (.e (nC (.int 120))) (aCons (.o 4) (aCons (.e (nC (.int 97))) (aNil))))) (gN 6) (tYesN) (nV 6) [6]))))) (.e (nL (nLc (iRg2 (aCons (.e (nCB bMax (aCons (.e (nC (.int 0))) (aCons (.e (nOp2 oSub (.o 4) (.e (nC (.int 5))))) (aNil))))) (aCons (.o 4) (aNil)))) (gN 6) (tYesN) (nV 6) [6])))) (gN 5))
  (sRet (nOp2 oEq (.e (nL (nLc (iV (nV 5)) (gN 6) (tNot' (asT (.e (nCall D_43 (aCons (.e (nCall (D_46 12) (aCons (.o 0) (aCons (.e (nOp2 oAdd (.e (nTup (aCons (.e (nV 6)) (aNil)))) (.e (nSl (.o 2) (pSome (nC (.int 1))) (pNone))))) (aNil))))) (aCons (.e (nCall (D_46 12) (aCons (.o 1) (aCons (.e (nOp2 oAdd (.e (nTup (aCons (.e (nV 6)) (aNil)))) (.e (nSl (.o 2) (pSome (nC (.int 1))) (pNone))))) (aNil))))) (aNil))))))) (nV 6) [6]))) (.e (nL (nLstO (aNil))))))))))
def D_51 : NExp := runD 7 B_51
theorem n_51 {x : Str} (T : Tx K mg) (h : DefIn K mg x "_law_is_crossing_right" (top 51)) : NFn P w K mg base 17 x 3 D_51 := by
  obtain ⟨f, fd, F0, hm⟩ := h.ex
  exact NFn.of F0 hm sc_51 (FunD.bindsN (ps := ["one", "other", "goods"]) F0 fun _ _ _ _ _ _ us hl => match us, hl with | [_, _, _], _ => rfl) rfl fun cdv A outer s H E hr => by exact (nss_cons (ns_asg (ne_call ((n_50 T T.d__law_told).mono (by first | omega | exact Nat.le_trans (by decide) (Nat.le_add_right _ _))) hr (takes_of rfl rfl rfl rfl) (na_cons (no_e ne_int) (na_cons (no_o 0) (na_cons (no_o 1) (na_cons (no_o 2) na_nil)))) rfl rfl (aCons_len (aCons_len (aCons_len (aCons_len aNil_len))))) (ng_name 3 sc_51.nd rfl (by first | exact Or.inl rfl | exact Or.inr rfl)))
    (nss_cons (ns_if (NW.t (nw_and (nt_cmp op_notNN no_isnot (no_o 3) (no_e ne_none) rfl) (nw_and1 (NW.t (nw_or (nt_not (nt_t (no_e (ne_isi kit_int (no_o 3) T.f_isinstance T.f_int bt_int)))) (nw_or (nt_t (no_e (ne_isi kit_bool (no_o 3) T.f_isinstance T.f_bool bt_bool))) (nw_or1 (nt_not (nt_chain op_leN op_leN no_le no_le (no_e ne_int) (no_o 3) (no_e ne_int)))))))))) (nss_one (ns_ret ne_bool)) nss_nil)
    (nss_cons (ns_asg ne_int (ng_name 4 sc_51.nd rfl (by first | exact Or.inl rfl | exact Or.inr rfl)))
    (nss_cons (ns_if (nt_cmp op_notNN no_isnot (no_o 3) (no_e ne_none) rfl) (nss_cons (ns_asg (ne_v 3) (ng_name 4 sc_51.nd rfl (by first | exact Or.inl rfl | exact Or.inr rfl)))
    (nss_one (ns_if (nt_t (no_e (ne_call ((n_43 T T.d__law_is_at_most).mono (by first | omega | exact Nat.le_trans (by decide) (Nat.le_add_right _ _))) hr (takes_of rfl rfl rfl rfl) (na_cons (no_e (ne_call ((n_46 T T.d__law_due 12).mono (by first | omega | exact Nat.le_trans (by decide) (Nat.le_add_right _ _))) hr (takes_of rfl rfl rfl rfl) (na_cons (no_o 0) (na_cons (no_e (ne_op op_addN no_add (no_e (ne_tup (na_cons (no_e (ne_v 3)) na_nil))) (no_e (ne_sl (no_o 2) (np_some ne_int) np_none)))) na_nil)) rfl rfl (aCons_len (aCons_len aNil_len)))) (na_cons (no_e (ne_call ((n_46 T T.d__law_due 12).mono (by first | omega | exact Nat.le_trans (by decide) (Nat.le_add_right _ _))) hr (takes_of rfl rfl rfl rfl) (na_cons (no_o 1) (na_cons (no_e (ne_op op_addN no_add (no_e (ne_tup (na_cons (no_e (ne_v 3)) na_nil))) (no_e (ne_sl (no_o 2) (np_some ne_int) np_none)))) na_nil)) rfl rfl (aCons_len (aCons_len aNil_len)))) na_nil)) rfl rfl (aCons_len (aCons_len aNil_len))))) (nss_one (ns_ret ne_bool)) nss_nil))) nss_nil)
    (nss_cons (ns_asg (ne_op op_addN no_add (no_e (ne_op op_addN no_add (no_e (ne_l (neo_listRg rfl T.f_list T.f_range (ne_cb (cr_minN rfl) cn_min T.f_min bt_min (na_cons (no_o 4) (na_cons (no_e ne_int) na_nil)))))) (no_e (ne_l (neo_lc (own := [("value", 6)]) rfl sc_51.nd (ni_rg3 T.f_range (na_cons (no_e ne_int) (na_cons (no_o 4) (na_cons (no_e ne_int) na_nil)))) (blkOk_by rfl) (fun s_ H_ C_ cl_ fp_ => (ng_name 6 sc_51.nd rfl (by first | exact Or.inl rfl | exact Or.inr rfl))) (fun s_ H_ C_ cl_ fp_ => pts_nilN) (fun s_ H_ C_ cl_ fp_ => (ne_v 6))))))) (no_e (ne_l (neo_lc (own := [("value", 6)]) rfl sc_51.nd (ni_rg2 T.f_range (na_cons (no_e (ne_cb (cr_maxN rfl) cn_max T.f_max bt_max (na_cons (no_e ne_int) (na_cons (no_e (ne_op op_sub no_sub (no_o 4) (no_e ne_int))) na_nil)))) (na_cons (no_o 4) na_nil))) (blkOk_by rfl) (fun s_ H_ C_ cl_ fp_ => (ng_name 6 sc_51.nd rfl (by first | exact Or.inl rfl | exact Or.inr rfl))) (fun s_ H_ C_ cl_ fp_ => pts_nilN) (fun s_ H_ C_ cl_ fp_ => (ne_v 6)))))) (ng_name 5 sc_51.nd rfl (by first | exact Or.inl rfl | exact Or.inr rfl)))
    (nss_one (ns_ret (ne_cmp (op_eqN hr.units) no_eq (no_e (ne_l (neo_lc (own := [("value", 6)]) rfl sc_51.nd (ni_v (ne_v 5)) (blkOk_by rfl) (fun s_ H_ C_ cl_ fp_ => (ng_name 6 sc_51.nd rfl (by first | exact Or.inl rfl | exact Or.inr rfl))) (fun s_ H_ C_ cl_ fp_ => (pts_oneN (nt_not (nt_t (no_e (ne_call ((n_43 T T.d__law_is_at_most).mono (by first | omega | exact Nat.le_trans (by decide) (Nat.le_add_right _ _))) hr takes0 (na_cons (no_e (ne_call ((n_46 T T.d__law_due 12).mono (by first | omega | exact Nat.le_trans (by decide) (Nat.le_add_right _ _))) hr takes0 (na_cons (no_o 0) (na_cons (no_e (ne_op op_addN no_add (no_e (ne_tup (na_cons (no_e (ne_v 6)) na_nil))) (no_e (ne_sl (no_o 2) (np_some ne_int) np_none)))) na_nil)) rfl rfl (aCons_len (aCons_len aNil_len)))) (na_cons (no_e (ne_call ((n_46 T T.d__law_due 12).mono (by first | omega | exact Nat.le_trans (by decide) (Nat.le_add_right _ _))) hr takes0 (na_cons (no_o 1) (na_cons (no_e (ne_op op_addN no_add (no_e (ne_tup (na_cons (no_e (ne_v 6)) na_nil))) (no_e (ne_sl (no_o 2) (np_some ne_int) np_none)))) na_nil)) rfl rfl (aCons_len (aCons_len aNil_len)))) na_nil)) rfl rfl (aCons_len (aCons_len aNil_len)))))))) (fun s_ H_ C_ cl_ fp_ => (ne_v 6))))) (no_e (ne_l (neo_lst na_nil))) rfl))))))))
theorem sc_52 : FnScope ["script", "draws", "refused", "turn", "duty", "goods", "plain", "bad", "odd", "told", "pairs", "one", "other", "got"] ["script"] (defScope (top 52)) := ⟨rfl, rfl, rfl, by decide +kernel, rfl, by decide +kernel, by decide +kernel⟩
def B_52 : NStm :=
  sSeq (sOwn 1 (nCallO D_34 (aCons (.o 0) (aNil))))
  (sSeq (sAsg (nL (nLstO (aCons (.e (nC (.bool true))) (aCons (.e (nC (.bool false))) (aCons (.e (nC (.bool false))) (aCons (.e (nC (.bool false))) (aCons (.e (nC (.bool false))) (aNil)))))))) (gN 2))
  (sSeq (sDrop [7, 4, 5, 8, 6, 2, 9, 3] (sFor (iRg1 (aCons (.e (nC (.int 6))) (aNil))) (gN 3) (sDrop [3] (sSeq (sPar 4 5 (evV (nCall (D_45 12) (aCons (.o 1) (aCons (.e (nOp2 oAdd (.e (nC (.int 1))) (.e (nCall D_35 (aCons (.o 1) (aCons (.e (nC (.int 5))) (aNil))))))) (aNil))))) (evV (nCall D_47 (aCons (.o 1) (aNil)))))
  (sSeq (sAsg (nCall (D_48 12) (aCons (.o 4) (aNil))) (gN 6))
  (sSeq (sIf (tNot' (asT (.e (nCall (D_37 20) (aCons (.e (nL (nLstO (aCons (.e (nCall D_50 (aCons (.e (nC (.int 0))) (aCons (.o 4) (aCons (.e (nC (.int 0))) (aCons (.e (nC (.int 0))) (aNil))))))) (aCons (.e (nCall D_50 (aCons (.e (nC (.int 1))) (aCons (.o 4) (aCons (.e (nC (.int 0))) (aCons (.e (nC (.int 0))) (aNil))))))) (aCons (.e (nCall D_50 (aCons (.e (nC (.int 0))) (aCons (.o 6) (aCons (.e (nC (.int 0))) (aCons (.e (nC (.int 0))) (aNil))))))) (aCons (.e (nCall D_50 (aCons (.e (nC (.int 1))) (aCons (.o 6) (aCons (.e (nC (.int 0))) (aCons (.e (nC (.int 0))) (aNil))))))) (aNil)))))))) (aCons (.e (nL (nLstO (aCons (.e (nV 6)) (aCons (.e (nCall (D_49 12) (aCons (.o 4) (aNil)))) (aCons (.e (nV 6)) (aCons (.e (nCall (D_49 12) (aCons (.o 6) (aNil)))) (aNil)))))))) (aNil))))))) (sRet (nC (.bool false))) (sNil))
  (sSeq (sDrop [6] (sIf (tNot' (asT (.e (nCall (D_37 20) (aCons (.e (nCall D_27 (aCons (.o 6) (aCons (.o 5) (aNil))))) (aCons (.e (nCall (D_46 12) (aCons (.o 4) (aCons (.o 5) (aNil))))) (aNil))))))) (sRet (nC (.bool false))) (sNil)))
  (sSeq (sAsg (nCall D_36 (aCons (.o 1) (aCons (.e (nL (nLstO (aCons (.e (nC .none)) (aCons (.e (nTup (aCons (.e (nC (.str "value"))) (aCons (.e (nC (.int 2))) (aCons (.e (nC (.int 4))) (aNil)))))) (aCons (.e (nTup (aCons (.e (nC (.str "piece"))) (aCons (.e (nNeg (nC (.int 1)))) (aNil))))) (aCons (.e (nTup (aCons (.e (nC (.str "most"))) (aCons (.e (nTup (aNil))) (aNil))))) (aCons (.e (nL (nLstO (aCons (.e (nC (.str "free"))) (aNil))))) (aCons (.e (nTup (aCons (.e (nC (.str "sum"))) (aCons (.e (nTup (aCons (.e (nV 4)) (aCons (.e (nC (.int 1))) (aNil))))) (aNil))))) (aNil)))))))))) (aNil)))) (gN 7))
  (sSeq (sAsg (nCall D_36 (aCons (.o 1) (aCons (.e (nL (nLstO (aCons (.e (nC .none)) (aCons (.e (nTup (aCons (.e (nC (.int 0))) (aCons (.e (nC (.int 0))) (aNil))))) (aCons (.e (nTup (aCons (.e (nNeg (nC (.int 1)))) (aCons (.e (nC (.int 0))) (aCons (.e (nC (.int 0))) (aNil)))))) (aCons (.e (nL (nLstO (aCons (.e (nC (.int 0))) (aCons (.e (nC (.int 0))) (aCons (.e (nC (.int 0))) (aNil))))))) (aNil)))))))) (aNil)))) (gN 8))
  (sSeq (sDrop [7, 4, 5, 8] (sAsg (nL (nLstO (aCons (.e (nCall D_50 (aCons (.e (nC (.int 0))) (aCons (.o 7) (aCons (.e (nC (.int 0))) (aCons (.e (nC (.int 0))) (aNil))))))) (aCons (.e (nCall D_50 (aCons (.e (nC (.int 1))) (aCons (.o 7) (aCons (.e (nC (.int 0))) (aCons (.e (nC (.int 0))) (aNil))))))) (aCons (.e (nCall D_50 (aCons (.e (nC (.int 2))) (aCons (.o 7) (aCons (.o 4) (aCons (.o 5) (aNil))))))) (aCons (.e (nCall D_50 (aCons (.e (nC (.int 2))) (aCons (.o 4) (aCons (.o 7) (aCons (.o 5) (aNil))))))) (aCons (.e (nCall D_50 (aCons (.e (nC (.int 2))) (aCons (.o 4) (aCons (.o 4) (aCons (.o 8) (aNil))))))) (aNil)))))))) (gN 9)))
  (sDrop [9] (sIf (tNot' (asT (.e (nCall (D_37 20) (aCons (.o 9) (aCons (.e (nOp2 oMul (.e (nL (nLstO (aCons (.e (nV 2)) (aNil))))) (.e (nC (.int 5))))) (aNil))))))) (sRet (nC (.bool false))) (sNil)))))))))))))
  (sSeq (sAsg (nCall D_47 (aCons (.o 1) (aNil))) (gN 5))
  (sSeq (sAsg (nL (nLstO (aCons (.e (nTup (aCons (.e (nOp2 oAdd (.e (nTup (aCons (.e (nC (.str "value"))) (aNil)))) (.e (nCall D_44 (aCons (.o 1) (aNil)))))) (aCons (.e (nTup (aCons (.e (nC (.str "piece"))) (aCons (.e (nCall D_35 (aCons (.o 1) (aCons (.e (nC (.int 200))) (aNil))))) (aNil))))) (aNil))))) (aCons (.e (nTup (aCons (.e (nCall (D_45 12) (aCons (.o 1) (aCons (.e (nC (.int 2))) (aNil))))) (aCons (.e (nCall (D_45 12) (aCons (.o 1) (aCons (.e (nC (.int 2))) (aNil))))) (aNil))))) (aNil))))) (gN 10))
  (sSeq (sDrop [1] (sAsg (nOp2 oAdd (.o 10) (.e (nL (nLstO (aCons (.e (nTup (aCons (.e (nTup (aCons (.e (nC (.str "steps"))) (aCons (.e (nTup (aCons (.e (nTup (aCons (.e (nC (.int 0))) (aCons (.e (nTup (aCons (.e (nC (.int 0))) (aCons (.e (nC (.int 1))) (aNil))))) (aNil))))) (aCons (.e (nTup (aCons (.e (nOp2 oAdd (.e (nC (.int 50))) (.e (nCall D_35 (aCons (.o 1) (aCons (.e (nC (.int 9000))) (aNil))))))) (aCons (.e (nTup (aCons (.e (nC (.int 1))) (aCons (.e (nC (.int 3))) (aNil))))) (aNil))))) (aNil))))) (aNil))))) (aCons (.e (nTup (aCons (.e (nC (.str "weight"))) (aCons (.e (nC (.int 1))) (aNil))))) (aNil))))) (aNil)))))) (gN 10)))
  (sSeq (sDrop [5, 11, 12, 10] (sFor (iV (nV 10)) (gT (gCons' (gN 11) (gCons' (gN 12) (gNil')))) (sDrop [11, 12] (sDrop [11, 12] (sIf (tNot' (asT (.e (nCall D_51 (aCons (.o 11) (aCons (.o 12) (aCons (.o 5) (aNil)))))))) (sRet (nC (.bool false))) (sNil))))))
  (sSeq (sAsg (nL (nLstO (aCons (.e (nCall D_29 (aCons (.e (nTup (aCons (.e (nC (.str "sum"))) (aCons (.e (nTup (aCons (.e (nTup (aCons (.e (nC (.str "free"))) (aNil)))) (aCons (.e (nTup (aCons (.e (nC (.str "piece"))) (aCons (.e (nC (.int 1))) (aNil))))) (aNil))))) (aNil))))) (aNil)))) (aCons (.e (nCall D_29 (aCons (.e (nTup (aCons (.e (nC (.str "sum"))) (aCons (.e (nTup (aCons (.e (nTup (aCons (.e (nC (.str "free"))) (aNil)))) (aNil)))) (aNil))))) (aNil)))) (aCons (.e (nCall D_29 (aCons (.e (nTup (aCons (.e (nC (.str "most"))) (aCons (.e (nTup (aCons (.e (nTup (aCons (.e (nC (.str "sum"))) (aCons (.e (nTup (aCons (.e (nTup (aCons (.e (nC (.str "free"))) (aNil)))) (aCons (.e (nTup (aCons (.e (nC (.str "free"))) (aNil)))) (aNil))))) (aNil))))) (aNil)))) (aNil))))) (aNil)))) (aNil)))))) (gN 13))
  (sSeq (sAsg (nOp2 oAdd (.o 13) (.e (nL (nLstO (aCons (.e (nCall D_32 (aCons (.e (nTup (aCons (.e (nC (.str "value"))) (aCons (.e (nC (.int 1))) (aCons (.e (nC (.int 2))) (aNil)))))) (aCons (.e (nTup (aCons (.e (nC (.str "piece"))) (aCons (.e (nC (.int 4))) (aNil))))) (aCons (.e (nTup (aCons (.e (nC (.int 0))) (aCons (.e (nC (.int 1))) (aCons (.e (nC (.int 0))) (aNil)))))) (aNil)))))) (aCons (.e (nCall D_32 (aCons (.e (nTup (aCons (.e (nC (.str "free"))) (aNil)))) (aCons (.e (nTup (aCons (.e (nC (.str "free"))) (aNil)))) (aCons (.e (nTup (aCons (.e (nC (.int 0))) (aCons (.e (nC (.int 0))) (aCons (.e (nC (.int 0))) (aNil)))))) (aNil)))))) (aNil))))))) (gN 13))
  (sRet (nCall (D_37 20) (aCons (.o 13) (aCons (.e (nL (nLstO (aCons (.e (nTup (aCons (.e (nC (.str "piece"))) (aCons (.e (nC (.int 1))) (aNil))))) (aCons (.e (nTup (aCons (.e (nC (.str "free"))) (aNil)))) (aCons (.e (nTup (aCons (.e (nC (.str "free"))) (aNil)))) (aCons (.e (nC (.int 9))) (aCons (.e (nC .none)) (aNil))))))))) (aNil)))))))))))))
def D_52 : NExp := runD 14 B_52
theorem law_ok (T : Tx K mg) {f : Addr} {fd : FuncData} (F0 : FunD K "law" "law" (defArgs (top 52)) (defBody (top 52)) (defScope (top 52)) [] [] f fd) : FnOk P w K mg base (L2.CX P w) 22 f fd ["script"] (NProm K mg 1 D_52) := by
  exact NFn.ok F0 sc_52 rfl fun cdv A outer s H E hr => by exact (nss_cons (ns_own 1 sc_52.nd rfl (by first | exact Or.inl rfl | exact Or.inr rfl) (neo_call ((n_34 T T.d__law_draws).mono (by first | omega | exact Nat.le_trans (by decide) (Nat.le_add_right _ _))) hr (takes_of rfl rfl rfl rfl) (na_cons (no_o 0) na_nil) rfl rfl (aCons_len aNil_len)))
    (nss_cons (ns_asg (ne_l (neo_lst (na_cons (no_e ne_bool) (na_cons (no_e ne_bool) (na_cons (no_e ne_bool) (na_cons (no_e ne_bool) (na_cons (no_e ne_bool) na_nil))))))) (ng_name 2 sc_52.nd rfl (by first | exact Or.inl rfl | exact Or.inr rfl)))
    (nss_cons (ns_drop [7, 4, 5, 8, 6, 2, 9, 3] (ns_for (passes_of rfl) rfl (ni_rg1 T.f_range (na_cons (no_e ne_int) na_nil)) (ng_name 3 sc_52.nd rfl (by first | exact Or.inl rfl | exact Or.inr rfl)) (nss_drop [3] (nss_cons (ns_par 4 5 rfl sc_52.nd rfl rfl (by decide) rfl rfl (nv_v (ne_call ((n_45 T T.d__law_duty 12).mono (by first | omega | exact Nat.le_trans (by decide) (Nat.le_add_right _ _))) hr (takes_of rfl rfl rfl rfl) (na_cons (no_o 1) (na_cons (no_e (ne_op op_addN no_add (no_e ne_int) (no_e (ne_call ((n_35 T T.d__law_take).mono (by first | omega | exact Nat.le_trans (by decide) (Nat.le_add_right _ _))) hr (takes_of rfl rfl rfl rfl) (na_cons (no_o 1) (na_cons (no_e ne_int) na_nil)) rfl rfl (aCons_len (aCons_len aNil_len)))))) na_nil)) rfl rfl (aCons_len (aCons_len aNil_len)))) (nv_v (ne_call ((n_47 T T.d__law_goods).mono (by first | omega | exact Nat.le_trans (by decide) (Nat.le_add_right _ _))) hr (takes_of rfl rfl rfl rfl) (na_cons (no_o 1) na_nil) rfl rfl (aCons_len aNil_len))))
    (nss_cons (ns_asg (ne_call ((n_48 T T.d__law_plain 12).mono (by first | omega | exact Nat.le_trans (by decide) (Nat.le_add_right _ _))) hr (takes_of rfl rfl rfl rfl) (na_cons (no_o 4) na_nil) rfl rfl (aCons_len aNil_len)) (ng_name 6 sc_52.nd rfl (by first | exact Or.inl rfl | exact Or.inr rfl)))
    (nss_cons (ns_if (nt_not (nt_t (no_e (ne_call ((n_37 T T.d__law_same 20).mono (by first | omega | exact Nat.le_trans (by decide) (Nat.le_add_right _ _))) hr (takes_of rfl rfl rfl rfl) (na_cons (no_e (ne_l (neo_lst (na_cons (no_e (ne_call ((n_50 T T.d__law_told).mono (by first | omega | exact Nat.le_trans (by decide) (Nat.le_add_right _ _))) hr (takes_of rfl rfl rfl rfl) (na_cons (no_e ne_int) (na_cons (no_o 4) (na_cons (no_e ne_int) (na_cons (no_e ne_int) na_nil)))) rfl rfl (aCons_len (aCons_len (aCons_len (aCons_len aNil_len)))))) (na_cons (no_e (ne_call ((n_50 T T.d__law_told).mono (by first | omega | exact Nat.le_trans (by decide) (Nat.le_add_right _ _))) hr (takes_of rfl rfl rfl rfl) (na_cons (no_e ne_int) (na_cons (no_o 4) (na_cons (no_e ne_int) (na_cons (no_e ne_int) na_nil)))) rfl rfl (aCons_len (aCons_len (aCons_len (aCons_len aNil_len)))))) (na_cons (no_e (ne_call ((n_50 T T.d__law_told).mono (by first | omega | exact Nat.le_trans (by decide) (Nat.le_add_right _ _))) hr (takes_of rfl rfl rfl rfl) (na_cons (no_e ne_int) (na_cons (no_o 6) (na_cons (no_e ne_int) (na_cons (no_e ne_int) na_nil)))) rfl rfl (aCons_len (aCons_len (aCons_len (aCons_len aNil_len)))))) (na_cons (no_e (ne_call ((n_50 T T.d__law_told).mono (by first | omega | exact Nat.le_trans (by decide) (Nat.le_add_right _ _))) hr (takes_of rfl rfl rfl rfl) (na_cons (no_e ne_int) (na_cons (no_o 6) (na_cons (no_e ne_int) (na_cons (no_e ne_int) na_nil)))) rfl rfl (aCons_len (aCons_len (aCons_len (aCons_len aNil_len)))))) na_nil))))))) (na_cons (no_e (ne_l (neo_lst (na_cons (no_e (ne_v 6)) (na_cons (no_e (ne_call ((n_49 T T.d__law_text 12).mono (by first | omega | exact Nat.le_trans (by decide) (Nat.le_add_right _ _))) hr (takes_of rfl rfl rfl rfl) (na_cons (no_o 4) na_nil) rfl rfl (aCons_len aNil_len))) (na_cons (no_e (ne_v 6)) (na_cons (no_e (ne_call ((n_49 T T.d__law_text 12).mono (by first | omega | exact Nat.le_trans (by decide) (Nat.le_add_right _ _))) hr (takes_of rfl rfl rfl rfl) (na_cons (no_o 6) na_nil) rfl rfl (aCons_len aNil_len))) na_nil))))))) na_nil)) rfl rfl (aCons_len (aCons_len aNil_len)))))) (nss_one (ns_ret ne_bool)) nss_nil)
    (nss_cons (ns_drop [6] (ns_if (nt_not (nt_t (no_e (ne_call ((n_37 T T.d__law_same 20).mono (by first | omega | exact Nat.le_trans (by decide) (Nat.le_add_right _ _))) hr (takes_of rfl rfl rfl rfl) (na_cons (no_e (ne_call ((n_27 T T.d_due_of).mono (by first | omega | exact Nat.le_trans (by decide) (Nat.le_add_right _ _))) hr (takes_of rfl rfl rfl rfl) (na_cons (no_o 6) (na_cons (no_o 5) na_nil)) rfl rfl (aCons_len (aCons_len aNil_len)))) (na_cons (no_e (ne_call ((n_46 T T.d__law_due 12).mono (by first | omega | exact Nat.le_trans (by decide) (Nat.le_add_right _ _))) hr (takes_of rfl rfl rfl rfl) (na_cons (no_o 4) (na_cons (no_o 5) na_nil)) rfl rfl (aCons_len (aCons_len aNil_len)))) na_nil)) rfl rfl (aCons_len (aCons_len aNil_len)))))) (nss_one (ns_ret ne_bool)) nss_nil))
    (nss_cons (ns_asg (ne_call ((n_36 T T.d__law_pick).mono (by first | omega | exact Nat.le_trans (by decide) (Nat.le_add_right _ _))) hr (takes_of rfl rfl rfl rfl) (na_cons (no_o 1) (na_cons (no_e (ne_l (neo_lst (na_cons (no_e ne_none) (na_cons (no_e (ne_tup (na_cons (no_e ne_str) (na_cons (no_e ne_int) (na_cons (no_e ne_int) na_nil))))) (na_cons (no_e (ne_tup (na_cons (no_e ne_str) (na_cons (no_e (ne_neg ne_int)) na_nil)))) (na_cons (no_e (ne_tup (na_cons (no_e ne_str) (na_cons (no_e (ne_tup na_nil)) na_nil)))) (na_cons (no_e (ne_l (neo_lst (na_cons (no_e ne_str) na_nil)))) (na_cons (no_e (ne_tup (na_cons (no_e ne_str) (na_cons (no_e (ne_tup (na_cons (no_e (ne_v 4)) (na_cons (no_e ne_int) na_nil)))) na_nil)))) na_nil))))))))) na_nil)) rfl rfl (aCons_len (aCons_len aNil_len))) (ng_name 7 sc_52.nd rfl (by first | exact Or.inl rfl | exact Or.inr rfl)))
    (nss_cons (ns_asg (ne_call ((n_36 T T.d__law_pick).mono (by first | omega | exact Nat.le_trans (by decide) (Nat.le_add_right _ _))) hr (takes_of rfl rfl rfl rfl) (na_cons (no_o 1) (na_cons (no_e (ne_l (neo_lst (na_cons (no_e ne_none) (na_cons (no_e (ne_tup (na_cons (no_e ne_int) (na_cons (no_e ne_int) na_nil)))) (na_cons (no_e (ne_tup (na_cons (no_e (ne_neg ne_int)) (na_cons (no_e ne_int) (na_cons (no_e ne_int) na_nil))))) (na_cons (no_e (ne_l (neo_lst (na_cons (no_e ne_int) (na_cons (no_e ne_int) (na_cons (no_e ne_int) na_nil)))))) na_nil))))))) na_nil)) rfl rfl (aCons_len (aCons_len aNil_len))) (ng_name 8 sc_52.nd rfl (by first | exact Or.inl rfl | exact Or.inr rfl)))
    (nss_cons (ns_drop [7, 4, 5, 8] (ns_asg (ne_l (neo_lst (na_cons (no_e (ne_call ((n_50 T T.d__law_told).mono (by first | omega | exact Nat.le_trans (by decide) (Nat.le_add_right _ _))) hr (takes_of rfl rfl rfl rfl) (na_cons (no_e ne_int) (na_cons (no_o 7) (na_cons (no_e ne_int) (na_cons (no_e ne_int) na_nil)))) rfl rfl (aCons_len (aCons_len (aCons_len (aCons_len aNil_len)))))) (na_cons (no_e (ne_call ((n_50 T T.d__law_told).mono (by first | omega | exact Nat.le_trans (by decide) (Nat.le_add_right _ _))) hr (takes_of rfl rfl rfl rfl) (na_cons (no_e ne_int) (na_cons (no_o 7) (na_cons (no_e ne_int) (na_cons (no_e ne_int) na_nil)))) rfl rfl (aCons_len (aCons_len (aCons_len (aCons_len aNil_len)))))) (na_cons (no_e (ne_call ((n_50 T T.d__law_told).mono (by first | omega | exact Nat.le_trans (by decide) (Nat.le_add_right _ _))) hr (takes_of rfl rfl rfl rfl) (na_cons (no_e ne_int) (na_cons (no_o 7) (na_cons (no_o 4) (na_cons (no_o 5) na_nil)))) rfl rfl (aCons_len (aCons_len (aCons_len (aCons_len aNil_len)))))) (na_cons (no_e (ne_call ((n_50 T T.d__law_told).mono (by first | omega | exact Nat.le_trans (by decide) (Nat.le_add_right _ _))) hr (takes_of rfl rfl rfl rfl) (na_cons (no_e ne_int) (na_cons (no_o 4) (na_cons (no_o 7) (na_cons (no_o 5) na_nil)))) rfl rfl (aCons_len (aCons_len (aCons_len (aCons_len aNil_len)))))) (na_cons (no_e (ne_call ((n_50 T T.d__law_told).mono (by first | omega | exact Nat.le_trans (by decide) (Nat.le_add_right _ _))) hr (takes_of rfl rfl rfl rfl) (na_cons (no_e ne_int) (na_cons (no_o 4) (na_cons (no_o 4) (na_cons (no_o 8) na_nil)))) rfl rfl (aCons_len (aCons_len (aCons_len (aCons_len aNil_len)))))) na_nil))))))) (ng_name 9 sc_52.nd rfl (by first | exact Or.inl rfl | exact Or.inr rfl))))
    (nss_one (ns_drop [9] (ns_if (nt_not (nt_t (no_e (ne_call ((n_37 T T.d__law_same 20).mono (by first | omega | exact Nat.le_trans (by decide) (Nat.le_add_right _ _))) hr (takes_of rfl rfl rfl rfl) (na_cons (no_o 9) (na_cons (no_e (ne_op op_mulN no_mul (no_e (ne_l (neo_lst (na_cons (no_e (ne_v 2)) na_nil)))) (no_e ne_int))) na_nil)) rfl rfl (aCons_len (aCons_len aNil_len)))))) (nss_one (ns_ret ne_bool)) nss_nil)))))))))))))
    (nss_cons (ns_asg (ne_call ((n_47 T T.d__law_goods).mono (by first | omega | exact Nat.le_trans (by decide) (Nat.le_add_right _ _))) hr (takes_of rfl rfl rfl rfl) (na_cons (no_o 1) na_nil) rfl rfl (aCons_len aNil_len)) (ng_name 5 sc_52.nd rfl (by first | exact Or.inl rfl | exact Or.inr rfl)))
    (nss_cons (ns_asg (ne_l (neo_lst (na_cons (no_e (ne_tup (na_cons (no_e (ne_op op_addN no_add (no_e (ne_tup (na_cons (no_e ne_str) na_nil))) (no_e (ne_call ((n_44 T T.d__law_part).mono (by first | omega | exact Nat.le_trans (by decide) (Nat.le_add_right _ _))) hr (takes_of rfl rfl rfl rfl) (na_cons (no_o 1) na_nil) rfl rfl (aCons_len aNil_len))))) (na_cons (no_e (ne_tup (na_cons (no_e ne_str) (na_cons (no_e (ne_call ((n_35 T T.d__law_take).mono (by first | omega | exact Nat.le_trans (by decide) (Nat.le_add_right _ _))) hr (takes_of rfl rfl rfl rfl) (na_cons (no_o 1) (na_cons (no_e ne_int) na_nil)) rfl rfl (aCons_len (aCons_len aNil_len)))) na_nil)))) na_nil)))) (na_cons (no_e (ne_tup (na_cons (no_e (ne_call ((n_45 T T.d__law_duty 12).mono (by first | omega | exact Nat.le_trans (by decide) (Nat.le_add_right _ _))) hr (takes_of rfl rfl rfl rfl) (na_cons (no_o 1) (na_cons (no_e ne_int) na_nil)) rfl rfl (aCons_len (aCons_len aNil_len)))) (na_cons (no_e (ne_call ((n_45 T T.d__law_duty 12).mono (by first | omega | exact Nat.le_trans (by decide) (Nat.le_add_right _ _))) hr (takes_of rfl rfl rfl rfl) (na_cons (no_o 1) (na_cons (no_e ne_int) na_nil)) rfl rfl (aCons_len (aCons_len aNil_len)))) na_nil)))) na_nil)))) (ng_name 10 sc_52.nd rfl (by first | exact Or.inl rfl | exact Or.inr rfl)))
    (nss_cons (ns_drop [1] (ns_asg (ne_op op_addN no_add (no_o 10) (no_e (ne_l (neo_lst (na_cons (no_e (ne_tup (na_cons (no_e (ne_tup (na_cons (no_e ne_str) (na_cons (no_e (ne_tup (na_cons (no_e (ne_tup (na_cons (no_e ne_int) (na_cons (no_e (ne_tup (na_cons (no_e ne_int) (na_cons (no_e ne_int) na_nil)))) na_nil)))) (na_cons (no_e (ne_tup (na_cons (no_e (ne_op op_addN no_add (no_e ne_int) (no_e (ne_call ((n_35 T T.d__law_take).mono (by first | omega | exact Nat.le_trans (by decide) (Nat.le_add_right _ _))) hr (takes_of rfl rfl rfl rfl) (na_cons (no_o 1) (na_cons (no_e ne_int) na_nil)) rfl rfl (aCons_len (aCons_len aNil_len)))))) (na_cons (no_e (ne_tup (na_cons (no_e ne_int) (na_cons (no_e ne_int) na_nil)))) na_nil)))) na_nil)))) na_nil)))) (na_cons (no_e (ne_tup (na_cons (no_e ne_str) (na_cons (no_e ne_int) na_nil)))) na_nil)))) na_nil))))) (ng_name 10 sc_52.nd rfl (by first | exact Or.inl rfl | exact Or.inr rfl))))
    (nss_cons (ns_drop [5, 11, 12, 10] (ns_for (passes_of rfl) rfl (ni_v (ne_v 10)) (ng_tup rfl (ngs_cons (ng_name 11 sc_52.nd rfl (by first | exact Or.inl rfl | exact Or.inr rfl)) (ngs_cons (ng_name 12 sc_52.nd rfl (by first | exact Or.inl rfl | exact Or.inr rfl)) ngs_nil)) (gCons_len (gCons_len gNil_len))) (nss_drop [11, 12] (nss_one (ns_drop [11, 12] (ns_if (nt_not (nt_t (no_e (ne_call ((n_51 T T.d__law_is_crossing_right).mono (by first | omega | exact Nat.le_trans (by decide) (Nat.le_add_right _ _))) hr (takes_of rfl rfl rfl rfl) (na_cons (no_o 11) (na_cons (no_o 12) (na_cons (no_o 5) na_nil))) rfl rfl (aCons_len (aCons_len (aCons_len aNil_len))))))) (nss_one (ns_ret ne_bool)) nss_nil))))))
    (nss_cons (ns_asg (ne_l (neo_lst (na_cons (no_e (ne_call ((n_29 T T.d_simplified).mono (by first | omega | exact Nat.le_trans (by decide) (Nat.le_add_right _ _))) hr (takes_of rfl rfl rfl rfl) (na_cons (no_e (ne_tup (na_cons (no_e ne_str) (na_cons (no_e (ne_tup (na_cons (no_e (ne_tup (na_cons (no_e ne_str) na_nil))) (na_cons (no_e (ne_tup (na_cons (no_e ne_str) (na_cons (no_e ne_int) na_nil)))) na_nil)))) na_nil)))) na_nil) rfl rfl (aCons_len aNil_len))) (na_cons (no_e (ne_call ((n_29 T T.d_simplified).mono (by first | omega | exact Nat.le_trans (by decide) (Nat.le_add_right _ _))) hr (takes_of rfl rfl rfl rfl) (na_cons (no_e (ne_tup (na_cons (no_e ne_str) (na_cons (no_e (ne_tup (na_cons (no_e (ne_tup (na_cons (no_e ne_str) na_nil))) na_nil))) na_nil)))) na_nil) rfl rfl (aCons_len aNil_len))) (na_cons (no_e (ne_call ((n_29 T T.d_simplified).mono (by first | omega | exact Nat.le_trans (by decide) (Nat.le_add_right _ _))) hr (takes_of rfl rfl rfl rfl) (na_cons (no_e (ne_tup (na_cons (no_e ne_str) (na_cons (no_e (ne_tup (na_cons (no_e (ne_tup (na_cons (no_e ne_str) (na_cons (no_e (ne_tup (na_cons (no_e (ne_tup (na_cons (no_e ne_str) na_nil))) (na_cons (no_e (ne_tup (na_cons (no_e ne_str) na_nil))) na_nil)))) na_nil)))) na_nil))) na_nil)))) na_nil) rfl rfl (aCons_len aNil_len))) na_nil))))) (ng_name 13 sc_52.nd rfl (by first | exact Or.inl rfl | exact Or.inr rfl)))
    (nss_cons (ns_asg (ne_op op_addN no_add (no_o 13) (no_e (ne_l (neo_lst (na_cons (no_e (ne_call ((n_32 T T.d_crossing).mono (by first | omega | exact Nat.le_trans (by decide) (Nat.le_add_right _ _))) hr (takes_of rfl rfl rfl rfl) (na_cons (no_e (ne_tup (na_cons (no_e ne_str) (na_cons (no_e ne_int) (na_cons (no_e ne_int) na_nil))))) (na_cons (no_e (ne_tup (na_cons (no_e ne_str) (na_cons (no_e ne_int) na_nil)))) (na_cons (no_e (ne_tup (na_cons (no_e ne_int) (na_cons (no_e ne_int) (na_cons (no_e ne_int) na_nil))))) na_nil))) rfl rfl (aCons_len (aCons_len (aCons_len aNil_len))))) (na_cons (no_e (ne_call ((n_32 T T.d_crossing).mono (by first | omega | exact Nat.le_trans (by decide) (Nat.le_add_right _ _))) hr (takes_of rfl rfl rfl rfl) (na_cons (no_e (ne_tup (na_cons (no_e ne_str) na_nil))) (na_cons (no_e (ne_tup (na_cons (no_e ne_str) na_nil))) (na_cons (no_e (ne_tup (na_cons (no_e ne_int) (na_cons (no_e ne_int) (na_cons (no_e ne_int) na_nil))))) na_nil))) rfl rfl (aCons_len (aCons_len (aCons_len aNil_len))))) na_nil)))))) (ng_name 13 sc_52.nd rfl (by first | exact Or.inl rfl | exact Or.inr rfl)))
    (nss_one (ns_ret (ne_call ((n_37 T T.d__law_same 20).mono (by first | omega | exact Nat.le_trans (by decide) (Nat.le_add_right _ _))) hr (takes_of rfl rfl rfl rfl) (na_cons (no_o 13) (na_cons (no_e (ne_l (neo_lst (na_cons (no_e (ne_tup (na_cons (no_e ne_str) (na_cons (no_e ne_int) na_nil)))) (na_cons (no_e (ne_tup (na_cons (no_e ne_str) na_nil))) (na_cons (no_e (ne_tup (na_cons (no_e ne_str) na_nil))) (na_cons (no_e ne_int) (na_cons (no_e ne_none) na_nil)))))))) na_nil)) rfl rfl (aCons_len (aCons_len aNil_len))))))))))))))
def fd_0 : He.DefD := ⟨("_law_draws", none), "_law_draws", "_law_draws", defArgs (top 34), defBody (top 34), defScope (top 34), [], []⟩
def fd_1 : He.DefD := ⟨("_law_due", none), "_law_due", "_law_due", defArgs (top 46), defBody (top 46), defScope (top 46), [], []⟩
def fd_2 : He.DefD := ⟨("_law_duty", none), "_law_duty", "_law_duty", defArgs (top 45), defBody (top 45), defScope (top 45), [], []⟩
def fd_3 : He.DefD := ⟨("_law_flags", none), "_law_flags", "_law_flags", defArgs (top 38), defBody (top 38), defScope (top 38), [], []⟩
def fd_4 : He.DefD := ⟨("_law_goods", none), "_law_goods", "_law_goods", defArgs (top 47), defBody (top 47), defScope (top 47), [], []⟩
def fd_5 : He.DefD := ⟨("_law_is_at_most", none), "_law_is_at_most", "_law_is_at_most", defArgs (top 43), defBody (top 43), defScope (top 43), [], []⟩
def fd_6 : He.DefD := ⟨("_law_is_crossing_right", none), "_law_is_crossing_right", "_law_is_crossing_right", defArgs (top 51), defBody (top 51), defScope (top 51), [], []⟩
def fd_7 : He.DefD := ⟨("_law_part", none), "_law_part", "_law_part", defArgs (top 44), defBody (top 44), defScope (top 44), [], []⟩
def fd_8 : He.DefD := ⟨("_law_pick", none), "_law_pick", "_law_pick", defArgs (top 36), defBody (top 36), defScope (top 36), [], []⟩
def fd_9 : He.DefD := ⟨("_law_plain", none), "_law_plain", "_law_plain", defArgs (top 48), defBody (top 48), defScope (top 48), [], []⟩
def fd_10 : He.DefD := ⟨("_law_plus", none), "_law_plus", "_law_plus", defArgs (top 40), defBody (top 40), defScope (top 40), [], []⟩
def fd_11 : He.DefD := ⟨("_law_ratio", none), "_law_ratio", "_law_ratio", defArgs (top 39), defBody (top 39), defScope (top 39), [], []⟩
def fd_12 : He.DefD := ⟨("_law_same", none), "_law_same", "_law_same", defArgs (top 37), defBody (top 37), defScope (top 37), [], []⟩
def fd_13 : He.DefD := ⟨("_law_sum", none), "_law_sum", "_law_sum", defArgs (top 42), defBody (top 42), defScope (top 42), [], []⟩
def fd_14 : He.DefD := ⟨("_law_take", none), "_law_take", "_law_take", defArgs (top 35), defBody (top 35), defScope (top 35), [], []⟩
def fd_15 : He.DefD := ⟨("_law_text", none), "_law_text", "_law_text", defArgs (top 49), defBody (top 49), defScope (top 49), [], []⟩
def fd_16 : He.DefD := ⟨("_law_told", none), "_law_told", "_law_told", defArgs (top 50), defBody (top 50), defScope (top 50), [], []⟩
def fd_17 : He.DefD := ⟨("all_duties", none), "all_duties", "all_duties", defArgs (top 22), defBody (top 22), defScope (top 22), [], []⟩
def fd_18 : He.DefD := ⟨("are_goods", none), "are_goods", "are_goods", defArgs (top 20), defBody (top 20), defScope (top 20), [], []⟩
def fd_19 : He.DefD := ⟨("are_steps", none), "are_steps", "are_steps", defArgs (top 17), defBody (top 17), defScope (top 17), [], []⟩
def fd_20 : He.DefD := ⟨("check", none), "check", "check", defArgs (top 8), defBody (top 8), defScope (top 8), [], []⟩
def fd_21 : He.DefD := ⟨("check_both", none), "check_both", "check_both", defArgs (top 21), defBody (top 21), defScope (top 21), [], []⟩
def fd_22 : He.DefD := ⟨("crossing", none), "crossing", "crossing", defArgs (top 32), defBody (top 32), defScope (top 32), [], []⟩
def fd_23 : He.DefD := ⟨("due_by", none), "due_by", "due_by", defArgs (top 26), defBody (top 26), defScope (top 26), [], []⟩
def fd_24 : He.DefD := ⟨("due_of", none), "due_of", "due_of", defArgs (top 27), defBody (top 27), defScope (top 27), [], []⟩
def fd_25 : He.DefD := ⟨("due_times", none), "due_times", "due_times", defArgs (top 25), defBody (top 25), defScope (top 25), [], []⟩
def fd_26 : He.DefD := ⟨("inner_duties", none), "inner_duties", "inner_duties", defArgs (top 18), defBody (top 18), defScope (top 18), [], []⟩
def fd_27 : He.DefD := ⟨("is_count", none), "is_count", "is_count", defArgs (top 11), defBody (top 11), defScope (top 11), [], []⟩
def fd_28 : He.DefD := ⟨("is_duty", none), "is_duty", "is_duty", defArgs (top 19), defBody (top 19), defScope (top 19), [], []⟩
def fd_29 : He.DefD := ⟨("is_integer", none), "is_integer", "is_integer", defArgs (top 7), defBody (top 7), defScope (top 7), [], []⟩
def fd_30 : He.DefD := ⟨("is_ratio", none), "is_ratio", "is_ratio", defArgs (top 16), defBody (top 16), defScope (top 16), [], []⟩
def fd_31 : He.DefD := ⟨("ratio", none), "ratio", "ratio", defArgs (top 10), defBody (top 10), defScope (top 10), [], []⟩
def fd_32 : He.DefD := ⟨("shared", none), "shared", "shared", defArgs (top 9), defBody (top 9), defScope (top 9), [], []⟩
def fd_33 : He.DefD := ⟨("simplified", none), "simplified", "simplified", defArgs (top 29), defBody (top 29), defScope (top 29), [], []⟩
def fd_34 : He.DefD := ⟨("simplified_by", none), "simplified_by", "simplified_by", defArgs (top 28), defBody (top 28), defScope (top 28), [], []⟩
def fd_35 : He.DefD := ⟨("steps_times", none), "steps_times", "steps_times", defArgs (top 24), defBody (top 24), defScope (top 24), [], []⟩
def fd_36 : He.DefD := ⟨("text_by", none), "text_by", "text_by", defArgs (top 30), defBody (top 30), defScope (top 30), [], []⟩
def fd_37 : He.DefD := ⟨("text_of", none), "text_of", "text_of", defArgs (top 31), defBody (top 31), defScope (top 31), [], []⟩
def fd_38 : He.DefD := ⟨("whole_of", none), "whole_of", "whole_of", defArgs (top 23), defBody (top 23), defScope (top 23), [], []⟩
def fd_39 : He.DefD := ⟨("law", none), "law", "law", defArgs (top 52), defBody (top 52), defScope (top 52), [], []⟩
def fn_0 : List He.DefD := [fd_0, fd_1, fd_2, fd_3, fd_4, fd_5, fd_6, fd_7, fd_8, fd_9, fd_10, fd_11, fd_12, fd_13, fd_14, fd_15, fd_16, fd_17, fd_18, fd_19, fd_20, fd_21, fd_22, fd_23, fd_24, fd_25, fd_26, fd_27, fd_28, fd_29]
def fn_1 : List He.DefD := [fd_30, fd_31, fd_32, fd_33, fd_34, fd_35, fd_36, fd_37, fd_38, fd_39]
def fn : List He.DefD := fn_0 ++ fn_1
def fa_0 : List He.Fa := [.free "abs", .free "all", .free "bool", .free "dict", .free "enumerate", .free "int", .free "isinstance", .free "len", .free "list", .free "max", .free "min", .free "range", .free "reversed", .free "str", .free "sum", .free "tuple", .free "zip", .glo "_law_draws", .glo "_law_due", .glo "_law_duty", .glo "_law_flags", .glo "_law_goods", .glo "_law_is_at_most", .glo "_law_is_crossing_right", .glo "_law_part", .glo "_law_pick", .glo "_law_plain", .glo "_law_plus", .glo "_law_ratio", .glo "_law_same"]
def fa_1 : List He.Fa := [.glo "_law_sum", .glo "_law_take", .glo "_law_text", .glo "_law_told", .glo "all_duties", .glo "are_goods", .glo "are_steps", .glo "check", .glo "check_both", .glo "crossing", .glo "due_by", .glo "due_of", .glo "due_times", .glo "inner_duties", .glo "is_count", .glo "is_duty", .glo "is_integer", .glo "is_ratio", .glo "ratio", .glo "shared", .glo "simplified", .glo "simplified_by", .glo "steps_times", .glo "text_by", .glo "text_of", .glo "whole_of", .exc "NotRight", .glo "NotRight", .glo "Malformed", .glo "TooLarge"]
def fa_2 : List He.Fa := [.glo "NoAnswer", .glo "NotThere", .exm "NotRight" "BorderError" true, .glo "BorderError", .glo "law"]
def fa : List He.Fa := fa_0 ++ fa_1 ++ fa_2
def fb_0 : List Fb := [.dat "DEEPEST" (.int 6), .dat "GROUPS" (.tuple [(.str "most"), (.str "least"), (.str "sum")]), .dat "MOST_CROSSED" (.int 10000), .kit "NotRight" "Malformed" false, .kit "NotRight" "TooLarge" false, .kit "NotRight" "NoAnswer" false, .kit "NotRight" "NotThere" false, .kit "NotRight" "NotRight" true, .excC "NotRight"]
def fb : List Fb := fb_0
def loose_0 : List PySem.Str := ["__name__", "BorderError", "NotRight", "NotThere", "NoAnswer", "TooLarge", "Malformed", "is_integer", "check", "shared", "ratio", "is_count", "DEEPEST", "MOST_CROSSED", "GROUPS", "is_ratio", "are_steps", "inner_duties", "is_duty", "are_goods", "check_both", "all_duties", "whole_of", "steps_times", "due_times", "due_by", "due_of", "simplified_by", "simplified", "text_by"]
def loose_1 : List PySem.Str := ["text_of", "crossing", "_law_draws", "_law_take", "_law_pick", "_law_same", "_law_flags", "_law_ratio", "_law_plus", "_law_times", "_law_sum", "_law_is_at_most", "_law_part", "_law_duty", "_law_due", "_law_goods", "_law_plain", "_law_text", "_law_told", "_law_is_crossing_right"]
def loose : List PySem.Str := loose_0 ++ loose_1
abbrev RR : PySem.W.OpenRow := PySem.W.OpenLaw.row PySem.Challenge.rw_borderward_k02_whole_duties_told_simply
abbrev hk : PySem.W.Hook := hookM 4 fa fn fb
def ob (s : PySem.W.SharedT) : AlM := obsM 4 fa fn fb (HandSHeadRun.getT s)
theorem ob_eq (s : PySem.W.SharedT) : ob s = hk.obs s.abs := obsM_eq (HandSHeadRun.getT_eq s)
theorem run (w : World) : HandSHeadRun.RunEq RR (PySem.W.view RR.prog [52]) hk ob 8000 loose w := by
  intro os
  kernel_rfl
theorem facts {K : PySem.W.Frag} {h : Heap} {mg : Str → Option Value} (X : K.In h) (G : h.Ns mainGlobals mg) (c : He.SaysD fa fn K) (c2 : (fb.all fun f => f.ok K) = true) : Tx K mg :=
  ⟨(He.free_ok X G (c.fact 0 (f := .free "abs") rfl)),
  (He.free_ok X G (c.fact 1 (f := .free "all") rfl)),
  (He.free_ok X G (c.fact 2 (f := .free "bool") rfl)),
  (He.free_ok X G (c.fact 3 (f := .free "dict") rfl)),
  (He.free_ok X G (c.fact 4 (f := .free "enumerate") rfl)),
  (He.free_ok X G (c.fact 5 (f := .free "int") rfl)),
  (He.free_ok X G (c.fact 6 (f := .free "isinstance") rfl)),
  (He.free_ok X G (c.fact 7 (f := .free "len") rfl)),
  (He.free_ok X G (c.fact 8 (f := .free "list") rfl)),
  (He.free_ok X G (c.fact 9 (f := .free "max") rfl)),
  (He.free_ok X G (c.fact 10 (f := .free "min") rfl)),
  (He.free_ok X G (c.fact 11 (f := .free "range") rfl)),
  (He.free_ok X G (c.fact 12 (f := .free "reversed") rfl)),
  (He.free_ok X G (c.fact 13 (f := .free "str") rfl)),
  (He.free_ok X G (c.fact 14 (f := .free "sum") rfl)),
  (He.free_ok X G (c.fact 15 (f := .free "tuple") rfl)),
  (He.free_ok X G (c.fact 16 (f := .free "zip") rfl)),
  (dat_ok X G (fb_at c2 0 (f := .dat "DEEPEST" (.int 6)) rfl)),
  (dat_ok X G (fb_at c2 1 (f := .dat "GROUPS" (.tuple [(.str "most"), (.str "least"), (.str "sum")])) rfl)),
  (dat_ok X G (fb_at c2 2 (f := .dat "MOST_CROSSED" (.int 10000)) rfl)),
  (let ⟨fd, F⟩ := c.def_ 0 (d := fd_0) rfl; ⟨_, fd, F, He.glo_ok X G (c.fact 17 (f := .glo "_law_draws") rfl)⟩),
  (let ⟨fd, F⟩ := c.def_ 1 (d := fd_1) rfl; ⟨_, fd, F, He.glo_ok X G (c.fact 18 (f := .glo "_law_due") rfl)⟩),
  (let ⟨fd, F⟩ := c.def_ 2 (d := fd_2) rfl; ⟨_, fd, F, He.glo_ok X G (c.fact 19 (f := .glo "_law_duty") rfl)⟩),
  (let ⟨fd, F⟩ := c.def_ 3 (d := fd_3) rfl; ⟨_, fd, F, He.glo_ok X G (c.fact 20 (f := .glo "_law_flags") rfl)⟩),
  (let ⟨fd, F⟩ := c.def_ 4 (d := fd_4) rfl; ⟨_, fd, F, He.glo_ok X G (c.fact 21 (f := .glo "_law_goods") rfl)⟩),
  (let ⟨fd, F⟩ := c.def_ 5 (d := fd_5) rfl; ⟨_, fd, F, He.glo_ok X G (c.fact 22 (f := .glo "_law_is_at_most") rfl)⟩),
  (let ⟨fd, F⟩ := c.def_ 6 (d := fd_6) rfl; ⟨_, fd, F, He.glo_ok X G (c.fact 23 (f := .glo "_law_is_crossing_right") rfl)⟩),
  (let ⟨fd, F⟩ := c.def_ 7 (d := fd_7) rfl; ⟨_, fd, F, He.glo_ok X G (c.fact 24 (f := .glo "_law_part") rfl)⟩),
  (let ⟨fd, F⟩ := c.def_ 8 (d := fd_8) rfl; ⟨_, fd, F, He.glo_ok X G (c.fact 25 (f := .glo "_law_pick") rfl)⟩),
  (let ⟨fd, F⟩ := c.def_ 9 (d := fd_9) rfl; ⟨_, fd, F, He.glo_ok X G (c.fact 26 (f := .glo "_law_plain") rfl)⟩),
  (let ⟨fd, F⟩ := c.def_ 10 (d := fd_10) rfl; ⟨_, fd, F, He.glo_ok X G (c.fact 27 (f := .glo "_law_plus") rfl)⟩),
  (let ⟨fd, F⟩ := c.def_ 11 (d := fd_11) rfl; ⟨_, fd, F, He.glo_ok X G (c.fact 28 (f := .glo "_law_ratio") rfl)⟩),
  (let ⟨fd, F⟩ := c.def_ 12 (d := fd_12) rfl; ⟨_, fd, F, He.glo_ok X G (c.fact 29 (f := .glo "_law_same") rfl)⟩),
  (let ⟨fd, F⟩ := c.def_ 13 (d := fd_13) rfl; ⟨_, fd, F, He.glo_ok X G (c.fact 30 (f := .glo "_law_sum") rfl)⟩),
  (let ⟨fd, F⟩ := c.def_ 14 (d := fd_14) rfl; ⟨_, fd, F, He.glo_ok X G (c.fact 31 (f := .glo "_law_take") rfl)⟩),
  (let ⟨fd, F⟩ := c.def_ 15 (d := fd_15) rfl; ⟨_, fd, F, He.glo_ok X G (c.fact 32 (f := .glo "_law_text") rfl)⟩),
  (let ⟨fd, F⟩ := c.def_ 16 (d := fd_16) rfl; ⟨_, fd, F, He.glo_ok X G (c.fact 33 (f := .glo "_law_told") rfl)⟩),
  (let ⟨fd, F⟩ := c.def_ 17 (d := fd_17) rfl; ⟨_, fd, F, He.glo_ok X G (c.fact 34 (f := .glo "all_duties") rfl)⟩),
  (let ⟨fd, F⟩ := c.def_ 18 (d := fd_18) rfl; ⟨_, fd, F, He.glo_ok X G (c.fact 35 (f := .glo "are_goods") rfl)⟩),
  (let ⟨fd, F⟩ := c.def_ 19 (d := fd_19) rfl; ⟨_, fd, F, He.glo_ok X G (c.fact 36 (f := .glo "are_steps") rfl)⟩),
  (let ⟨fd, F⟩ := c.def_ 20 (d := fd_20) rfl; ⟨_, fd, F, He.glo_ok X G (c.fact 37 (f := .glo "check") rfl)⟩),
  (let ⟨fd, F⟩ := c.def_ 21 (d := fd_21) rfl; ⟨_, fd, F, He.glo_ok X G (c.fact 38 (f := .glo "check_both") rfl)⟩),
  (let ⟨fd, F⟩ := c.def_ 22 (d := fd_22) rfl; ⟨_, fd, F, He.glo_ok X G (c.fact 39 (f := .glo "crossing") rfl)⟩),
  (let ⟨fd, F⟩ := c.def_ 23 (d := fd_23) rfl; ⟨_, fd, F, He.glo_ok X G (c.fact 40 (f := .glo "due_by") rfl)⟩),
  (let ⟨fd, F⟩ := c.def_ 24 (d := fd_24) rfl; ⟨_, fd, F, He.glo_ok X G (c.fact 41 (f := .glo "due_of") rfl)⟩),
  (let ⟨fd, F⟩ := c.def_ 25 (d := fd_25) rfl; ⟨_, fd, F, He.glo_ok X G (c.fact 42 (f := .glo "due_times") rfl)⟩),
  (let ⟨fd, F⟩ := c.def_ 26 (d := fd_26) rfl; ⟨_, fd, F, He.glo_ok X G (c.fact 43 (f := .glo "inner_duties") rfl)⟩),
  (let ⟨fd, F⟩ := c.def_ 27 (d := fd_27) rfl; ⟨_, fd, F, He.glo_ok X G (c.fact 44 (f := .glo "is_count") rfl)⟩),
  (let ⟨fd, F⟩ := c.def_ 28 (d := fd_28) rfl; ⟨_, fd, F, He.glo_ok X G (c.fact 45 (f := .glo "is_duty") rfl)⟩),
  (let ⟨fd, F⟩ := c.def_ 29 (d := fd_29) rfl; ⟨_, fd, F, He.glo_ok X G (c.fact 46 (f := .glo "is_integer") rfl)⟩),
  (let ⟨fd, F⟩ := c.def_ 30 (d := fd_30) rfl; ⟨_, fd, F, He.glo_ok X G (c.fact 47 (f := .glo "is_ratio") rfl)⟩),
  (let ⟨fd, F⟩ := c.def_ 31 (d := fd_31) rfl; ⟨_, fd, F, He.glo_ok X G (c.fact 48 (f := .glo "ratio") rfl)⟩),
  (let ⟨fd, F⟩ := c.def_ 32 (d := fd_32) rfl; ⟨_, fd, F, He.glo_ok X G (c.fact 49 (f := .glo "shared") rfl)⟩),
  (let ⟨fd, F⟩ := c.def_ 33 (d := fd_33) rfl; ⟨_, fd, F, He.glo_ok X G (c.fact 50 (f := .glo "simplified") rfl)⟩),
  (let ⟨fd, F⟩ := c.def_ 34 (d := fd_34) rfl; ⟨_, fd, F, He.glo_ok X G (c.fact 51 (f := .glo "simplified_by") rfl)⟩),
  (let ⟨fd, F⟩ := c.def_ 35 (d := fd_35) rfl; ⟨_, fd, F, He.glo_ok X G (c.fact 52 (f := .glo "steps_times") rfl)⟩),
  (let ⟨fd, F⟩ := c.def_ 36 (d := fd_36) rfl; ⟨_, fd, F, He.glo_ok X G (c.fact 53 (f := .glo "text_by") rfl)⟩),
  (let ⟨fd, F⟩ := c.def_ 37 (d := fd_37) rfl; ⟨_, fd, F, He.glo_ok X G (c.fact 54 (f := .glo "text_of") rfl)⟩),
  (let ⟨fd, F⟩ := c.def_ 38 (d := fd_38) rfl; ⟨_, fd, F, He.glo_ok X G (c.fact 55 (f := .glo "whole_of") rfl)⟩),
  (excF_ok X G (c.fact 56 (f := .exc "NotRight") rfl) (c.fact 57 (f := .glo "NotRight") rfl)),
  ⟨_, (He.glo_ok X G (c.fact 63 (f := .glo "BorderError") rfl)), (fall_cons ⟨_, ⟨(He.glo_ok X G (c.fact 57 (f := .glo "NotRight") rfl)), excC_ok (fb_at c2 8 (f := .excC "NotRight") rfl), (fall_cons ⟨_, (He.glo_ok X G (c.fact 57 (f := .glo "NotRight") rfl)), kit_ok (fb_at c2 7 (f := .kit "NotRight" "NotRight" true) rfl)⟩ (fall_cons ⟨_, (He.glo_ok X G (c.fact 61 (f := .glo "NotThere") rfl)), kit_ok (fb_at c2 6 (f := .kit "NotRight" "NotThere" false) rfl)⟩ (fall_cons ⟨_, (He.glo_ok X G (c.fact 60 (f := .glo "NoAnswer") rfl)), kit_ok (fb_at c2 5 (f := .kit "NotRight" "NoAnswer" false) rfl)⟩ (fall_cons ⟨_, (He.glo_ok X G (c.fact 59 (f := .glo "TooLarge") rfl)), kit_ok (fb_at c2 4 (f := .kit "NotRight" "TooLarge" false) rfl)⟩ (fall_cons ⟨_, (He.glo_ok X G (c.fact 58 (f := .glo "Malformed") rfl)), kit_ok (fb_at c2 3 (f := .kit "NotRight" "Malformed" false) rfl)⟩ fall_nil)))))⟩, He.exm_ok (c.fact 62 (f := .exm "NotRight" "BorderError" true) rfl)⟩ fall_nil)⟩⟩
end Wlaw_k02
end NL
end L2
/-! M1: what plain texts do, without the machine. -/
namespace L2
namespace NL
open PySem PySem.Spec PyProof.Rows
section
variable {α β : Type}
/-- a mark that hangs on what simp is to leave alone -/
structure Tg {α : Sort u} (a : α) : Type where mk ::
structure Tg4 {α β γ δ : Sort u} (a : α) (b : β) (c : γ) (d : δ) : Type where mk ::
def WpC (r : R α) (P : α → NSt → Prop) : Prop := match r with
  | .ok a n => P a n
  | _ => False
/-- what whnf does not open -/
structure Wp (r : R α) (P : α → NSt → Prop) (t : Tg P := .mk) : Prop where
  out : WpC r P
theorem wp_ext {r : R α} {P Q : α → NSt → Prop} (h : ∀ a n, P a n = Q a n) : Wp r P = Wp r Q := by
  rw [show P = Q from funext fun a => funext fun n => h a n]
def WpSC (r : NR) (Nx : NSt → Prop) (Rt : PyData → NSt → Prop) (Bk Ct : NSt → Prop) : Prop := match r with
  | .nx n => Nx n
  | .ret d n => Rt d n
  | .brk n => Bk n
  | .ct n => Ct n
  | _ => False
structure WpS (r : NR) (Nx : NSt → Prop) (Rt : PyData → NSt → Prop) (Bk Ct : NSt → Prop) (t : Tg4 Nx Rt Bk Ct := .mk) : Prop where
  out : WpSC r Nx Rt Bk Ct
theorem wp_C {r : R α} {P : α → NSt → Prop} {t : Tg P} : Wp r P t = WpC r P := propext ⟨fun h => h.out, fun h => ⟨h⟩⟩
theorem wps_C {r : NR} {Nx : NSt → Prop} {Rt : PyData → NSt → Prop} {Bk Ct : NSt → Prop} {t : Tg4 Nx Rt Bk Ct} : WpS r Nx Rt Bk Ct t = WpSC r Nx Rt Bk Ct := propext ⟨fun h => h.out, fun h => ⟨h⟩⟩
@[simp ↓] theorem wp_ok {a : α} {n : NSt} {P : α → NSt → Prop} : Wp (.ok a n) P = P a n := wp_C
@[simp ↓] theorem wp_bad {P : α → NSt → Prop} : Wp (.bad) P = False := wp_C
@[simp ↓] theorem wp_err {x : NX} {n : NSt} {P : α → NSt → Prop} : Wp (.err x n) P = False := wp_C
@[simp ↓] theorem wp_bind {r : R α} {k : α → NSt → R β} {P : β → NSt → Prop} : Wp (r.bind k) P = Wp r fun a n => Wp (k a n) P := by
  rw [wp_C, wp_C]
  cases r <;> first | exact wp_C.symm | rfl
@[simp ↓] theorem wps_st {r : R α} {k : α → NSt → NR} {Nx : NSt → Prop} {Rt : PyData → NSt → Prop} {Bk Ct : NSt → Prop} : WpS (r.st k) Nx Rt Bk Ct = Wp r fun a n => WpS (k a n) Nx Rt Bk Ct := by
  rw [wps_C, wp_C]
  cases r <;> first | exact wps_C.symm | rfl
@[simp ↓] theorem wps_nx {n : NSt} {Nx : NSt → Prop} {Rt : PyData → NSt → Prop} {Bk Ct : NSt → Prop} : WpS (.nx n) Nx Rt Bk Ct = Nx n := wps_C
@[simp ↓] theorem wps_ret {d : PyData} {n : NSt} {Nx : NSt → Prop} {Rt : PyData → NSt → Prop} {Bk Ct : NSt → Prop} : WpS (.ret d n) Nx Rt Bk Ct = Rt d n := wps_C
@[simp ↓] theorem wps_brk {n : NSt} {Nx : NSt → Prop} {Rt : PyData → NSt → Prop} {Bk Ct : NSt → Prop} : WpS (.brk n) Nx Rt Bk Ct = Bk n := wps_C
@[simp ↓] theorem wps_ct {n : NSt} {Nx : NSt → Prop} {Rt : PyData → NSt → Prop} {Bk Ct : NSt → Prop} : WpS (.ct n) Nx Rt Bk Ct = Ct n := wps_C
@[simp ↓] theorem wps_bad {Nx : NSt → Prop} {Rt : PyData → NSt → Prop} {Bk Ct : NSt → Prop} : WpS .bad Nx Rt Bk Ct = False := wps_C
@[simp ↓] theorem wps_seq {f g : NStm} {n : NSt} {Nx : NSt → Prop} {Rt : PyData → NSt → Prop} {Bk Ct : NSt → Prop} : WpS (sSeq f g n) Nx Rt Bk Ct = WpS (f n) (fun n' => WpS (g n') Nx Rt Bk Ct) Rt Bk Ct := by
  unfold sSeq
  cases f n <;> (try simp -dsimp only [wp_C, wps_C]) <;> rfl
theorem wps_sq {f g : NStm} {n : NSt} {Nx : NSt → Prop} {Rt : PyData → NSt → Prop} {Bk Ct : NSt → Prop} (h : WpS (f n) (fun n' => WpS (g n') Nx Rt Bk Ct) Rt Bk Ct) : WpS (sSeq f g n) Nx Rt Bk Ct := by
  rw [wps_seq]
  exact h
@[simp ↓] theorem wps_nil {n : NSt} {Nx : NSt → Prop} {Rt : PyData → NSt → Prop} {Bk Ct : NSt → Prop} : WpS (sNil n) Nx Rt Bk Ct = Nx n := wps_C
theorem wps_if {t : NSt → R Bool} {f g : NStm} {n : NSt} {Nx : NSt → Prop} {Rt : PyData → NSt → Prop} {Bk Ct : NSt → Prop} : WpS (sIf t f g n) Nx Rt Bk Ct = Wp (t n) fun b n' => WpS (if b = true then f n' else g n') Nx Rt Bk Ct := by
  unfold sIf
  rw [wps_st]
theorem wps_ite {c : Prop} [Decidable c] {a b : NR} {Nx : NSt → Prop} {Rt : PyData → NSt → Prop} {Bk Ct : NSt → Prop} : WpS (if c then a else b) Nx Rt Bk Ct = ((c → WpS a Nx Rt Bk Ct) ∧ (¬ c → WpS b Nx Rt Bk Ct)) := by
  by_cases h : c
  · simp -dsimp [h]
  · simp -dsimp [h]
theorem wp_ite {c : Prop} [Decidable c] {a b : R α} {P : α → NSt → Prop} : Wp (if c then a else b) P = ((c → Wp a P) ∧ (¬ c → Wp b P)) := by
  by_cases h : c
  · simp -dsimp [h]
  · simp -dsimp [h]
theorem wp_run {N : Nat} {body : NStm} {a : NSt} {P : PyData → NSt → Prop} : Wp (runD N body a) P = WpS (body (a ++ List.replicate (N - a.length) none)) (fun n' => P .none (outs a n')) (fun d n' => P d (outs a n')) (fun _ => False) (fun _ => False) := by
  unfold runD
  cases body (a ++ List.replicate (N - a.length) none) <;> (try simp -dsimp only [wp_C, wps_C]) <;> rfl
theorem wp_of {r : R α} {a : α} {n : NSt} {P : α → NSt → Prop} (e : r = .ok a n) (h : P a n) : Wp r P := by rw [e]; exact ⟨h⟩
theorem wp_mono {r : R α} {P Q : α → NSt → Prop} (h : Wp r P) (hq : ∀ a n, P a n → Q a n) : Wp r Q := by
  cases r with
  | ok a n => exact ⟨hq a n h.out⟩
  | _ => exact h.out.elim
theorem wp_eq {r : R α} {a : α} {n : NSt} (h : Wp r fun b m => b = a ∧ m = n) : r = .ok a n := by
  cases r with
  | ok b m => obtain ⟨⟨rfl, rfl⟩⟩ := h; rfl
  | _ => exact h.out.elim
/-- what an answer is that meets something -/
theorem wp_get {r : R α} {P : α → NSt → Prop} (h : Wp r P) : ∃ a n, r = .ok a n ∧ P a n := by
  cases r with
  | ok a n => exact ⟨a, n, rfl, h.out⟩
  | _ => exact h.out.elim
theorem wps_mono {r : NR} {Nx Nx' : NSt → Prop} {Rt Rt' : PyData → NSt → Prop} {Bk Bk' Ct Ct' : NSt → Prop} (h : WpS r Nx Rt Bk Ct) (h1 : ∀ n, Nx n → Nx' n) (h2 : ∀ d n, Rt d n → Rt' d n) (h3 : ∀ n, Bk n → Bk' n) (h4 : ∀ n, Ct n → Ct' n) : WpS r Nx' Rt' Bk' Ct' := by
  cases r with
  | nx n => exact ⟨h1 n h.out⟩
  | ret d n => exact ⟨h2 d n h.out⟩
  | brk n => exact ⟨h3 n h.out⟩
  | ct n => exact ⟨h4 n h.out⟩
  | _ => exact h.out.elim
/-- a walk over a row -/
theorem wps_forL {g : PyData → NSt → Option NSt} {body : NStm} {Nx : NSt → Prop} {Rt : PyData → NSt → Prop} {Bk Ct : NSt → Prop} (I : List PyData → NSt → Prop)
    (step : ∀ d ds n, I (d :: ds) n → ∃ n1, g d n = some n1 ∧ WpS (body n1) (I ds) Rt Nx (I ds)) (fin : ∀ n, I [] n → Nx n) : ∀ (ds : List PyData) (n : NSt), I ds n → WpS (sForL g body ds n) Nx Rt Bk Ct
  | [], n, h => by
    unfold sForL
    exact ⟨fin n h⟩
  | d :: ds, n, h => by
    obtain ⟨n1, e, w⟩ := step d ds n h
    unfold sForL
    rw [e]
    show WpS (match body n1 with
      | .nx n2 => sForL g body ds n2
      | .ct n2 => sForL g body ds n2
      | .brk n2 => .nx n2
      | r => r) Nx Rt Bk Ct
    cases q : body n1 with
    | nx n2 => rw [q] at w; exact wps_forL I step fin ds n2 w.out
    | ct n2 => rw [q] at w; exact wps_forL I step fin ds n2 w.out
    | brk n2 => rw [q] at w; exact ⟨w.out⟩
    | ret d n2 => rw [q] at w; exact ⟨w.out⟩
    | err x n2 => rw [q] at w; exact ⟨w.out⟩
    | bad => rw [q] at w; exact ⟨w.out⟩
theorem wps_for {fi : NSt → R (List PyData)} {g : PyData → NSt → Option NSt} {body : NStm} {n : NSt} {Nx : NSt → Prop} {Rt : PyData → NSt → Prop} {Bk Ct : NSt → Prop} : WpS (sFor fi g body n) Nx Rt Bk Ct = Wp (fi n) fun ds n1 => WpS (sForL g body ds n1) Nx Rt Bk Ct := by
  unfold sFor
  rw [wps_st]
/-- a comprehension's walk -/
theorem wp_lcL {g : PyData → NSt → Option NSt} {t : NSt → R Bool} {f : NExp} {vs : List Nat} {P : List PyData → NSt → Prop} (I : List PyData → List PyData → NSt → Prop)
    (step : ∀ d ds acc n, I (d :: ds) acc n → ∃ n1, g d n = some n1 ∧ Wp (t n1) fun b n2 => if b = true then Wp (f n2) fun y n3 => acc.length < sizeLine ∧ I ds (acc ++ [y]) (wipeN n3 vs) else I ds acc (wipeN n2 vs)) (fin : ∀ acc n, I [] acc n → P acc n) :
    ∀ (ds acc : List PyData) (n : NSt), I ds acc n → Wp (nLcL g t f vs ds acc n) P
  | [], acc, n, h => by
    unfold nLcL
    exact ⟨fin acc n h⟩
  | d :: ds, acc, n, h => by
    obtain ⟨n1, e, w⟩ := step d ds acc n h
    unfold nLcL
    rw [e]
    dsimp only
    rw [wp_bind]
    refine wp_mono w fun b n2 h2 => ?_
    split at h2
    · rename_i hb
      rw [if_pos hb, wp_bind]
      refine wp_mono h2 fun y n3 h3 => ?_
      rw [if_pos h3.1]
      exact wp_lcL I step fin ds _ _ h3.2
    · rename_i hb
      rw [if_neg hb]
      exact wp_lcL I step fin ds _ _ h2
theorem wp_lc {fi : NSt → R (List PyData)} {g : PyData → NSt → Option NSt} {t : NSt → R Bool} {f : NExp} {vs : List Nat} {n : NSt} {P : List PyData → NSt → Prop} :
    Wp (nLc fi g t f vs n) P = Wp (fi n) fun ds n1 => noHeld n1 vs = true ∧ Wp (nLcL g t f vs ds [] (wipeN n1 vs)) fun acc n2 => P acc (restoreN n2 n1 vs) := by
  unfold nLc
  rw [wp_bind]
  refine wp_ext fun ds n1 => ?_
  by_cases h : noHeld n1 vs = true
  · rw [if_pos h]
    cases nLcL g t f vs ds [] (wipeN n1 vs) <;> simp -dsimp [h, wp_C, WpC]
  · rw [if_neg h]
    simp -dsimp [h]
/-- one that changes nothing: filtered, mapped -/
theorem lcL_pure {g : PyData → NSt → Option NSt} {t : NSt → R Bool} {f : NExp} {vs : List Nat} {n : NSt} (p : PyData → Bool) (F : PyData → PyData) : ∀ (ds acc : List PyData),
    (∀ d ∈ ds, ∃ n1, g d n = some n1 ∧ t n1 = .ok (p d) n1 ∧ (p d = true → f n1 = .ok (F d) n1) ∧ wipeN n1 vs = n) → acc.length + ds.length ≤ sizeLine → nLcL g t f vs ds acc n = .ok (acc ++ (ds.filter p).map F) n
  | [], acc, _, _ => by
    unfold nLcL
    simp -dsimp
  | d :: ds, acc, h, hl => by
    obtain ⟨n1, e, et, ef, ew⟩ := h d List.mem_cons_self
    have hl : acc.length + (ds.length + 1) ≤ sizeLine := hl
    unfold nLcL
    rw [e]
    dsimp only
    rw [et]
    show (if p d = true then (f n1).bind fun y n3 => if acc.length < sizeLine then nLcL g t f vs ds (acc ++ [y]) (wipeN n3 vs) else .bad else nLcL g t f vs ds acc (wipeN n1 vs)) = _
    by_cases hp : p d = true
    · rw [if_pos hp, ef hp]
      show (if acc.length < sizeLine then nLcL g t f vs ds (acc ++ [F d]) (wipeN n1 vs) else .bad) = _
      rw [if_pos (by omega), ew, lcL_pure p F ds (acc ++ [F d]) (fun x hx => h x (List.mem_cons_of_mem _ hx)) (by simp -dsimp; omega), List.filter_cons_of_pos hp]
      simp -dsimp
    · rw [if_neg hp, ew, lcL_pure p F ds acc (fun x hx => h x (List.mem_cons_of_mem _ hx)) (by omega), List.filter_cons_of_neg hp]
theorem lc_pure {fi : NSt → R (List PyData)} {g : PyData → NSt → Option NSt} {t : NSt → R Bool} {f : NExp} {vs : List Nat} {n : NSt} {ds : List PyData} (p : PyData → Bool) (F : PyData → PyData) (hi : fi n = .ok ds n) (hn : noHeld n vs = true)
    (h : ∀ d ∈ ds, ∃ n1, g d (wipeN n vs) = some n1 ∧ t n1 = .ok (p d) n1 ∧ (p d = true → f n1 = .ok (F d) n1) ∧ wipeN n1 vs = wipeN n vs) (hl : ds.length ≤ sizeLine) (hr : restoreN (wipeN n vs) n vs = n) : nLc fi g t f vs n = .ok ((ds.filter p).map F) n := by
  unfold nLc
  rw [hi]
  show (if noHeld n vs = true then (match nLcL g t f vs ds [] (wipeN n vs) with
    | .ok acc n2 => R.ok acc (restoreN n2 n vs)
    | _ => R.bad) else R.bad) = _
  rw [if_pos hn, lcL_pure p F ds [] h (by simpa using hl)]
  simp -dsimp [hr]
end
/-! ### what guards a continuation: simp -dsimp goes into it when its head is known -/
def onO {α : Type} (o : Option α) (k : α → Prop) (_ : Tg k := .mk) : Prop := match o with
  | some z => k z
  | none => False
def onB (d : PyData) (k : Bool → Prop) (_ : Tg k := .mk) : Prop := match d with
  | .bool b => k b
  | _ => False
def onI (d : PyData) (k : Int → Prop) (_ : Tg k := .mk) : Prop := match d with
  | .int b => k b
  | _ => False
def onL (d : PyData) (k : List PyData → Prop) (_ : Tg k := .mk) : Prop := match d with
  | .list b => k b
  | _ => False
def onSl (o : Option (Option Sl)) (kv : PyData → Prop) (ko kl ks : List PyData → Prop) (_ : Tg4 kv ko kl ks := .mk) : Prop := match o with
  | some (some (.val d)) => kv d
  | some (some (.own xs)) => ko xs
  | some (some (.lent xs)) => kl xs
  | some (some (.scr xs)) => ks xs
  | _ => False
def Br (c : Bool) (a b : Prop) (_ : Tg a := .mk) (_ : Tg b := .mk) : Prop := (c = true → a) ∧ (c = false → b)
theorem onO_congr {α : Type} {o o' : Option α} {k : α → Prop} (h : o = o') : onO o k = onO o' k := by rw [h]
theorem onB_congr {o o' : PyData} {k : Bool → Prop} (h : o = o') : onB o k = onB o' k := by rw [h]
theorem onI_congr {o o' : PyData} {k : Int → Prop} (h : o = o') : onI o k = onI o' k := by rw [h]
theorem onL_congr {o o' : PyData} {k : List PyData → Prop} (h : o = o') : onL o k = onL o' k := by rw [h]
theorem onSl_congr {o o' : Option (Option Sl)} {kv : PyData → Prop} {ko kl ks : List PyData → Prop} (h : o = o') : onSl o kv ko kl ks = onSl o' kv ko kl ks := by rw [h]
theorem Br_congr {c c' : Bool} {a b : Prop} (h : c = c') : Br c a b = Br c' a b := by rw [h]
@[simp] theorem onO_some {α : Type} {z : α} {k : α → Prop} : onO (some z) k = k z := id rfl
@[simp] theorem onO_none {α : Type} {k : α → Prop} : onO none k = False := id rfl
@[simp] theorem onO_ite {α : Type} {c : Prop} [Decidable c] {z : α} {k : α → Prop} : onO (if c then some z else none) k = (c ∧ k z) := by
  by_cases h : c <;> simp -dsimp [h]
@[simp] theorem onO_ite' {α : Type} {c : Prop} [Decidable c] {z : α} {k : α → Prop} : onO (if c then none else some z) k = (¬ c ∧ k z) := by
  by_cases h : c <;> simp -dsimp [h]
@[simp] theorem onB_bool {b : Bool} {k : Bool → Prop} : onB (.bool b) k = k b := id rfl
@[simp] theorem onI_int {b : Int} {k : Int → Prop} : onI (.int b) k = k b := id rfl
@[simp] theorem onL_list {b : List PyData} {k : List PyData → Prop} : onL (.list b) k = k b := id rfl
@[simp] theorem onSl_val {d : PyData} {kv : PyData → Prop} {ko kl ks : List PyData → Prop} : onSl (some (some (.val d))) kv ko kl ks = kv d := id rfl
@[simp] theorem onSl_own {d : List PyData} {kv : PyData → Prop} {ko kl ks : List PyData → Prop} : onSl (some (some (.own d))) kv ko kl ks = ko d := id rfl
@[simp] theorem onSl_lent {d : List PyData} {kv : PyData → Prop} {ko kl ks : List PyData → Prop} : onSl (some (some (.lent d))) kv ko kl ks = kl d := id rfl
@[simp] theorem onSl_scr {d : List PyData} {kv : PyData → Prop} {ko kl ks : List PyData → Prop} : onSl (some (some (.scr d))) kv ko kl ks = ks d := id rfl
@[simp] theorem Br_true {a b : Prop} : Br true a b = a := by simp -dsimp [Br]
@[simp] theorem Br_false {a b : Prop} : Br false a b = b := by simp -dsimp [Br]
theorem Br_mk {c : Bool} {a b : Prop} (h1 : c = true → a) (h2 : c = false → b) : Br c a b := ⟨h1, h2⟩
theorem wp_congr {α : Type} {r r' : R α} {P : α → NSt → Prop} (h : r = r') : Wp r P = Wp r' P := by rw [h]
theorem wps_congr {r r' : NR} {Nx : NSt → Prop} {Rt : PyData → NSt → Prop} {Bk Ct : NSt → Prop} (h : r = r') : WpS r Nx Rt Bk Ct = WpS r' Nx Rt Bk Ct := by rw [h]
/-! ### the joints -/
section
variable {α : Type} {n : NSt} {i j : Nat} {P : PyData → NSt → Prop} {Pa : AV → NSt → Prop} {Pb : Bool → NSt → Prop} {Pl : List AV → NSt → Prop} {Pd : List PyData → NSt → Prop} {f g : NExp} {p q u : Opd} {d : PyData} {t : NSt → R Bool}
  {Nx : NSt → Prop} {Rt : PyData → NSt → Prop} {Bk Ct : NSt → Prop} {fs : NSt → R (List AV)}
def isV (n : NSt) (i : Nat) (P : PyData → Prop) : Prop := match n[i]? with
  | some (some (.val d)) => P d
  | _ => False
@[simp ↓] theorem wp_nV : Wp (nV i n) P = onSl n[i]? (fun d => P d n) (fun _ => False) (fun _ => False) (fun _ => False) := by
  unfold nV
  generalize n[i]? = o
  rcases o with _ | _ | sl <;> (try cases sl) <;> (try simp -dsimp only [wp_C, wps_C]) <;> rfl
@[simp ↓] theorem wp_nF : Wp (nF i n) P = onSl n[i]? (fun d => P d n) (fun xs => P (.list xs) (n.set i (some (.val (.list xs))))) (fun _ => False) (fun _ => False) := by
  unfold nF
  generalize n[i]? = o
  rcases o with _ | _ | sl <;> (try cases sl) <;> (try simp -dsimp only [wp_C, wps_C]) <;> rfl
@[simp ↓] theorem wp_nC : Wp (nC d n) P = P d n := wp_C
@[simp ↓] theorem wp_oe : Wp (Opd.run (.e f) n) Pa = Wp (f n) fun d n' => Pa (.v d) n' := by
  show Wp ((f n).bind _) Pa = _
  rw [wp_bind]
  (try simp -dsimp only [wp_C, wps_C]) <;> rfl
@[simp ↓] theorem wp_oo : Wp (Opd.run (.o i) n) Pa = onSl n[i]? (fun d => Pa (.v d) n) (fun _ => Pa (.o i) n) (fun _ => Pa (.o i) n) (fun _ => Pa (.o i) n) := by
  unfold Opd.run
  dsimp only
  generalize n[i]? = o
  rcases o with _ | _ | sl <;> (try cases sl) <;> (try simp -dsimp only [wp_C, wps_C]) <;> rfl
@[simp] theorem get_v : AV.get (.v d) n = some d := id rfl
@[simp] theorem get_o : AV.get (.o i) n = match n[i]? with
  | some (some sl) => sl.list?.map PyData.list
  | _ => none := id rfl
@[simp] theorem list?_own {xs : List PyData} : Sl.list? (.own xs) = some xs := id rfl
@[simp] theorem list?_lent {xs : List PyData} : Sl.list? (.lent xs) = some xs := id rfl
@[simp] theorem put_own {xs ys : List PyData} : Sl.put (.own xs) ys = .own ys := id rfl
@[simp] theorem put_lent {xs ys : List PyData} : Sl.put (.lent xs) ys = .lent ys := id rfl
theorem liftO_some {z : α} : liftO (some z) n = .ok z n := rfl
@[simp ↓] theorem wp_lift {o : Option α} {P : α → NSt → Prop} : Wp (liftO o n) P = onO o fun z => P z n := by
  cases o <;> (try simp -dsimp only [wp_C, wps_C]) <;> rfl
@[simp ↓] theorem wp_op2 {o : PyData → PyData → Option PyData} : Wp (nOp2 o p q n) P = Wp (p.run n) fun a n1 => Wp (q.run n1) fun b n2 => onO (a.get n2) fun x => onO (b.get n2) fun y => onO (o x y) fun z => P z n2 := by
  unfold nOp2
  rw [wp_bind]
  refine wp_ext fun a n1 => ?_
  rw [wp_bind]
  refine wp_ext fun b n2 => ?_
  cases ea : a.get n2 <;> cases eb : b.get n2 <;> simp -dsimp
@[simp ↓] theorem wp_aNil : Wp (aNil n) Pl = Pl [] n := wp_C
@[simp ↓] theorem wp_aCons : Wp (aCons p fs n) Pl = Wp (p.run n) fun a n1 => Wp (fs n1) fun as n2 => Pl (a :: as) n2 := by
  unfold aCons
  rw [wp_bind]
  refine wp_ext fun a n1 => ?_
  rw [wp_bind]
  (try simp -dsimp only [wp_C, wps_C]) <;> rfl
@[simp] theorem getAll_nil : getAll n [] = some [] := id rfl
@[simp] theorem getAll_cons {a : AV} {as : List AV} : getAll n (a :: as) = match a.get n, getAll n as with
  | some d, some ds => some (d :: ds)
  | _, _ => none := id rfl
@[simp] theorem plains_nil : nTup.plains [] = some [] := id rfl
@[simp] theorem plains_cons {as : List AV} : nTup.plains (.v d :: as) = (nTup.plains as).map (d :: ·) := id rfl
@[simp ↓] theorem wp_cb {o : List PyData → Option PyData} : Wp (nCB o fs n) P = Wp (fs n) fun as n1 => onO (getAll n1 as) fun ds => onO (o ds) fun z => P z n1 := by
  unfold nCB
  rw [wp_bind]
  refine wp_ext fun as n1 => ?_
  cases e : getAll n1 as <;> simp -dsimp
@[simp ↓] theorem wp_tup : Wp (nTup fs n) P = Wp (fs n) fun as n1 => onO (nTup.plains as) fun ds => ds.length ≤ sizeLine ∧ P (.tuple ds) n1 := by
  unfold nTup
  rw [wp_bind]
  refine wp_ext fun as n1 => ?_
  cases e : nTup.plains as with
  | none => simp -dsimp
  | some ds => by_cases h : ds.length ≤ sizeLine <;> simp -dsimp [h]
@[simp ↓] theorem wp_lstO : Wp (nLstO fs n) Pd = Wp (fs n) fun as n1 => onO (nTup.plains as) fun ds => ds.length ≤ sizeLine ∧ Pd ds n1 := by
  unfold nLstO
  rw [wp_bind]
  refine wp_ext fun as n1 => ?_
  cases e : nTup.plains as with
  | none => simp -dsimp
  | some ds => by_cases h : ds.length ≤ sizeLine <;> simp -dsimp [h]
@[simp ↓] theorem wp_nL {fo : NSt → R (List PyData)} : Wp (nL fo n) P = Wp (fo n) fun xs n' => P (.list xs) n' := by
  unfold nL
  rw [wp_bind]
  (try simp -dsimp only [wp_C, wps_C]) <;> rfl
@[simp ↓] theorem wp_asB : Wp (asB f n) Pb = Wp (f n) fun d n' => onB d fun b => Pb b n' := by
  unfold asB
  rw [wp_bind]
  refine wp_ext fun d n' => ?_
  cases d <;> (try simp -dsimp only [wp_C, wps_C]) <;> rfl
@[simp ↓] theorem wp_asT : Wp (asT p n) Pb = Wp (p.run n) fun a n' => onO (a.get n') fun d => onO (truthOf d) fun b => Pb b n' := by
  unfold asT
  rw [wp_bind]
  refine wp_ext fun a n' => ?_
  cases e : a.get n' <;> simp -dsimp
@[simp ↓] theorem wp_tAnd {s t : NSt → R Bool} : Wp (tAnd' s t n) Pb = Wp (s n) fun b n' => Br b (Wp (t n') Pb) (Pb false n') := by
  unfold tAnd'
  rw [wp_bind]
  refine wp_ext fun b n' => ?_
  cases b <;> simp -dsimp
@[simp ↓] theorem wp_tOr {s t : NSt → R Bool} : Wp (tOr' s t n) Pb = Wp (s n) fun b n' => Br b (Pb true n') (Wp (t n') Pb) := by
  unfold tOr'
  rw [wp_bind]
  refine wp_ext fun b n' => ?_
  cases b <;> simp -dsimp
@[simp ↓] theorem wp_tNot : Wp (tNot' t n) Pb = Wp (t n) fun b n' => Pb (!b) n' := by
  unfold tNot'
  rw [wp_bind]
  (try simp -dsimp only [wp_C, wps_C]) <;> rfl
@[simp ↓] theorem wp_tYes : Wp (tYesN n) Pb = Pb true n := wp_C
@[simp ↓] theorem wp_nAnd : Wp (nAnd f g n) P = Wp (f n) fun d n' => onB d fun b => Br b (Wp (g n') P) (P (.bool false) n') := by
  unfold nAnd
  rw [wp_bind]
  refine wp_ext fun d n' => ?_
  cases d with
  | bool b => cases b <;> simp -dsimp
  | _ => exact wp_C
@[simp ↓] theorem wp_nOr : Wp (nOr f g n) P = Wp (f n) fun d n' => onB d fun b => Br b (P (.bool true) n') (Wp (g n') P) := by
  unfold nOr
  rw [wp_bind]
  refine wp_ext fun d n' => ?_
  cases d with
  | bool b => cases b <;> simp -dsimp
  | _ => exact wp_C
@[simp ↓] theorem wp_nNot : Wp (nNot f n) P = Wp (f n) fun d n' => onB d fun b => P (.bool (!b)) n' := by
  unfold nNot
  rw [wp_bind]
  refine wp_ext fun d n' => ?_
  cases d <;> (try simp -dsimp only [wp_C, wps_C]) <;> rfl
@[simp ↓] theorem wp_nNeg : Wp (nNeg f n) P = Wp (f n) fun d n' => onI d fun i => P (.int (-i)) n' := by
  unfold nNeg
  rw [wp_bind]
  refine wp_ext fun d n' => ?_
  cases d <;> (try simp -dsimp only [wp_C, wps_C]) <;> rfl
@[simp ↓] theorem wp_nIf : Wp (nIf t f g n) P = Wp (t n) fun b n' => Br b (Wp (f n') P) (Wp (g n') P) := by
  unfold nIf
  rw [wp_bind]
  refine wp_ext fun b n' => ?_
  cases b <;> simp -dsimp
@[simp ↓] theorem wp_nIfO {fo go : NSt → R (List PyData)} : Wp (nIfO t fo go n) Pd = Wp (t n) fun b n' => Br b (Wp (fo n') Pd) (Wp (go n') Pd) := by
  unfold nIfO
  rw [wp_bind]
  refine wp_ext fun b n' => ?_
  cases b <;> simp -dsimp
@[simp ↓] theorem wp_isi {T : String} : Wp (nIsi T p n) P = Wp (p.run n) fun a n1 => onO (a.get n1) fun d => P (.bool (isTy T d)) n1 := by
  unfold nIsi
  rw [wp_bind]
  refine wp_ext fun a n1 => ?_
  cases e : a.get n1 <;> simp -dsimp
@[simp ↓] theorem wp_chain {o o' : PyData → PyData → Option PyData} : Wp (nChain o o' p q u n) P = Wp (p.run n) fun x n1 => Wp (q.run n1) fun y n2 => onO (x.get n2) fun dx => onO (y.get n2) fun dy => onO (o dx dy) fun w => onB w fun b =>
    Br b (Wp (u.run n2) fun z n3 => onO (y.get n3) fun ey => onO (z.get n3) fun dz => onO (o' ey dz) fun w => P w n3) (P (.bool false) n2) := by
  unfold nChain
  rw [wp_bind]
  refine wp_ext fun x n1 => ?_
  rw [wp_bind]
  refine wp_ext fun y n2 => ?_
  cases ex : x.get n2 with
  | none => simp -dsimp
  | some dx =>
    cases ey : y.get n2 with
    | none => simp -dsimp
    | some dy =>
      simp -dsimp only [onO_some]
      cases eo : o dx dy with
      | none => simp -dsimp
      | some w =>
        cases w with
        | bool b =>
          cases b with
          | false => simp -dsimp
          | true =>
            simp -dsimp only [wp_bind, onO_some, onB_bool, Br_true]
            refine wp_ext fun z n3 => ?_
            cases ez : y.get n3 <;> cases ew : z.get n3 <;> simp -dsimp
        | _ => simp -dsimp [onB]
@[simp ↓] theorem wps_sRet : WpS (sRet f n) Nx Rt Bk Ct = Wp (f n) fun d n' => Rt d n' := by
  unfold sRet
  rw [wps_st]
  (try simp -dsimp only [wp_C, wps_C]) <;> rfl
@[simp ↓] theorem wps_sExpr : WpS (sExpr f n) Nx Rt Bk Ct = Wp (f n) fun _ n' => Nx n' := by
  unfold sExpr
  rw [wps_st]
  (try simp -dsimp only [wp_C, wps_C]) <;> rfl
@[simp ↓] theorem wps_sAsg {gg : PyData → NSt → Option NSt} : WpS (sAsg f gg n) Nx Rt Bk Ct = Wp (f n) fun d n1 => onO (gg d n1) Nx := by
  unfold sAsg
  rw [wps_st]
  refine wp_ext fun d n1 => ?_
  cases gg d n1 <;> simp -dsimp
@[simp ↓] theorem wps_sOwn {fo : NSt → R (List PyData)} : WpS (sOwn i fo n) Nx Rt Bk Ct = Wp (fo n) fun xs n1 => notLent n1 i = true ∧ Nx (n1.set i (some (.own xs))) := by
  unfold sOwn
  rw [wps_st]
  refine wp_ext fun d n1 => ?_
  by_cases h : notLent n1 i = true <;> simp -dsimp [h]
@[simp ↓] theorem wps_sSetL {fo : NSt → R (List PyData)} : WpS (sSetL i fo n) Nx Rt Bk Ct = Wp (fo n) fun xs n1 => notLent n1 i = true ∧ Nx (n1.set i (some (.val (.list xs)))) := by
  unfold sSetL
  rw [wps_st]
  refine wp_ext fun d n1 => ?_
  by_cases h : notLent n1 i = true <;> simp -dsimp [h]
@[simp ↓] theorem wps_sIf {a b : NStm} : WpS (sIf t a b n) Nx Rt Bk Ct = Wp (t n) fun c n' => Br c (WpS (a n') Nx Rt Bk Ct) (WpS (b n') Nx Rt Bk Ct) := by
  unfold sIf
  rw [wps_st]
  refine wp_ext fun c n' => ?_
  cases c <;> simp -dsimp
@[simp] theorem gN_eq : gN i d n = if notLent n i = true then some (n.set i (some (.val d))) else none := id rfl
@[simp] theorem gT_eq {gs : List PyData → NSt → Option NSt} {ds : List PyData} : gT gs (.tuple ds) n = gs ds n := id rfl
@[simp] theorem gNil_eq : gNil' [] n = some n := id rfl
@[simp] theorem gCons_eq {gg : PyData → NSt → Option NSt} {gs : List PyData → NSt → Option NSt} {ds : List PyData} : gCons' gg gs (d :: ds) n = (gg d n).bind (gs ds) := id rfl
@[simp ↓] theorem wp_call {P : PyData → NSt → Prop} : Wp (nCall g fs n) P = Wp (fs n) fun as n1 => (ixs as).Nodup ∧ onO (resolve n1 as) fun a => Wp (g a) fun d os => P d (back n1 as os) := by
  unfold nCall
  rw [wp_bind]
  refine wp_ext fun as n1 => ?_
  by_cases h : (ixs as).Nodup
  · rw [if_pos h]
    cases e : resolve n1 as with
    | none => simp -dsimp
    | some a =>
      simp -dsimp only [h, true_and, onO_some]
      cases g a <;> simp -dsimp [wp_C, WpC]
  · simp -dsimp [h]
@[simp ↓] theorem wp_callO {go : NSt → R (List PyData)} : Wp (nCallO go fs n) Pd = Wp (fs n) fun as n1 => (ixs as).Nodup ∧ onO (resolve n1 as) fun a => Wp (go a) fun d os => Pd d (back n1 as os) := by
  unfold nCallO
  rw [wp_bind]
  refine wp_ext fun as n1 => ?_
  by_cases h : (ixs as).Nodup
  · rw [if_pos h]
    cases e : resolve n1 as with
    | none => simp -dsimp
    | some a =>
      simp -dsimp only [h, true_and, onO_some]
      cases go a <;> simp -dsimp [wp_C, WpC]
  · simp -dsimp [h]
@[simp] theorem ixs_nil : ixs [] = [] := id rfl
@[simp] theorem ixs_v {as : List AV} : ixs (.v d :: as) = ixs as := id rfl
@[simp] theorem ixs_o {as : List AV} : ixs (.o i :: as) = i :: ixs as := id rfl
@[simp] theorem resolve_nil : resolve n [] = some [] := id rfl
@[simp] theorem resolve_v {as : List AV} : resolve n (.v d :: as) = (resolve n as).map (some (Sl.val d) :: ·) := id rfl
@[simp] theorem resolve_o {as : List AV} : resolve n (.o i :: as) = match n[i]? with
    | some (some (.own xs)) => (resolve n as).map (some (Sl.lent xs) :: ·)
    | some (some (.lent xs)) => (resolve n as).map (some (Sl.lent xs) :: ·)
    | some (some (.scr xs)) => (resolve n as).map (some (Sl.scr xs) :: ·)
    | _ => none := id rfl
@[simp] theorem back_nil {os : NSt} : back n [] os = n := id rfl
@[simp] theorem back_v {as : List AV} {os : NSt} : back n (.v d :: as) os = back n as os.tail := id rfl
@[simp] theorem back_o {as : List AV} {os : NSt} : back n (.o i :: as) os = back (putBack n i (os.head?.getD none)) as os.tail := id rfl
@[simp] theorem putBack_l {ys : List PyData} : putBack n i (some (.lent ys)) = match n[i]? with
  | some (some sl) => n.set i (some (sl.put ys))
  | _ => n := id rfl
@[simp ↓] theorem wp_pop : Wp (nPop i n) P = onO (heldAt n i) fun z => onO z.2[z.2.length - 1]? fun x => P x (n.set i (some (z.1.put z.2.dropLast))) := by
  unfold nPop
  cases e : heldAt n i with
  | none => simp -dsimp
  | some z =>
    obtain ⟨sl, xs⟩ := z
    cases e2 : xs[xs.length - 1]? <;> simp -dsimp [e2]
@[simp ↓] theorem wp_append : Wp (nAppend i f n) P = ((heldAt n i).isSome = true ∧ Wp (f n) fun d n1 => onO (heldAt n1 i) fun z => z.2.length < sizeLine ∧ P .none (n1.set i (some (z.1.put (z.2 ++ [d]))))) := by
  unfold nAppend
  cases e : heldAt n i with
  | none => simp -dsimp
  | some z =>
    simp -dsimp only [wp_bind, Option.isSome_some, true_and]
    refine wp_ext fun d n1 => ?_
    cases e2 : heldAt n1 i with
    | none => simp -dsimp
    | some y =>
      obtain ⟨sl, xs⟩ := y
      by_cases h : xs.length < sizeLine <;> simp -dsimp [h]
@[simp] theorem heldAt_eq : heldAt n i = match n[i]? with
  | some (some sl) => sl.list?.map fun xs => (sl, xs)
  | _ => none := id rfl
@[simp] theorem notLent_eq : notLent n i = match n[i]? with
  | some (some (.lent _)) => false
  | some _ => true
  | none => false := id rfl
@[simp] theorem outs_nil {m : NSt} : outs [] m = [] := id rfl
@[simp] theorem outs_lent {xs : List PyData} {a m : NSt} {y : Option Sl} : outs (some (.lent xs) :: a) (y :: m) = y :: outs a m := id rfl
@[simp] theorem outs_val {a m : NSt} {y : Option Sl} : outs (some (.val d) :: a) (y :: m) = some (.val d) :: outs a m := id rfl
@[simp] theorem outs_scr {xs : List PyData} {a m : NSt} {y : Option Sl} : outs (some (.scr xs) :: a) (y :: m) = some (.scr xs) :: outs a m := id rfl
@[simp] theorem wipe_nil : wipeN n [] = n := id rfl
@[simp] theorem wipe_cons {v : Nat} {vs : List Nat} : wipeN n (v :: vs) = (wipeN n vs).set v none := id rfl
@[simp] theorem rest_nil {m : NSt} : restoreN n m [] = n := id rfl
@[simp] theorem rest_cons {m : NSt} {v : Nat} {vs : List Nat} : restoreN n m (v :: vs) = (restoreN n m vs).set v (m[v]?.getD none) := id rfl
@[simp] theorem bLen_list {xs : List PyData} : bLen [.list xs] = some (.int xs.length) := id rfl
@[simp] theorem bLen_tuple {xs : List PyData} : bLen [.tuple xs] = some (.int xs.length) := id rfl
@[simp] theorem bInt_int {i : Int} : bInt [.int i] = some (.int i) := id rfl
@[simp] theorem bInt_bool {b : Bool} : bInt [.bool b] = some (.int (if b then 1 else 0)) := id rfl
def absI (i : Int) : Int := ((i.natAbs : Nat) : Int)
theorem absI_nn {i : Int} : 0 ≤ absI i := by unfold absI; omega
@[simp] theorem bAbs_int {i : Int} : bAbs [.int i] = some (.int (absI i)) := id rfl
@[simp] theorem oAdd_int {a b : Int} : oAdd (.int a) (.int b) = some (.int (a + b)) := id rfl
@[simp] theorem oSub_int {a b : Int} : oSub (.int a) (.int b) = some (.int (a - b)) := id rfl
@[simp] theorem oMod_int {a b : Int} : oMod (.int a) (.int b) = if b ≠ 0 then some (.int (a.fmod b)) else none := id rfl
@[simp] theorem oEq_int {a b : Int} : oEq (.int a) (.int b) = some (.bool (decide (a = b))) := by
  unfold oEq eqOk PyData.eqv
  rfl
@[simp] theorem oNe_int {a b : Int} : oNe (.int a) (.int b) = some (.bool (!decide (a = b))) := by
  unfold oNe eqOk PyData.eqv
  rfl
@[simp] theorem oLt_int {a b : Int} : oLt (.int a) (.int b) = some (.bool (decide (a < b))) := id rfl
@[simp] theorem oLe_int {a b : Int} : oLe (.int a) (.int b) = some (.bool (decide (a ≤ b))) := id rfl
@[simp] theorem oGt_int {a b : Int} : oGt (.int a) (.int b) = some (.bool (decide (b < a))) := id rfl
@[simp] theorem oGe_int {a b : Int} : oGe (.int a) (.int b) = some (.bool (decide (b ≤ a))) := id rfl
@[simp] theorem oIx_list {xs : List PyData} {k : Int} : oIx (.list xs) (.int k) = atI xs k := id rfl
@[simp] theorem oIx_tuple {xs : List PyData} {k : Int} : oIx (.tuple xs) (.int k) = atI xs k := id rfl
end
theorem wp_sSeqO {f : NStm} {g : NSt → R (List PyData)} {n : NSt} {P : List PyData → NSt → Prop} : Wp (sSeqO f g n) P = WpS (f n) (fun n' => Wp (g n') P) (fun _ _ => False) (fun _ => False) (fun _ => False) := by
  unfold sSeqO
  cases f n <;> (try simp -dsimp only [wp_C, wps_C]) <;> rfl
theorem wp_runO {N : Nat} {body : NSt → R (List PyData)} {a : NSt} {P : List PyData → NSt → Prop} : Wp (runDO N body a) P = Wp (body (a ++ List.replicate (N - a.length) none)) (fun d n' => P d (outs a n')) := by
  unfold runDO
  cases body (a ++ List.replicate (N - a.length) none) <;> (try simp -dsimp only [wp_C, wps_C]) <;> rfl
@[simp ↓] theorem wp_give {i : Nat} {n : NSt} {P : List PyData → NSt → Prop} : Wp (nGive i n) P = onSl n[i]? (fun _ => False) (fun xs => P xs (n.set i none)) (fun _ => False) (fun _ => False) := by
  unfold nGive
  generalize n[i]? = o
  rcases o with _ | _ | sl <;> (try cases sl) <;> (try simp -dsimp only [wp_C, wps_C]) <;> rfl
@[simp ↓] theorem wp_lstRev {p : Opd} {n : NSt} {P : List PyData → NSt → Prop} : Wp (nLstRev p n) P = Wp (p.run n) fun a n1 => onO (a.get n1) fun d => onL d fun xs => P xs.reverse n1 := by
  unfold nLstRev
  rw [wp_bind]
  refine wp_ext fun a n1 => ?_
  cases e : a.get n1 with
  | none => simp -dsimp
  | some d => cases d <;> simp -dsimp [onL]
@[simp ↓] theorem wp_iScr {i : Nat} {n : NSt} {P : List PyData → NSt → Prop} : Wp (iScr i n) P = onSl n[i]? (fun _ => False) (fun _ => False) (fun _ => False) (fun xs => P xs n) := by
  unfold iScr
  generalize n[i]? = o
  rcases o with _ | _ | sl <;> (try cases sl) <;> (try simp -dsimp only [wp_C, wps_C]) <;> rfl
@[simp ↓] theorem wp_iV {f : NExp} {n : NSt} {P : List PyData → NSt → Prop} : Wp (iV f n) P = Wp (f n) fun d n' => onO (seqOf d) fun xs => P xs n' := by
  unfold iV
  rw [wp_bind]
  refine wp_ext fun d n' => ?_
  simp -dsimp
@[simp] theorem seqOf_list {xs : List PyData} : seqOf (.list xs) = some xs := id rfl
@[simp] theorem seqOf_tuple {xs : List PyData} : seqOf (.tuple xs) = some xs := id rfl
def rg1 (as : List AV) : Option (List PyData) := match as with
  | [.v (.int j)] => if rgOk j = true then some (rgD 0 j) else none
  | _ => none
@[simp] theorem rg1_int {j : Int} : rg1 [.v (.int j)] = if rgOk j = true then some (rgD 0 j) else none := id rfl
@[simp ↓] theorem wp_iRg1 {f : NSt → R (List AV)} {n : NSt} {P : List PyData → NSt → Prop} : Wp (iRg1 f n) P = Wp (f n) fun as n' => onO (rg1 as) fun xs => P xs n' := by
  unfold iRg1
  rw [wp_bind]
  refine wp_ext fun as n' => ?_
  unfold rg1
  split
  · rename_i j
    by_cases h : rgOk j = true <;> simp -dsimp [h]
  · simp -dsimp
def rg2 (as : List AV) : Option (List PyData) := match as with
  | [.v (.int i), .v (.int j)] => if rgOk i = true ∧ rgOk j = true then some (rgD i j) else none
  | _ => none
@[simp] theorem rg2_int {i j : Int} : rg2 [.v (.int i), .v (.int j)] = if rgOk i = true ∧ rgOk j = true then some (rgD i j) else none := id rfl
@[simp ↓] theorem wp_iRg2 {f : NSt → R (List AV)} {n : NSt} {P : List PyData → NSt → Prop} : Wp (iRg2 f n) P = Wp (f n) fun as n' => onO (rg2 as) fun xs => P xs n' := by
  unfold iRg2
  rw [wp_bind]
  refine wp_ext fun as n' => ?_
  unfold rg2
  split
  · rename_i i j
    by_cases h : rgOk i = true ∧ rgOk j = true <;> simp -dsimp [h]
  · simp -dsimp
@[simp ↓] theorem wps_sFor {fi : NSt → R (List PyData)} {g : PyData → NSt → Option NSt} {body : NStm} {n : NSt} {Nx : NSt → Prop} {Rt : PyData → NSt → Prop} {Bk Ct : NSt → Prop} : WpS (sFor fi g body n) Nx Rt Bk Ct = Wp (fi n) fun ds n1 => WpS (sForL g body ds n1) Nx Rt Bk Ct := wps_for
theorem rgD_len {i j : Int} : (rgD i j).length = (j - i).toNat := by
  unfold rgD
  simp -dsimp
/-- what an unset or a plain slot is -/
def Vl (x : Option Sl) : Prop := x = none ∨ ∃ d, x = some (.val d)
theorem Vl.none : Vl none := .inl rfl
theorem Vl.val {d : PyData} : Vl (some (.val d)) := .inr ⟨d, rfl⟩
/-! ### the draws -/
/-- numbers that are not below 0 -/
def Dr (l : List PyData) : Prop := ∃ ks : List Nat, l = ks.map fun (k : Nat) => PyData.int (k : Int)
def takeB : NStm :=
  sSeq (sIf (asB (nOp2 oEq (.e (nCB bLen (aCons (.o 0) (aNil)))) (.e (nC (.int 0))))) (sRet (nC (.int 0))) (sNil))
  (sRet (nOp2 oMod (.e (nCB bInt (aCons (.e (nPop 0)) (aNil)))) (.o 1)))
def Take : NExp := runD 2 takeB
theorem take_spec {l : List PyData} (h : Dr l) {b : Int} (hb : 0 < b) {P : PyData → NSt → Prop} (hP : ∀ (r : Int) (l' : List PyData), Dr l' → 0 ≤ r → r < b → P (.int r) [some (.lent l'), some (.val (.int b))]) : Wp (Take [some (.lent l), some (.val (.int b))]) P := by
  unfold Take
  rw [wp_run]
  obtain ⟨ks, rfl⟩ := h
  simp -dsimp [takeB]
  rcases List.eq_nil_or_concat ks with rfl | ⟨ks', k, rfl⟩
  · simp -dsimp
    exact hP 0 [] ⟨[], rfl⟩ (by omega) hb
  · refine Br_mk (fun h => by simp -dsimp at h) fun _ => ?_
    simp -dsimp
    exact ⟨by omega, hP _ _ ⟨ks', rfl⟩ (Int.fmod_nonneg (by omega) (by omega)) (Int.fmod_lt_of_pos _ hb)⟩
theorem Dr.nil : Dr [] := ⟨[], rfl⟩
theorem Dr.snoc {l : List PyData} {i : Int} (h : Dr l) (hi : 0 ≤ i) : Dr (l ++ [.int i]) := by
  obtain ⟨ks, rfl⟩ := h
  refine ⟨ks ++ [i.toNat], ?_⟩
  simp -dsimp
  omega
theorem Dr.snoc2 {l : List PyData} {i j : Int} (h : Dr l) (hi : 0 ≤ i) (hj : 0 ≤ j) : Dr (l ++ [.int i, .int j]) := by
  have := (h.snoc hi).snoc hj
  simpa using this
theorem rg1_at {j : Int} (h : rgOk j = true) : rg1 [.v (.int j)] = some (rgD 0 j) := by
  show (if rgOk j = true then some (rgD 0 j) else none) = _
  rw [if_pos h]
theorem Dr.rev {l : List PyData} (h : Dr l) : Dr l.reverse := by
  obtain ⟨ks, rfl⟩ := h
  exact ⟨ks.reverse, by simp -dsimp⟩
def drawsIn : NStm := sFor (iRg1 (aCons (.e (nC (.int 60))) (aNil))) (gN 5) (sIf (asB (nOp2 oGt (.o 4) (.e (nC (.int 0))))) (sSeq (sExpr (nAppend 1 (nOp2 oMod (.e (nCB bInt (aCons (.o 4) (aNil)))) (.e (nC (.int 997))))))
  (sAsg (nOp2 oFdiv (.o 4) (.e (nC (.int 997)))) (gN 4))) (sNil))
def drawsLast : NStm := sFor (iRg1 (aCons (.e (nC (.int 900))) (aNil))) (gN 5) (sSeq (sAsg (nOp2 oMod (.e (nCB bInt (aCons (.e (nOp2 oAdd (.e (nOp2 oMul (.o 2) (.e (nC (.int 48271))))) (.e (nC (.int 69621))))) (aNil)))) (.e (nC (.int 2147483647)))) (gN 2))
  (sExpr (nAppend 1 (nOp2 oFdiv (.o 2) (.e (nC (.int 5)))))))
def drawsB : NSt → R (List PyData) :=
  sSeqO (sOwn 1 (nLstO (aNil)))
  (sSeqO (sAsg (nC (.int 11)) (gN 2))
  (sSeqO (sFor (iScr 0) (gN 3) (sSeq (sAsg (nCB bAbs (aCons (.e (nCB bInt (aCons (.o 3) (aNil)))) (aNil))) (gN 4))
  (sSeq (sAsg (nOp2 oMod (.e (nCB bInt (aCons (.e (nOp2 oAdd (.e (nOp2 oAdd (.e (nOp2 oMul (.o 2) (.e (nC (.int 48271))))) (.o 4))) (.e (nC (.int 1))))) (aNil)))) (.e (nC (.int 2147483647)))) (gN 2))
  (sSeq (sIf (asB (nOp2 oLt (.o 4) (.e (nOp2 oPow (.e (nC (.int 10))) (.e (nC (.int 18))))))) (sSeq (sExpr (nAppend 1 (nOp2 oMod (.e (nCB bInt (aCons (.o 4) (aNil)))) (.e (nC (.int 997))))))
  (sSeq (sExpr (nAppend 1 (nOp2 oMod (.e (nCB bInt (aCons (.o 2) (aNil)))) (.e (nC (.int 65521))))))
  (sAsg (nC (.int 0)) (gN 4)))) (sNil))
  drawsIn))))
  (sSeqO drawsLast
  (nLstRev (.o 1)))))
def Draws : NSt → R (List PyData) := runDO 6 drawsB
theorem pow18 : oPow (.int 10) (.int 18) = some (.int 1000000000000000000) := by
  show (if CPow 10 18 then some (PyData.int (10 ^ (18 : Int).toNat)) else none) = _
  rw [if_pos ⟨by omega, by omega, by decide⟩]
  rfl
theorem gN_vl {n : NSt} {i : Nat} {d : PyData} {x : Option Sl} (e : n[i]? = some x) (v : Vl x) : gN i d n = some (n.set i (some (.val d))) := by
  unfold gN
  rw [if_pos]
  unfold notLent
  rw [e]
  rcases v with rfl | ⟨d, rfl⟩ <;> rfl
theorem nl_vl {n : NSt} {i : Nat} {x : Option Sl} (e : n[i]? = some x) (v : Vl x) : notLent n i = true := by
  unfold notLent
  rw [e]
  rcases v with rfl | ⟨d, rfl⟩ <;> rfl
theorem mulS {s : Int} (h0 : 0 ≤ s) (h1 : s < 2147483647) : oMul (.int s) (.int 48271) = some (.int (s * 48271)) := by
  show (if CMul s 48271 ∨ CMulW s 48271 then some (PyData.int (s * 48271)) else none) = _
  rw [if_pos (.inl (.inl ⟨by omega, by omega⟩))]
theorem fdivS {a b : Int} (hb : 0 < b) (h : b < 1000000000) : oFdiv (.int a) (.int b) = some (.int (a.fdiv b)) := by
  show (if CDivN a b then some (PyData.int (a.fdiv b)) else if CDivW a b then some (PyData.int (a.fdiv b)) else none) = _
  rw [if_pos ⟨by omega, by omega⟩]
theorem sizeBig : 10000 < sizeLine := by decide +kernel
theorem fmod_nn {a b : Int} (ha : 0 ≤ a) (hb : 0 < b) : 0 ≤ a.fmod b := Int.fmod_nonneg ha (by omega)
theorem drawsIn_spec {S acc : List PyData} {seed num : Int} {d3 : PyData} {x5 : Option Sl} (hacc : Dr acc) (hn : 0 ≤ num) (hl : acc.length ≤ 9000) (v5 : Vl x5) {Nx : NSt → Prop} {Rt : PyData → NSt → Prop} {Bk Ct : NSt → Prop}
    (h : ∀ acc' num' x5', Dr acc' → acc'.length ≤ acc.length + 60 → Vl x5' → Nx [some (.scr S), some (.own acc'), some (.val (.int seed)), some (.val d3), some (.val (.int num')), x5']) :
    WpS (drawsIn [some (.scr S), some (.own acc), some (.val (.int seed)), some (.val d3), some (.val (.int num)), x5]) Nx Rt Bk Ct := by
  have sz := sizeBig
  unfold drawsIn
  rw [wps_sFor]
  simp -dsimp only [wp_iRg1, wp_aCons, wp_oe, wp_nC, wp_aNil, rg1_at (show rgOk 60 = true by decide), onO_some]
  refine wps_forL (fun ds n => ∃ (acc' : List PyData) (num' : Int) (x5 : Option Sl), n = [some (.scr S), some (.own acc'), some (.val (.int seed)), some (.val d3), some (.val (.int num')), x5] ∧ Dr acc' ∧ 0 ≤ num' ∧ acc'.length + ds.length ≤ acc.length + 60 ∧ Vl x5) ?_ ?_ _ _ ⟨acc, num, x5, rfl, hacc, hn, by rw [rgD_len]; simp -dsimp, v5⟩
  · rintro d ds n ⟨acc', num', x5, rfl, hacc', h0, hlen, v5⟩
    have hlen : acc'.length + (ds.length + 1) ≤ acc.length + 60 := hlen
    refine ⟨_, gN_vl rfl v5, ?_⟩
    have f1 : oFdiv (.int num') (.int 997) = some (.int (num'.fdiv 997)) := fdivS (by omega) (by omega)
    by_cases hp : 0 < num'
    · simp -dsimp [hp, f1]
      refine ⟨by omega, _, _, _, ⟨rfl, rfl, rfl⟩, hacc'.snoc (fmod_nn h0 (by omega)), ?_, ?_, Vl.val⟩
      · exact Int.fdiv_nonneg h0 (by omega)
      · simp -dsimp; omega
    · simp -dsimp [hp]
      exact ⟨_, _, _, ⟨rfl, rfl, rfl⟩, hacc', h0, by omega, Vl.val⟩
  · rintro n ⟨acc', num', x5, rfl, hacc', h0, hlen, v5⟩
    exact h acc' num' x5 hacc' (by simpa using hlen) v5
theorem drawsLast_spec {S acc : List PyData} {seed : Int} {x3 x4 x5 : Option Sl} (hacc : Dr acc) (h0 : 0 ≤ seed) (h1 : seed < 2147483647) (hl : acc.length ≤ 9000) (v5 : Vl x5) {Nx : NSt → Prop} {Rt : PyData → NSt → Prop} {Bk Ct : NSt → Prop}
    (h : ∀ acc' seed' x5', Dr acc' → Nx [some (.scr S), some (.own acc'), some (.val (.int seed')), x3, x4, x5']) :
    WpS (drawsLast [some (.scr S), some (.own acc), some (.val (.int seed)), x3, x4, x5]) Nx Rt Bk Ct := by
  have sz := sizeBig
  unfold drawsLast
  rw [wps_sFor]
  simp -dsimp only [wp_iRg1, wp_aCons, wp_oe, wp_nC, wp_aNil, rg1_at (show rgOk 60 = true by decide), rg1_at (show rgOk 900 = true by decide), onO_some]
  refine wps_forL (fun ds n => ∃ (acc' : List PyData) (seed' : Int) (x5 : Option Sl), n = [some (.scr S), some (.own acc'), some (.val (.int seed')), x3, x4, x5] ∧ Dr acc' ∧ 0 ≤ seed' ∧ seed' < 2147483647 ∧ acc'.length + ds.length ≤ 9900 ∧ Vl x5) ?_ ?_ _ _ ⟨acc, seed, x5, rfl, hacc, h0, h1, by rw [rgD_len]; simp -dsimp; omega, v5⟩
  · rintro d ds n ⟨acc', seed', x5, rfl, hacc', h0, h1, hlen, v5⟩
    have hlen : acc'.length + (ds.length + 1) ≤ 9900 := hlen
    refine ⟨_, gN_vl rfl v5, ?_⟩
    have h2 : (0 : Int) ≤ (seed' * 48271 + 69621).fmod 2147483647 := fmod_nn (by omega) (by omega)
    have h3 : (seed' * 48271 + 69621).fmod 2147483647 < 2147483647 := Int.fmod_lt_of_pos _ (by omega)
    generalize hs : (seed' * 48271 + 69621).fmod 2147483647 = seed2 at h2 h3
    have f1 : oFdiv (.int seed2) (.int 5) = some (.int (seed2.fdiv 5)) := fdivS (by omega) (by omega)
    simp -dsimp [mulS h0 h1, hs, f1]
    refine ⟨by omega, _, _, _, ⟨rfl, rfl, rfl⟩, hacc'.snoc (Int.fdiv_nonneg h2 (by omega)), h2, h3, ?_, Vl.val⟩
    simp -dsimp; omega
  · rintro n ⟨acc', seed', x5, rfl, hacc', h0, h1, hlen, v5⟩
    exact h acc' seed' x5 hacc'
theorem draws_spec (ns : List Int) (hl : ns.length ≤ 63) {P : List PyData → NSt → Prop} (hP : ∀ l, Dr l → P l [some (.scr (ns.map .int))]) : Wp (Draws [some (.scr (ns.map .int))]) P := by
  have sz := sizeBig
  unfold Draws
  rw [wp_runO]
  unfold drawsB
  simp -dsimp [wp_sSeqO]
  refine wps_forL (fun ds n => ∃ (acc : List PyData) (seed : Int) (x3 x4 x5 : Option Sl), n = [some (.scr (ns.map .int)), some (.own acc), some (.val (.int seed)), x3, x4, x5] ∧ Dr acc ∧ 0 ≤ seed ∧ seed < 2147483647 ∧ acc.length + 62 * ds.length ≤ 62 * 63 ∧ Vl x3 ∧ Vl x4 ∧ Vl x5 ∧ ∃ ms : List Int, ds = ms.map .int) ?_ ?_ _ _ ⟨[], 11, none, none, none, rfl, Dr.nil, by omega, by omega, by simp -dsimp; omega, Vl.none, Vl.none, Vl.none, ns, rfl⟩
  · rintro d ds n ⟨acc, seed, x3, x4, x5, rfl, hacc, h0, h1, hlen, v3, v4, v5, ms, hms⟩
    cases ms with
    | nil => cases hms
    | cons m ms =>
      cases hms
      have hlen : acc.length + 62 * (ms.length + 1) ≤ 62 * 63 := by simpa using hlen
      refine ⟨_, gN_vl rfl v3, ?_⟩
      have hm : 0 ≤ absI m := absI_nn
      have h2 : (0 : Int) ≤ (seed * 48271 + absI m + 1).fmod 2147483647 := fmod_nn (by omega) (by omega)
      have h3 : (seed * 48271 + absI m + 1).fmod 2147483647 < 2147483647 := Int.fmod_lt_of_pos _ (by omega)
      generalize hs : (seed * 48271 + absI m + 1).fmod 2147483647 = seed2 at h2 h3
      rcases v4 with rfl | ⟨d4, rfl⟩ <;> (
        simp -dsimp [mulS h0 h1, pow18, hs]
        refine Br_mk (fun hb => ?_) fun hb => ?_
        · simp -dsimp
          refine ⟨by omega, by omega, ?_⟩
          refine drawsIn_spec (hacc.snoc2 (fmod_nn (by omega) (by omega)) (fmod_nn (by omega) (by omega))) (by omega) (by simp -dsimp; omega) v5 fun acc' num' x5' ha hx hv => ?_
          exact ⟨acc', seed2, _, _, _, rfl, ha, h2, h3, by simp -dsimp at hx ⊢; omega, Vl.val, Vl.val, hv, ms, rfl⟩
        · simp -dsimp
          refine drawsIn_spec hacc (by omega) (by omega) v5 fun acc' num' x5' ha hx hv => ?_
          exact ⟨acc', seed2, _, _, _, rfl, ha, h2, h3, by rw [List.length_map]; omega, Vl.val, Vl.val, hv, ms, rfl⟩)
  · rintro n ⟨acc, seed, x3, x4, x5, rfl, hacc, h0, h1, hlen, v3, v4, v5, ms, hms⟩
    rw [wp_sSeqO]
    refine drawsLast_spec hacc h0 h1 (by omega) v5 fun acc' seed' x5' ha => ?_
    simp -dsimp
    exact hP _ ha.rev
def pickB : NStm :=
  sRet (nOp2 oIx (.o 1) (.e (nCall Take (aCons (.o 0) (aCons (.e (nCB bLen (aCons (.o 1) (aNil)))) (aNil))))))
def Pick : NExp := runD 2 pickB
theorem atI_nat {xs : List PyData} {r : Int} (h0 : 0 ≤ r) (h1 : r < xs.length) : ∃ x, atI xs r = some x ∧ x ∈ xs := by
  unfold atI ixN
  rw [if_pos h0, if_pos h1]
  have hl : r.toNat < xs.length := by omega
  exact ⟨xs[r.toNat], by simp -dsimp [hl], List.getElem_mem hl⟩
theorem pick_spec {l xs : List PyData} (h : Dr l) (hx : xs ≠ []) {P : PyData → NSt → Prop} (hP : ∀ (x : PyData) (l' : List PyData), Dr l' → x ∈ xs → P x [some (.lent l'), some (.val (.list xs))]) : Wp (Pick [some (.lent l), some (.val (.list xs))]) P := by
  unfold Pick
  rw [wp_run]
  simp -dsimp [pickB]
  refine take_spec h (by have := List.length_pos_iff.mpr hx; omega) fun r l' hl' h0 h1 => ?_
  simp -dsimp
  obtain ⟨x, e, hm⟩ := atI_nat h0 h1
  rw [e]
  simp -dsimp
  exact hP x l' hl' hm
def sameB (D : NExp) : NStm :=
  sSeq (sIf (asB (nOp2 oIs (.o 1) (.e (nC .none)))) (sRet (nOp2 oIs (.o 0) (.e (nC .none)))) (sNil))
  (sSeq (sIf (tOr' (asT (.e (nIsi "tuple" (.o 1)))) (asT (.e (nIsi "list" (.o 1))))) (sSeq (sIf (tOr' (asB (nOp2 oNe (.e (nIsi "tuple" (.o 1))) (.e (nIsi "tuple" (.o 0))))) (asB (nOp2 oNe (.e (nIsi "list" (.o 1))) (.e (nIsi "list" (.o 0)))))) (sRet (nC (.bool false))) (sNil))
  (sSeq (sIf (asB (nOp2 oNe (.e (nCB bLen (aCons (.o 0) (aNil)))) (.e (nCB bLen (aCons (.o 1) (aNil)))))) (sRet (nC (.bool false))) (sNil))
  (sSeq (sFor (iRg1 (aCons (.e (nCB bLen (aCons (.o 1) (aNil)))) (aNil))) (gN 2) (sIf (tNot' (asT (.e (nCall D (aCons (.e (nOp2 oIx (.o 0) (.o 2))) (aCons (.e (nOp2 oIx (.o 1) (.o 2))) (aNil))))))) (sRet (nC (.bool false))) (sNil)))
  (sRet (nC (.bool true)))))) (sNil))
  (sSeq (sIf (asT (.e (nIsi "dict" (.o 1)))) (sSeq (sIf (tOr' (tNot' (asT (.e (nIsi "dict" (.o 0))))) (asB (nOp2 oNe (.e (nCB bLen (aCons (.o 0) (aNil)))) (.e (nCB bLen (aCons (.o 1) (aNil))))))) (sRet (nC (.bool false))) (sNil))
  (sRet (nOp2 oEq (.e (nL (nLc (iV (nF 1)) (gN 3) (tOr' (asB (nOp2 oNotIn (.o 3) (.o 0))) (tNot' (asT (.e (nCall D (aCons (.e (nOp2 oIx (.o 0) (.o 3))) (aCons (.e (nOp2 oIx (.o 1) (.o 3))) (aNil)))))))) (nV 3) [3]))) (.e (nL (nLstO (aNil))))))) (sNil))
  (sSeq (sIf (asB (nOp2 oNe (.e (nIsi "bool" (.o 1))) (.e (nIsi "bool" (.o 0))))) (sRet (nC (.bool false))) (sNil))
  (sSeq (sIf (tOr' (asB (nOp2 oNe (.e (nIsi "int" (.o 1))) (.e (nIsi "int" (.o 0))))) (asB (nOp2 oNe (.e (nIsi "str" (.o 1))) (.e (nIsi "str" (.o 0)))))) (sRet (nC (.bool false))) (sNil))
  (sRet (nOp2 oEq (.o 0) (.o 1)))))))
def Same : Nat → NExp
  | 0 => fun _ => .bad
  | k + 1 => runD 4 (sameB (Same k))
end NL
end L2
/-! M2: alike with itself. -/
namespace L2
namespace NL
open PySem PySem.Spec PyProof.Rows
def sOk : Nat → PyData → Prop
  | 0, _ => False
  | k + 1, .list xs => xs.length ≤ 1000000 ∧ ∀ x ∈ xs, sOk k x
  | k + 1, .tuple xs => xs.length ≤ 1000000 ∧ ∀ x ∈ xs, sOk k x
  | _ + 1, .dict _ => False
  | _ + 1, _ => True
theorem sOk.mono : ∀ {j k : Nat} {d : PyData}, j ≤ k → sOk j d → sOk k d
  | 0, _, _, _, h => h.elim
  | j + 1, 0, _, hk, _ => by omega
  | j + 1, k + 1, d, hk, h => by
    cases d with
    | list xs => exact ⟨h.1, fun x hx => sOk.mono (by omega) (h.2 x hx)⟩
    | tuple xs => exact ⟨h.1, fun x hx => sOk.mono (by omega) (h.2 x hx)⟩
    | dict _ => exact h.elim
    | _ => trivial
@[simp] theorem oIs_none {x : PyData} : oIs x .none = some (.bool (isNoneD x)) := id rfl
@[simp] theorem oIsNot_none {x : PyData} : oIsNot x .none = some (.bool (!isNoneD x)) := by
  cases x <;> rfl
@[simp] theorem isNoneD_none : isNoneD .none = true := id rfl
@[simp] theorem isNoneD_bool {b : Bool} : isNoneD (.bool b) = false := id rfl
@[simp] theorem isNoneD_int {b : Int} : isNoneD (.int b) = false := id rfl
@[simp] theorem isNoneD_str {b : Str} : isNoneD (.str b) = false := id rfl
@[simp] theorem isNoneD_list {b : List PyData} : isNoneD (.list b) = false := id rfl
@[simp] theorem isNoneD_tuple {b : List PyData} : isNoneD (.tuple b) = false := id rfl
@[simp] theorem isNoneD_dict {b : List (PyData × PyData)} : isNoneD (.dict b) = false := id rfl
@[simp] theorem truthOf_bool {b : Bool} : truthOf (.bool b) = some b := id rfl
@[simp] theorem truthOf_none : truthOf .none = some false := id rfl
@[simp] theorem tyN_none : tyN .none = "NoneType" := id rfl
@[simp] theorem tyN_bool {b : Bool} : tyN (.bool b) = "bool" := id rfl
@[simp] theorem tyN_int {b : Int} : tyN (.int b) = "int" := id rfl
@[simp] theorem tyN_str {b : Str} : tyN (.str b) = "str" := id rfl
@[simp] theorem tyN_list {b : List PyData} : tyN (.list b) = "list" := id rfl
@[simp] theorem tyN_tuple {b : List PyData} : tyN (.tuple b) = "tuple" := id rfl
@[simp] theorem tyN_dict {b : List (PyData × PyData)} : tyN (.dict b) = "dict" := id rfl
theorem oNe_bool {a b : Bool} : oNe (.bool a) (.bool b) = some (.bool (!(a == b))) := by
  unfold oNe eqOk PyData.eqv
  rfl
theorem oEq_bool {a b : Bool} : oEq (.bool a) (.bool b) = some (.bool (a == b)) := by
  unfold oEq eqOk PyData.eqv
  rfl
theorem oEq_str {a b : Str} : oEq (.str a) (.str b) = some (.bool (a == b)) := by
  unfold oEq eqOk PyData.eqv
  rfl
theorem oNe_str {a b : Str} : oNe (.str a) (.str b) = some (.bool (!(a == b))) := by
  unfold oNe eqOk PyData.eqv
  rfl
theorem rgD_mem {j k : Int} {d : PyData} (h : d ∈ rgD j k) : ∃ i : Int, d = .int i ∧ j ≤ i ∧ i < k := by
  unfold rgD at h
  obtain ⟨i, hi, rfl⟩ := List.mem_map.mp h
  have := List.mem_range.mp hi
  exact ⟨_, rfl, by omega, by omega⟩
theorem rgOk_nat {j : Nat} (h : j ≤ 1000000) : rgOk (j : Int) = true := by
  unfold rgOk
  rw [Bool.and_eq_true]
  exact ⟨decide_eq_true (by omega), decide_eq_true (by omega)⟩
def sameLoop (D : NExp) : NStm := sFor (iRg1 (aCons (.e (nCB bLen (aCons (.o 1) (aNil)))) (aNil))) (gN 2) (sIf (tNot' (asT (.e (nCall D (aCons (.e (nOp2 oIx (.o 0) (.o 2))) (aCons (.e (nOp2 oIx (.o 1) (.o 2))) (aNil))))))) (sRet (nC (.bool false))) (sNil))
def sameHead (D : NExp) : NStm := sSeq (sIf (tOr' (asB (nOp2 oNe (.e (nIsi "tuple" (.o 1))) (.e (nIsi "tuple" (.o 0))))) (asB (nOp2 oNe (.e (nIsi "list" (.o 1))) (.e (nIsi "list" (.o 0)))))) (sRet (nC (.bool false))) (sNil))
  (sSeq (sIf (asB (nOp2 oNe (.e (nCB bLen (aCons (.o 0) (aNil)))) (.e (nCB bLen (aCons (.o 1) (aNil)))))) (sRet (nC (.bool false))) (sNil))
  (sSeq (sameLoop D)
  (sRet (nC (.bool true)))))
def sameRest (D : NExp) : NStm := (sSeq (sIf (asT (.e (nIsi "dict" (.o 1)))) (sSeq (sIf (tOr' (tNot' (asT (.e (nIsi "dict" (.o 0))))) (asB (nOp2 oNe (.e (nCB bLen (aCons (.o 0) (aNil)))) (.e (nCB bLen (aCons (.o 1) (aNil))))))) (sRet (nC (.bool false))) (sNil))
  (sRet (nOp2 oEq (.e (nL (nLc (iV (nF 1)) (gN 3) (tOr' (asB (nOp2 oNotIn (.o 3) (.o 0))) (tNot' (asT (.e (nCall D (aCons (.e (nOp2 oIx (.o 0) (.o 3))) (aCons (.e (nOp2 oIx (.o 1) (.o 3))) (aNil)))))))) (nV 3) [3]))) (.e (nL (nLstO (aNil))))))) (sNil))
  (sSeq (sIf (asB (nOp2 oNe (.e (nIsi "bool" (.o 1))) (.e (nIsi "bool" (.o 0))))) (sRet (nC (.bool false))) (sNil))
  (sSeq (sIf (tOr' (asB (nOp2 oNe (.e (nIsi "int" (.o 1))) (.e (nIsi "int" (.o 0))))) (asB (nOp2 oNe (.e (nIsi "str" (.o 1))) (.e (nIsi "str" (.o 0)))))) (sRet (nC (.bool false))) (sNil))
  (sRet (nOp2 oEq (.o 0) (.o 1))))))
theorem sameB_eq (D : NExp) : sameB D = sSeq (sIf (asB (nOp2 oIs (.o 1) (.e (nC .none)))) (sRet (nOp2 oIs (.o 0) (.e (nC .none)))) (sNil)) (sSeq (sIf (tOr' (asT (.e (nIsi "tuple" (.o 1)))) (asT (.e (nIsi "list" (.o 1))))) (sameHead D) sNil) (sameRest D)) := rfl
theorem same_loop {k : Nat} {d : PyData} {xs : List PyData} (hlen : bLen [d] = some (.int xs.length)) (hix : ∀ i : Int, oIx d (.int i) = atI xs i) (hz : xs.length ≤ 1000000)
    (ih : ∀ x ∈ xs, Same k [some (.val x), some (.val x)] = .ok (.bool true) [some (.val x), some (.val x)]) {Nx : NSt → Prop} {Rt : PyData → NSt → Prop} {Bk Ct : NSt → Prop} (h : ∀ x2, Nx [some (.val d), some (.val d), x2, none]) :
    WpS (sameLoop (Same k) [some (.val d), some (.val d), none, none]) Nx Rt Bk Ct := by
  unfold sameLoop
  have er : rg1 [.v (.int (xs.length : Int))] = some (rgD 0 xs.length) := rg1_at (rgOk_nat hz)
  simp -dsimp [hlen, er]
  refine wps_forL (fun ds n => ∃ x2 : Option Sl, n = [some (.val d), some (.val d), x2, none] ∧ Vl x2 ∧ ∀ e ∈ ds, ∃ i : Int, e = .int i ∧ 0 ≤ i ∧ i < xs.length) ?_ ?_ _ _ ⟨none, rfl, Vl.none, fun e he => rgD_mem he⟩
  · rintro e ds n ⟨x2, rfl, v2, hm⟩
    refine ⟨_, gN_vl rfl v2, ?_⟩
    obtain ⟨i, rfl, h0, h1⟩ := hm e List.mem_cons_self
    obtain ⟨x, ex, hx⟩ := atI_nat h0 h1
    simp -dsimp [hix, ex, ih x hx, Vl]
    exact fun e he => hm e (List.mem_cons_of_mem _ he)
  · rintro n ⟨x2, rfl, v2, hm⟩
    exact h x2
theorem same_seq {k : Nat} {d : PyData} {xs : List PyData} {tl tt : Bool} (ht : isTy "tuple" d = tt) (hl : isTy "list" d = tl) (hor : (tt || tl) = true) (hn : isNoneD d = false) (hlen : bLen [d] = some (.int xs.length)) (hix : ∀ i : Int, oIx d (.int i) = atI xs i) (hz : xs.length ≤ 1000000)
    (ih : ∀ x ∈ xs, Same k [some (.val x), some (.val x)] = .ok (.bool true) [some (.val x), some (.val x)]) : Same (k + 1) [some (.val d), some (.val d)] = .ok (.bool true) [some (.val d), some (.val d)] := by
  apply wp_eq
  show Wp (runD 4 (sameB (Same k)) [some (.val d), some (.val d)]) _
  rw [wp_run, sameB_eq]
  have go : ∀ {Nx : NSt → Prop} {Rt : PyData → NSt → Prop} {Bk Ct : NSt → Prop}, (∀ x2, Rt (.bool true) [some (.val d), some (.val d), x2, none]) → WpS (sameHead (Same k) [some (.val d), some (.val d), none, none]) Nx Rt Bk Ct := fun h => by
    unfold sameHead
    simp -dsimp [ht, hl, hlen, oNe_bool]
    exact same_loop hlen hix hz ih fun x2 => by simpa using h x2
  cases tt <;> cases tl <;> first | exact absurd hor (by decide) | (
    simp -dsimp [ht, hl, hn]
    refine go fun x2 => ?_
    simp -dsimp)
theorem same_refl : ∀ (k : Nat) (d : PyData), sOk k d → Same k [some (.val d), some (.val d)] = .ok (.bool true) [some (.val d), some (.val d)]
  | 0, _, h => h.elim
  | k + 1, d, h => by
    cases d with
    | list xs => exact same_seq (xs := xs) (tt := false) (tl := true) (by simp -dsimp [isTy]) (by simp -dsimp [isTy]) rfl rfl rfl (fun i => rfl) h.1 fun x hx => same_refl k x (h.2 x hx)
    | tuple xs => exact same_seq (xs := xs) (tt := true) (tl := false) (by simp -dsimp [isTy]) (by simp -dsimp [isTy]) rfl rfl rfl (fun i => rfl) h.1 fun x hx => same_refl k x (h.2 x hx)
    | dict _ => exact h.elim
    | none =>
      apply wp_eq
      show Wp (runD 4 (sameB (Same k)) _) _
      rw [wp_run, sameB_eq]
      simp -dsimp [sameRest]
    | bool b =>
      apply wp_eq
      show Wp (runD 4 (sameB (Same k)) _) _
      rw [wp_run, sameB_eq]
      simp -dsimp [sameRest, isTy, oNe_bool, oEq_bool]
    | int b =>
      apply wp_eq
      show Wp (runD 4 (sameB (Same k)) _) _
      rw [wp_run, sameB_eq]
      simp -dsimp [sameRest, isTy, oNe_bool]
    | str b =>
      apply wp_eq
      show Wp (runD 4 (sameB (Same k)) _) _
      rw [wp_run, sameB_eq]
      simp -dsimp [sameRest, isTy, oNe_bool, oEq_str]
end NL
end L2
/-! M3: more joints. -/
namespace L2
namespace NL
open PySem PySem.Spec PyProof.Rows
section
variable {α : Type} {n : NSt} {i j : Nat} {P : PyData → NSt → Prop} {Pd : List PyData → NSt → Prop} {f g : NExp} {p q u : Opd} {d : PyData} {t : NSt → R Bool}
  {Nx : NSt → Prop} {Rt : PyData → NSt → Prop} {Bk Ct : NSt → Prop} {fs : NSt → R (List AV)} {Po : Option Int → NSt → Prop}
@[simp ↓] theorem wps_sSetI {fk fe : NExp} : WpS (sSetI i fk fe n) Nx Rt Bk Ct = Wp (fe n) fun d n1 => (heldAt n1 i).isSome = true ∧ Wp (fk n1) fun k n2 => onO (heldAt n2 i) fun z => onI k fun j => onO (ixN z.2.length j) fun m => Nx (n2.set i (some (z.1.put (z.2.set m d)))) := by
  unfold sSetI
  rw [wps_st]
  refine wp_ext fun d n1 => ?_
  cases e : heldAt n1 i with
  | none => simp -dsimp
  | some z =>
    simp -dsimp only [wps_st, Option.isSome_some, true_and]
    refine wp_ext fun k n2 => ?_
    cases e2 : heldAt n2 i with
    | none => simp -dsimp
    | some y =>
      obtain ⟨sl, xs⟩ := y
      cases k with
      | int j => cases e3 : ixN xs.length j <;> simp -dsimp [e3]
      | _ => simp -dsimp [onI]
@[simp ↓] theorem wp_op2O {o : PyData → PyData → Option (List PyData)} : Wp (nOp2O o p q n) Pd = Wp (p.run n) fun a n1 => Wp (q.run n1) fun b n2 => onO (a.get n2) fun x => onO (b.get n2) fun y => onO (o x y) fun z => Pd z n2 := by
  unfold nOp2O
  rw [wp_bind]
  refine wp_ext fun a n1 => ?_
  rw [wp_bind]
  refine wp_ext fun b n2 => ?_
  cases ea : a.get n2 <;> cases eb : b.get n2 <;> simp -dsimp
@[simp ↓] theorem wp_pNone : Wp (pNone n) Po = Po none n := wp_C
@[simp ↓] theorem wp_pSome : Wp (pSome f n) Po = Wp (f n) fun d n' => onI d fun i => Po (some i) n' := by
  unfold pSome
  rw [wp_bind]
  refine wp_ext fun d n' => ?_
  cases d <;> simp -dsimp [onI]
@[simp ↓] theorem wp_sl {fl fh : NSt → R (Option Int)} : Wp (nSl p fl fh n) P = Wp (p.run n) fun a n1 => Wp (fl n1) fun l n2 => Wp (fh n2) fun h n3 => onO (a.get n3) fun x => onO (oSl x l h) fun z => P z n3 := by
  unfold nSl
  rw [wp_bind]
  refine wp_ext fun a n1 => ?_
  rw [wp_bind]
  refine wp_ext fun l n2 => ?_
  rw [wp_bind]
  refine wp_ext fun h n3 => ?_
  cases ea : a.get n3 <;> simp -dsimp
@[simp] theorem oSl_list {xs : List PyData} {l h : Option Int} : oSl (.list xs) l h = some (.list (cutP xs l h)) := id rfl
@[simp] theorem oCatO_list {xs ys : List PyData} : oCatO (.list xs) (.list ys) = if xs.length + ys.length ≤ sizeLine then some (xs ++ ys) else none := id rfl
@[simp] theorem oAdd_list {xs ys : List PyData} : oAdd (.list xs) (.list ys) = if xs.length + ys.length ≤ sizeLine then some (.list (xs ++ ys)) else none := id rfl
@[simp] theorem bTuple_list {xs : List PyData} : bTuple [.list xs] = some (.tuple xs) := id rfl
@[simp] theorem bTuple_tuple {xs : List PyData} : bTuple [.tuple xs] = some (.tuple xs) := id rfl
@[simp ↓] theorem wp_listO : Wp (nListO p n) Pd = Wp (p.run n) fun a n1 => onO (a.get n1) fun d => onO (match d with | .list xs => some xs | .tuple xs => some xs | _ => none) fun xs => Pd xs n1 := by
  unfold nListO
  rw [wp_bind]
  refine wp_ext fun a n1 => ?_
  cases e : a.get n1 with
  | none => simp -dsimp
  | some d => cases d <;> simp -dsimp
@[simp ↓] theorem wp_meth1 {m : List PyData → PyData → Option (List PyData × PyData)} : Wp (nMeth1 i m p n) P = ((heldAt n i).isSome = true ∧ Wp (p.run n) fun a n1 => onO (heldAt n1 i) fun z => onO (a.get n1) fun d => onO (m z.2 d) fun y => P y.2 (n1.set i (some (z.1.put y.1)))) := by
  unfold nMeth1
  cases e : heldAt n i with
  | none => simp -dsimp
  | some z =>
    simp -dsimp only [wp_bind, Option.isSome_some, true_and]
    refine wp_ext fun a n1 => ?_
    cases e2 : heldAt n1 i with
    | none => simp -dsimp
    | some y =>
      obtain ⟨sl, xs⟩ := y
      cases e3 : a.get n1 with
      | none => simp -dsimp
      | some d =>
        cases e4 : m xs d with
        | none => simp -dsimp [e4]
        | some w => obtain ⟨ys, zz⟩ := w; simp -dsimp [e4]
@[simp ↓] theorem wps_sPar {fa fb : NSt → R EV} : WpS (sPar i j fa fb n) Nx Rt Bk Ct = Wp (fa n) fun x n1 => Wp (fb n1) fun y n2 => notLent n2 i = true ∧ notLent n2 j = true ∧ Nx ((n2.set i (some x.sl)).set j (some y.sl)) := by
  unfold sPar
  rw [wps_st]
  refine wp_ext fun x n1 => ?_
  rw [wps_st]
  refine wp_ext fun y n2 => ?_
  by_cases h : notLent n2 i = true ∧ notLent n2 j = true
  · rw [if_pos h]; simp -dsimp only [h.1, h.2, true_and, wps_nx]
  · rw [if_neg h]
    simp -dsimp only [wps_bad]
    simp -dsimp only [eq_iff_iff, false_iff]
    exact fun z => h ⟨z.1, z.2.1⟩
@[simp ↓] theorem wp_evV {Pe : EV → NSt → Prop} : Wp (evV f n) Pe = Wp (f n) fun d n' => Pe (.v d) n' := by
  unfold evV
  rw [wp_bind]
  (try simp -dsimp only [wp_C, wps_C]) <;> rfl
@[simp ↓] theorem wp_evO {fo : NSt → R (List PyData)} {Pe : EV → NSt → Prop} : Wp (evO fo n) Pe = Wp (fo n) fun d n' => Pe (.w d) n' := by
  unfold evO
  rw [wp_bind]
  (try simp -dsimp only [wp_C, wps_C]) <;> rfl
@[simp] theorem sl_v : EV.sl (.v d) = .val d := id rfl
@[simp] theorem sl_w {xs : List PyData} : EV.sl (.w xs) = .own xs := id rfl
@[simp] theorem bMax_two {a b : Int} : bMax [.int a, .int b] = some (.int (max a b)) := id rfl
@[simp] theorem bMin_two {a b : Int} : bMin [.int a, .int b] = some (.int (min a b)) := id rfl
end
end NL
end L2
/-! M4: rows of rows: enumerate, range, zip; what is alike. -/
namespace L2
namespace NL
open PySem PySem.Spec PyProof.Rows
section
variable {n : NSt} {P : List PyData → NSt → Prop} {fs : NSt → R (List AV)}
def en1 (as : List AV) : Option (List PyData) := match as with
  | [.v (.list xs)] => some (enumD 0 xs)
  | _ => none
@[simp] theorem en1_list {xs : List PyData} : en1 [.v (.list xs)] = some (enumD 0 xs) := id rfl
@[simp ↓] theorem wp_iEn : Wp (iEn fs n) P = Wp (fs n) fun as n' => onO (en1 as) fun xs => P xs n' := by
  unfold iEn
  rw [wp_bind]
  refine wp_ext fun as n' => ?_
  unfold en1
  split <;> simp -dsimp
def zp1 (as : List AV) : Option (List PyData) := match as with
  | [.v (.list xs), .v (.list ys)] => some (zipD xs ys)
  | [.v (.tuple xs), .v (.tuple ys)] => some (zipD xs ys)
  | _ => none
@[simp] theorem zp1_list {xs ys : List PyData} : zp1 [.v (.list xs), .v (.list ys)] = some (zipD xs ys) := id rfl
@[simp] theorem zp1_tuple {xs ys : List PyData} : zp1 [.v (.tuple xs), .v (.tuple ys)] = some (zipD xs ys) := id rfl
@[simp ↓] theorem wp_iZp : Wp (iZp fs n) P = Wp (fs n) fun as n' => onO (zp1 as) fun xs => P xs n' := by
  unfold iZp
  rw [wp_bind]
  refine wp_ext fun as n' => ?_
  unfold zp1
  split <;> simp -dsimp
end
theorem enumD_mem : ∀ {k : Nat} {xs : List PyData} {d : PyData}, d ∈ enumD k xs → ∃ (i : Nat) (x : PyData), d = .tuple [.int (i : Int), x] ∧ x ∈ xs
  | k, [], d, h => by simp -dsimp [enumD] at h
  | k, x :: xs, d, h => by
    unfold enumD at h
    rcases List.mem_cons.mp h with rfl | h
    · exact ⟨k, x, rfl, List.mem_cons_self⟩
    · obtain ⟨i, y, e, hy⟩ := enumD_mem h
      exact ⟨i, y, e, List.mem_cons_of_mem _ hy⟩
/-- f of each place and thing -/
def ixMap (f : Nat → PyData → PyData) : Nat → List PyData → List PyData
  | _, [] => []
  | k, x :: xs => f k x :: ixMap f (k + 1) xs
theorem ixMap_enum (f : Nat → PyData → PyData) (F : PyData → PyData) (h : ∀ (k : Nat) (x : PyData), F (.tuple [.int (k : Int), x]) = f k x) : ∀ (k : Nat) (xs : List PyData), (enumD k xs).map F = ixMap f k xs
  | _, [] => rfl
  | k, x :: xs => by
    simp -dsimp only [enumD, List.map_cons, ixMap, h]
    rw [ixMap_enum f F h (k + 1) xs]
theorem ixMap_len (f : Nat → PyData → PyData) : ∀ (k : Nat) (xs : List PyData), (ixMap f k xs).length = xs.length
  | _, [] => rfl
  | k, x :: xs => by simp -dsimp [ixMap, ixMap_len f (k + 1) xs]
theorem ixMap_mem (f : Nat → PyData → PyData) : ∀ {k : Nat} {xs : List PyData} {d : PyData}, d ∈ ixMap f k xs → ∃ i x, x ∈ xs ∧ d = f i x ∧ k ≤ i ∧ i < k + xs.length
  | k, [], d, h => by simp -dsimp [ixMap] at h
  | k, x :: xs, d, h => by
    unfold ixMap at h
    rcases List.mem_cons.mp h with rfl | h
    · exact ⟨k, x, List.mem_cons_self, rfl, by omega, by simp -dsimp⟩
    · obtain ⟨i, y, hy, e, h1, h2⟩ := ixMap_mem f h
      exact ⟨i, y, List.mem_cons_of_mem _ hy, e, by omega, by simp -dsimp; omega⟩
theorem ixMap_get (f : Nat → PyData → PyData) : ∀ (k : Nat) (xs : List PyData) (i : Nat), (ixMap f k xs)[i]? = (xs[i]?).map (f (k + i))
  | _, [], i => by simp -dsimp [ixMap]
  | k, x :: xs, 0 => by simp -dsimp [ixMap]
  | k, x :: xs, i + 1 => by
    simp -dsimp only [ixMap, List.getElem?_cons_succ]
    rw [ixMap_get f (k + 1) xs i]
    congr 2
    omega
theorem ixMap_range (f : Nat → PyData → PyData) (F : PyData → PyData) (xs : List PyData) (h : ∀ (k : Nat) (x : PyData), xs[k]? = some x → F (.int (k : Int)) = f k x) : (rgD 0 xs.length).map F = ixMap f 0 xs := by
  apply List.ext_getElem?
  intro i
  rw [ixMap_get]
  unfold rgD
  simp -dsimp only [List.map_map]
  by_cases hi : i < xs.length
  · rw [List.getElem?_map, List.getElem?_range (by omega)]
    have e := List.getElem?_eq_getElem hi
    rw [e]
    simp -dsimp only [Option.map_some, Function.comp]
    have := h i _ e
    simpa using this
  · have : xs.length ≤ i := by omega
    simp -dsimp [this]
theorem ixMap_congr {f g : Nat → PyData → PyData} : ∀ {k : Nat} {xs : List PyData}, (∀ i x, x ∈ xs → f i x = g i x) → ixMap f k xs = ixMap g k xs
  | _, [], _ => rfl
  | k, x :: xs, h => by
    simp -dsimp only [ixMap]
    rw [h k x List.mem_cons_self, ixMap_congr fun i y hy => h i y (List.mem_cons_of_mem _ hy)]
theorem map_ixMap (f : Nat → PyData → PyData) (F : PyData → PyData) : ∀ (k : Nat) (xs : List PyData), (ixMap f k xs).map F = ixMap (fun i x => F (f i x)) k xs
  | _, [] => rfl
  | k, x :: xs => by simp -dsimp [ixMap, map_ixMap f F (k + 1) xs]
theorem ixMap_const (F : PyData → PyData) : ∀ (k : Nat) (xs : List PyData), ixMap (fun _ x => F x) k xs = xs.map F
  | _, [] => rfl
  | k, x :: xs => by simp -dsimp [ixMap, ixMap_const F (k + 1) xs]
theorem atI_nat2 {xs : List PyData} {k : Nat} : atI xs (k : Int) = xs[k]? := by
  unfold atI ixN
  rw [if_pos (by omega)]
  by_cases h : (k : Int) < xs.length
  · rw [if_pos h]
    rfl
  · rw [if_neg h]
    have : xs.length ≤ k := by omega
    simp -dsimp [this]
theorem sOk_list {k : Nat} {xs : List PyData} (hl : xs.length ≤ 1000000) (h : ∀ x ∈ xs, sOk k x) : sOk (k + 1) (.list xs) := ⟨hl, h⟩
theorem sOk_tuple {k : Nat} {xs : List PyData} (hl : xs.length ≤ 1000000) (h : ∀ x ∈ xs, sOk k x) : sOk (k + 1) (.tuple xs) := ⟨hl, h⟩
theorem boolsOf_mapB (F : PyData → Bool) : ∀ xs : List PyData, boolsOf (xs.map fun x => .bool (F x)) = some (xs.map F)
  | [] => rfl
  | x :: xs => by simp -dsimp [boolsOf, boolsOf_mapB F xs]
theorem filter_all (xs : List PyData) : xs.filter (fun _ => true) = xs := List.filter_eq_self.mpr fun _ _ => rfl
end NL
end L2
/-! M5: comparisons of rows. -/
namespace L2
namespace NL
open PySem PySem.Spec PyProof.Rows
/-- of a shape that == may be asked of -/
def Shp (k : Nat) (d : PyData) : Prop := d.canLay0 = true ∧ d.depth ≤ k
theorem Shp.int {k : Nat} {i : Int} : Shp (k + 1) (.int i) := ⟨by simp -dsimp [PyData.canLay0], by simp -dsimp [PyData.depth]⟩
theorem Shp.bool {k : Nat} {i : Bool} : Shp (k + 1) (.bool i) := ⟨by simp -dsimp [PyData.canLay0], by simp -dsimp [PyData.depth]⟩
theorem Shp.none {k : Nat} : Shp (k + 1) .none := ⟨by simp -dsimp [PyData.canLay0], by simp -dsimp [PyData.depth]⟩
theorem canLayAll : ∀ {l : List PyData}, (∀ x ∈ l, x.canLay0 = true) → PyData.canLayAll0 l = true
  | [], _ => by simp -dsimp [PyData.canLayAll0]
  | x :: l, h => by
    unfold PyData.canLayAll0
    rw [h x List.mem_cons_self, canLayAll fun y hy => h y (List.mem_cons_of_mem _ hy)]
    rfl
theorem depthAll_le {k : Nat} : ∀ {l : List PyData}, (∀ x ∈ l, x.depth ≤ k) → PyData.depthAll l ≤ k
  | [], _ => by simp -dsimp [PyData.depthAll]
  | x :: l, h => by
    unfold PyData.depthAll
    have h1 := h x List.mem_cons_self
    have h2 := depthAll_le fun y hy => h y (List.mem_cons_of_mem _ hy)
    omega
theorem Shp.list {k : Nat} {l : List PyData} (h : ∀ x ∈ l, Shp k x) : Shp (k + 1) (.list l) := by
  refine ⟨?_, ?_⟩
  · unfold PyData.canLay0
    exact canLayAll fun x hx => (h x hx).1
  · unfold PyData.depth
    have := depthAll_le fun x hx => (h x hx).2
    omega
theorem Shp.tuple {k : Nat} {l : List PyData} (h : ∀ x ∈ l, Shp k x) : Shp (k + 1) (.tuple l) := by
  refine ⟨?_, ?_⟩
  · unfold PyData.canLay0
    exact canLayAll fun x hx => (h x hx).1
  · unfold PyData.depth
    have := depthAll_le fun x hx => (h x hx).2
    omega
theorem Shp.shaped {k : Nat} {d : PyData} (h : Shp k d) (hk : k ≤ 64) : SeqAt.shaped d = true := by
  unfold SeqAt.shaped
  rw [h.1, Bool.true_and]
  exact decide_eq_true (Nat.le_trans h.2 hk)
theorem oEq_nil {l : List PyData} {k : Nat} (h : ∀ x ∈ l, Shp k x) (hk : k < 64) : oEq (.list l) (.list []) = some (.bool l.isEmpty) := by
  show (if (SeqAt.shaped (.list l) && SeqAt.shaped (.list [])) = true then some (PyData.bool (PyData.eqv (.list l) (.list []))) else none) = _
  have h1 := (Shp.list h).shaped (by omega)
  have h2 : SeqAt.shaped (.list []) = true := by decide +kernel
  rw [h1, h2]
  cases l with
  | nil => simp -dsimp [PyData.eqv, PyData.eqvAll]
  | cons x l => simp -dsimp [PyData.eqv, PyData.eqvAll]
theorem oNe_nil {l : List PyData} {k : Nat} (h : ∀ x ∈ l, Shp k x) (hk : k < 64) : oNe (.list l) (.list []) = some (.bool (!l.isEmpty)) := by
  show (if (SeqAt.shaped (.list l) && SeqAt.shaped (.list [])) = true then some (PyData.bool (!PyData.eqv (.list l) (.list []))) else none) = _
  have h1 := (Shp.list h).shaped (by omega)
  have h2 : SeqAt.shaped (.list []) = true := by decide +kernel
  rw [h1, h2]
  cases l with
  | nil => simp -dsimp [PyData.eqv, PyData.eqvAll]
  | cons x l => simp -dsimp [PyData.eqv, PyData.eqvAll]
theorem bAll_map (F : PyData → Bool) (xs : List PyData) : bAll [.list (xs.map fun x => .bool (F x))] = some (.bool (xs.all F)) := by
  show (boolsOf _).map _ = _
  rw [boolsOf_mapB]
  simp -dsimp
end NL
end L2
/-! M6: two clauses, sorted(set), tuple(range), x += e. -/
namespace L2
namespace NL
open PySem PySem.Spec PyProof.Rows
section
variable {n : NSt} {i : Nat} {f : NExp} {q p : Opd} {P : PyData → NSt → Prop} {Pd : List PyData → NSt → Prop} {Nx : NSt → Prop} {Rt : PyData → NSt → Prop} {Bk Ct : NSt → Prop}
@[simp ↓] theorem wps_sAug {o : PyData → PyData → Option PyData} : WpS (sAug i o q n) Nx Rt Bk Ct = onSl n[i]? (fun x => Wp (q.run n) fun b n1 => onO (b.get n1) fun y => onO (o x y) fun z => notLent n1 i = true ∧ Nx (n1.set i (some (.val z)))) (fun _ => False) (fun _ => False) (fun _ => False) := by
  unfold sAug
  generalize n[i]? = w
  rcases w with _ | _ | sl
  · exact wps_C
  · exact wps_C
  · cases sl with
    | val x =>
      rw [onSl_val]
      dsimp only
      rw [wps_st]
      refine wp_ext fun b n1 => ?_
      cases b.get n1 with
      | none => exact wps_C
      | some y =>
        rw [onO_some]
        dsimp only
        cases o x y with
        | none => exact wps_C
        | some z =>
          rw [onO_some]
          dsimp only
          by_cases h : notLent n1 i = true
          · rw [if_pos h]; exact wps_C.trans (propext ⟨fun z => ⟨h, z⟩, And.right⟩)
          · rw [if_neg h]; exact wps_C.trans (propext ⟨False.elim, fun z => h z.1⟩)
    | _ => exact wps_C
@[simp] theorem oAddI_int {a b : Int} : oAddI (.int a) (.int b) = some (.int (a + b)) := id rfl
@[simp] theorem oSubI_int {a b : Int} : oSubI (.int a) (.int b) = some (.int (a - b)) := id rfl
@[simp ↓] theorem wp_sortU : Wp (nSortU p n) Pd = Wp (p.run n) fun a n1 => onO (a.get n1) fun d => onL d fun xs => onO (intsOf xs) fun ns => ns.length < 63 ∧ Pd ((sortU ns).map .int) n1 := by
  unfold nSortU
  rw [wp_bind]
  refine wp_ext fun a n1 => ?_
  cases a.get n1 with
  | none => exact wp_C
  | some d =>
    cases d with
    | list xs =>
      rw [onO_some, onL_list]
      dsimp only
      cases intsOf xs with
      | none => exact wp_C
      | some ns =>
        rw [onO_some]
        dsimp only
        by_cases h : ns.length < 63
        · rw [if_pos h]; simp -dsimp [h]
        · rw [if_neg h]; simp -dsimp [h]
    | _ => exact wp_C
theorem wp_tupRg1 {j : Int} (h0 : 0 ≤ j) (h1 : j ≤ 100000) : Wp (nTupRg (aCons (.e (nC (.int j))) aNil) n) P = P (.tuple (rgD 0 j)) n := by
  have e : nTupRg (aCons (.e (nC (.int j))) aNil) n = if 0 ≤ j ∧ j ≤ 100000 then .ok (.tuple (rgD 0 j)) n else .bad := id rfl
  rw [e, if_pos ⟨h0, h1⟩, wp_ok]
@[simp] theorem oSl_tuple {xs : List PyData} {l h : Option Int} : oSl (.tuple xs) l h = some (.tuple (cutP xs l h)) := id rfl
theorem oAdd_tup {xs ys : List PyData} (h : xs.length + ys.length ≤ 10000) : oAdd (.tuple xs) (.tuple ys) = some (.tuple (xs ++ ys)) := by
  have e : oAdd (.tuple xs) (.tuple ys) = if xs.length + ys.length ≤ sizeLine then some (.tuple (xs ++ ys)) else none := id rfl
  have := sizeBig
  rw [e, if_pos (by omega)]
theorem oMul_sm {a b : Int} (h : -(2 ^ 64) < a ∧ a < 2 ^ 64) : oMul (.int a) (.int b) = some (.int (a * b)) := by
  have e : oMul (.int a) (.int b) = if CMul a b ∨ CMulW a b then some (.int (a * b)) else none := id rfl
  rw [e, if_pos (.inl (.inl h))]
end
theorem sum_map_int : ∀ ns : List Int, bSum [.list (ns.map PyData.int)] = some (.int ns.sum) := fun ns => by
  show (intsOf (ns.map PyData.int)).map _ = _
  rw [intsOf_map]
  rfl
theorem eqv_int {a b : Int} : PyData.eqv (.int a) (.int b) = decide (a = b) := by
  unfold PyData.eqv
  by_cases h : a = b <;> simp [h]
/-- ints in a tuple of ints -/
theorem inInts {k : Int} {ns : List Int} : inD (.int k) (.tuple (ns.map PyData.int)) = some (decide (k ∈ ns)) := by
  have sh : SeqAt.shaped (.tuple (ns.map PyData.int)) = true := by
    refine (Shp.tuple (k := 1) fun x hx => ?_).shaped (by omega)
    obtain ⟨i, _, rfl⟩ := List.mem_map.mp hx
    exact Shp.int
  have e : inD (.int k) (.tuple (ns.map PyData.int)) = if SeqAt.shaped (.int k) = true ∧ SeqAt.shaped (.tuple (ns.map PyData.int)) = true then some ((ns.map PyData.int).any fun z => PyData.eqv z (.int k)) else none := id rfl
  rw [e, if_pos ⟨Shp.shaped (k := 1) Shp.int (by omega), sh⟩]
  congr 1
  induction ns with
  | nil => rfl
  | cons a ns ih =>
    rw [List.map_cons, List.any_cons, ih (Shp.shaped (k := 2) (Shp.tuple fun x hx => by obtain ⟨i, _, rfl⟩ := List.mem_map.mp hx; exact Shp.int) (by omega)) rfl, eqv_int]
    by_cases h : a = k
    · simp [h]
    · have h' : ¬ k = a := fun z => h z.symm
      simp [h, h']
theorem oIn_ints {k : Int} {ns : List Int} : oIn (.int k) (.tuple (ns.map PyData.int)) = some (.bool (decide (k ∈ ns))) := by
  unfold oIn
  rw [inInts]
  rfl
theorem oNotIn_ints {k : Int} {ns : List Int} : oNotIn (.int k) (.tuple (ns.map PyData.int)) = some (.bool (!decide (k ∈ ns))) := by
  unfold oNotIn
  rw [inInts]
  rfl
/-- pairs of ints, rows of them -/
def dP (p : Int × Int) : PyData := .tuple [.int p.1, .int p.2]
def dR (r : List (Int × Int)) : PyData := .tuple (r.map dP)
theorem eqv_dP {p q : Int × Int} : PyData.eqv (dP p) (dP q) = decide (p = q) := by
  obtain ⟨a, b⟩ := p
  obtain ⟨c, d⟩ := q
  unfold dP
  simp only [PyData.eqv, PyData.eqvAll, Prod.mk.injEq]
  by_cases h : a = c <;> by_cases h2 : b = d <;> simp [h, h2]
theorem eqvAll_dP : ∀ {r s : List (Int × Int)}, PyData.eqvAll (r.map dP) (s.map dP) = decide (r = s)
  | [], [] => by simp [PyData.eqvAll]
  | [], _ :: _ => by simp [PyData.eqvAll]
  | _ :: _, [] => by simp [PyData.eqvAll]
  | p :: r, q :: s => by
    simp only [List.map_cons, PyData.eqvAll, eqv_dP, eqvAll_dP (r := r) (s := s), List.cons.injEq]
    by_cases h : p = q <;> by_cases h2 : r = s <;> simp [h, h2]
theorem eqv_dR {r s : List (Int × Int)} : PyData.eqv (dR r) (dR s) = decide (r = s) := by
  unfold dR
  simp only [PyData.eqv]
  exact eqvAll_dP
theorem shp_dR {r : List (Int × Int)} : Shp 3 (dR r) := by
  unfold dR
  refine Shp.tuple fun x hx => ?_
  obtain ⟨p, _, rfl⟩ := List.mem_map.mp hx
  refine Shp.tuple fun x hx => ?_
  simp only [List.mem_cons, List.not_mem_nil, or_false] at hx
  rcases hx with rfl | rfl <;> exact Shp.int
theorem oEq_dR {r s : List (Int × Int)} : oEq (dR r) (dR s) = some (.bool (decide (r = s))) := by
  have e : oEq (dR r) (dR s) = if (SeqAt.shaped (dR r) && SeqAt.shaped (dR s)) = true then some (.bool (PyData.eqv (dR r) (dR s))) else none := id rfl
  rw [e, if_pos (by rw [shp_dR.shaped (by omega), shp_dR.shaped (by omega)]; rfl), eqv_dR]
theorem oNe_dR {r s : List (Int × Int)} : oNe (dR r) (dR s) = some (.bool (!decide (r = s))) := by
  have e : oNe (dR r) (dR s) = if (SeqAt.shaped (dR r) && SeqAt.shaped (dR s)) = true then some (.bool (!PyData.eqv (dR r) (dR s))) else none := id rfl
  rw [e, if_pos (by rw [shp_dR.shaped (by omega), shp_dR.shaped (by omega)]; rfl), eqv_dR]
/-- a comprehension over a row of pairs -/
theorem lc_rows {fi : NSt → R (List PyData)} {g : PyData → NSt → Option NSt} {t : NSt → R Bool} {f : NExp} {vs : List Nat} {n : NSt} {r : List (Int × Int)} (p : Int × Int → Bool) (F : Int × Int → PyData) (hi : fi n = .ok (r.map dP) n) (hn : noHeld n vs = true)
    (h : ∀ x ∈ r, ∃ n1, g (dP x) (wipeN n vs) = some n1 ∧ t n1 = .ok (p x) n1 ∧ (p x = true → f n1 = .ok (F x) n1) ∧ wipeN n1 vs = wipeN n vs) (hl : r.length ≤ 1000) (hr : restoreN (wipeN n vs) n vs = n) : nLc fi g t f vs n = .ok ((r.filter p).map F) n := by
  have back : ∀ x : Int × Int, (match dP x with | .tuple [.int a, .int b] => (a, b) | _ => ((0, 0) : Int × Int)) = x := fun x => rfl
  have sz := sizeBig
  have e := lc_pure (fi := fi) (g := g) (t := t) (f := f) (vs := vs) (n := n) (ds := r.map dP) (fun d => p (match d with | .tuple [.int a, .int b] => (a, b) | _ => (0, 0))) (fun d => F (match d with | .tuple [.int a, .int b] => (a, b) | _ => (0, 0))) hi hn (fun d hd => ?_) (by rw [List.length_map]; omega) hr
  · rw [e]
    congr 1
    induction r with
    | nil => rfl
    | cons x r ih =>
      clear e hi h
      have ih' : ∀ r : List (Int × Int), List.map (fun d => F (match d with | .tuple [.int a, .int b] => (a, b) | _ => (0, 0))) (List.filter (fun d => p (match d with | .tuple [.int a, .int b] => (a, b) | _ => (0, 0))) (r.map dP)) = (r.filter p).map F := by
        intro r
        induction r with
        | nil => rfl
        | cons x r ih2 =>
          rw [List.map_cons]
          by_cases hp : p x = true
          · rw [List.filter_cons_of_pos (by exact hp), List.filter_cons_of_pos hp, List.map_cons, List.map_cons, ih2]
            rfl
          · rw [List.filter_cons_of_neg (by exact hp), List.filter_cons_of_neg hp, ih2]
      exact ih' _
  · obtain ⟨x, hx, rfl⟩ := List.mem_map.mp hd
    exact h x hx
end NL
end L2
/-! M7: two clauses over rows of pairs. -/
namespace L2
namespace NL
open PySem PySem.Spec PyProof.Rows
def unP (d : PyData) : Int × Int := match d with
  | .tuple [.int a, .int b] => (a, b)
  | _ => (0, 0)
theorem unP_dP {x : Int × Int} : unP (dP x) = x := rfl
theorem map_unP (F : Int × Int → PyData) : ∀ r : List (Int × Int), ((r.map dP).filter fun _ => true).map (fun d => F (unP d)) = r.map F
  | [] => rfl
  | x :: r => by
    rw [List.map_cons, List.filter_cons_of_pos rfl, List.map_cons, map_unP F r]
    rfl
theorem lc2L_rows {g g1 : PyData → NSt → Option NSt} {t t1 : NSt → R Bool} {fi1 : NSt → R (List PyData)} {f : NExp} {vs vs1 : List Nat} {n : NSt} (Rw : PyData → List (Int × Int)) (F : Int × Int → PyData) : ∀ (ds acc : List PyData),
    (∀ d ∈ ds, ∃ n1, g d n = some n1 ∧ t n1 = .ok true n1 ∧ fi1 n1 = .ok ((Rw d).map dP) n1 ∧ noHeld n1 vs1 = true ∧ wipeN (wipeN n1 vs1) vs = n ∧ ∀ x ∈ Rw d, ∃ n2, g1 (dP x) (wipeN n1 vs1) = some n2 ∧ t1 n2 = .ok true n2 ∧ f n2 = .ok (F x) n2 ∧ wipeN n2 vs1 = wipeN n1 vs1) →
    acc.length + (ds.flatMap fun d => (Rw d).map F).length ≤ sizeLine → nLc2L g t fi1 g1 t1 f vs vs1 ds acc n = .ok (acc ++ ds.flatMap fun d => (Rw d).map F) n
  | [], acc, _, _ => by
    unfold nLc2L
    simp
  | d :: ds, acc, h, hl => by
    obtain ⟨n1, e, et, ei, en, ew, hx⟩ := h d List.mem_cons_self
    rw [List.flatMap_cons, List.length_append, List.length_map] at hl
    unfold nLc2L
    rw [e]
    dsimp only
    rw [et]
    show (if true = true then (fi1 n1).bind fun ds1 n3 => if noHeld n3 vs1 = true then (nLcL g1 t1 f vs1 ds1 acc (wipeN n3 vs1)).bind fun acc' n4 => nLc2L g t fi1 g1 t1 f vs vs1 ds acc' (wipeN n4 vs) else .bad else nLc2L g t fi1 g1 t1 f vs vs1 ds acc (wipeN n1 vs)) = _
    rw [if_pos rfl, ei]
    show (if noHeld n1 vs1 = true then (nLcL g1 t1 f vs1 ((Rw d).map dP) acc (wipeN n1 vs1)).bind fun acc' n4 => nLc2L g t fi1 g1 t1 f vs vs1 ds acc' (wipeN n4 vs) else .bad) = _
    rw [if_pos en, lcL_pure (fun _ => true) (fun d => F (unP d)) ((Rw d).map dP) acc (fun y hy => ?_) (by rw [List.length_map]; omega), map_unP]
    · show nLc2L g t fi1 g1 t1 f vs vs1 ds (acc ++ (Rw d).map F) (wipeN (wipeN n1 vs1) vs) = _
      rw [ew, lc2L_rows Rw F ds _ (fun y hy => h y (List.mem_cons_of_mem _ hy)) (by rw [List.length_append, List.length_map]; omega), List.flatMap_cons, List.append_assoc]
    · obtain ⟨x, hx1, rfl⟩ := List.mem_map.mp hy
      obtain ⟨n2, a1, a2, a3, a4⟩ := hx x hx1
      exact ⟨n2, a1, a2, fun _ => a3, a4⟩
theorem lc2_rows {fi : NSt → R (List PyData)} {g g1 : PyData → NSt → Option NSt} {t t1 : NSt → R Bool} {fi1 : NSt → R (List PyData)} {f : NExp} {vs vs1 : List Nat} {n : NSt} {ds : List PyData} (Rw : PyData → List (Int × Int)) (F : Int × Int → PyData) (hi : fi n = .ok ds n) (hn : noHeld n vs = true) (hv : ∀ i ∈ vs1, i ∈ vs)
    (h : ∀ d ∈ ds, ∃ n1, g d (wipeN n vs) = some n1 ∧ t n1 = .ok true n1 ∧ fi1 n1 = .ok ((Rw d).map dP) n1 ∧ noHeld n1 vs1 = true ∧ wipeN (wipeN n1 vs1) vs = wipeN n vs ∧ ∀ x ∈ Rw d, ∃ n2, g1 (dP x) (wipeN n1 vs1) = some n2 ∧ t1 n2 = .ok true n2 ∧ f n2 = .ok (F x) n2 ∧ wipeN n2 vs1 = wipeN n1 vs1)
    (hl : (ds.flatMap fun d => (Rw d).map F).length ≤ sizeLine) (hr : restoreN (wipeN n vs) n vs = n) : nLc2 fi g t fi1 g1 t1 f vs vs1 n = .ok (ds.flatMap fun d => (Rw d).map F) n := by
  unfold nLc2
  rw [hi]
  show (if noHeld n vs = true ∧ ∀ i ∈ vs1, i ∈ vs then (match nLc2L g t fi1 g1 t1 f vs vs1 ds [] (wipeN n vs) with
    | .ok acc n2 => R.ok acc (restoreN n2 n vs)
    | _ => R.bad) else R.bad) = _
  rw [if_pos ⟨hn, hv⟩, lc2L_rows Rw F ds [] h (by simpa using hl)]
  simp [hr]
end NL
end L2
/-! M8: the draws, with so many more at the end. -/
namespace L2
namespace NL
open PySem PySem.Spec PyProof.Rows
def drawsLastC (c : Int) : NStm := sFor (iRg1 (aCons (.e (nC (.int c))) (aNil))) (gN 5) (sSeq (sAsg (nOp2 oMod (.e (nCB bInt (aCons (.e (nOp2 oAdd (.e (nOp2 oMul (.o 2) (.e (nC (.int 48271))))) (.e (nC (.int 69621))))) (aNil)))) (.e (nC (.int 2147483647)))) (gN 2))
  (sExpr (nAppend 1 (nOp2 oFdiv (.o 2) (.e (nC (.int 5)))))))
def drawsBC (c : Int) : NSt → R (List PyData) :=
  sSeqO (sOwn 1 (nLstO (aNil)))
  (sSeqO (sAsg (nC (.int 11)) (gN 2))
  (sSeqO (sFor (iScr 0) (gN 3) (sSeq (sAsg (nCB bAbs (aCons (.e (nCB bInt (aCons (.o 3) (aNil)))) (aNil))) (gN 4))
  (sSeq (sAsg (nOp2 oMod (.e (nCB bInt (aCons (.e (nOp2 oAdd (.e (nOp2 oAdd (.e (nOp2 oMul (.o 2) (.e (nC (.int 48271))))) (.o 4))) (.e (nC (.int 1))))) (aNil)))) (.e (nC (.int 2147483647)))) (gN 2))
  (sSeq (sIf (asB (nOp2 oLt (.o 4) (.e (nOp2 oPow (.e (nC (.int 10))) (.e (nC (.int 18))))))) (sSeq (sExpr (nAppend 1 (nOp2 oMod (.e (nCB bInt (aCons (.o 4) (aNil)))) (.e (nC (.int 997))))))
  (sSeq (sExpr (nAppend 1 (nOp2 oMod (.e (nCB bInt (aCons (.o 2) (aNil)))) (.e (nC (.int 65521))))))
  (sAsg (nC (.int 0)) (gN 4)))) (sNil))
  drawsIn))))
  (sSeqO (drawsLastC c)
  (nLstRev (.o 1)))))
def DrawsC (c : Int) : NSt → R (List PyData) := runDO 6 (drawsBC c)
theorem drawsLastC_spec {c : Int} (hc0 : 0 ≤ c) (hc1 : c ≤ 5000) {S acc : List PyData} {seed : Int} {x3 x4 x5 : Option Sl} (hacc : Dr acc) (h0 : 0 ≤ seed) (h1 : seed < 2147483647) (hl : acc.length ≤ 4500) (v5 : Vl x5) {Nx : NSt → Prop} {Rt : PyData → NSt → Prop} {Bk Ct : NSt → Prop}
    (h : ∀ acc' seed' x5', Dr acc' → Nx [some (.scr S), some (.own acc'), some (.val (.int seed')), x3, x4, x5']) :
    WpS ((drawsLastC c) [some (.scr S), some (.own acc), some (.val (.int seed)), x3, x4, x5]) Nx Rt Bk Ct := by
  have sz := sizeBig
  have hrg : rgOk c = true := by unfold rgOk; rw [Bool.and_eq_true]; exact ⟨decide_eq_true (by omega), decide_eq_true (by omega)⟩
  unfold drawsLastC
  rw [wps_sFor]
  simp -dsimp only [wp_iRg1, wp_aCons, wp_oe, wp_nC, wp_aNil, rg1_at hrg, onO_some]
  refine wps_forL (fun ds n => ∃ (acc' : List PyData) (seed' : Int) (x5 : Option Sl), n = [some (.scr S), some (.own acc'), some (.val (.int seed')), x3, x4, x5] ∧ Dr acc' ∧ 0 ≤ seed' ∧ seed' < 2147483647 ∧ acc'.length + ds.length ≤ 9900 ∧ Vl x5) ?_ ?_ _ _ ⟨acc, seed, x5, rfl, hacc, h0, h1, by rw [rgD_len]; simp -dsimp; omega, v5⟩
  · rintro d ds n ⟨acc', seed', x5, rfl, hacc', h0, h1, hlen, v5⟩
    have hlen : acc'.length + (ds.length + 1) ≤ 9900 := hlen
    refine ⟨_, gN_vl rfl v5, ?_⟩
    have h2 : (0 : Int) ≤ (seed' * 48271 + 69621).fmod 2147483647 := fmod_nn (by omega) (by omega)
    have h3 : (seed' * 48271 + 69621).fmod 2147483647 < 2147483647 := Int.fmod_lt_of_pos _ (by omega)
    generalize hs : (seed' * 48271 + 69621).fmod 2147483647 = seed2 at h2 h3
    have f1 : oFdiv (.int seed2) (.int 5) = some (.int (seed2.fdiv 5)) := fdivS (by omega) (by omega)
    simp -dsimp [mulS h0 h1, hs, f1]
    refine ⟨by omega, _, _, _, ⟨rfl, rfl, rfl⟩, hacc'.snoc (Int.fdiv_nonneg h2 (by omega)), h2, h3, ?_, Vl.val⟩
    simp -dsimp; omega
  · rintro n ⟨acc', seed', x5, rfl, hacc', h0, h1, hlen, v5⟩
    exact h acc' seed' x5 hacc'
theorem drawsC_spec {c : Int} (hc0 : 0 ≤ c) (hc1 : c ≤ 5000) (ns : List Int) (hl : ns.length ≤ 63) {P : List PyData → NSt → Prop} (hP : ∀ l, Dr l → P l [some (.scr (ns.map .int))]) : Wp ((DrawsC c) [some (.scr (ns.map .int))]) P := by
  have sz := sizeBig
  unfold DrawsC
  rw [wp_runO]
  unfold drawsBC
  simp -dsimp [wp_sSeqO]
  refine wps_forL (fun ds n => ∃ (acc : List PyData) (seed : Int) (x3 x4 x5 : Option Sl), n = [some (.scr (ns.map .int)), some (.own acc), some (.val (.int seed)), x3, x4, x5] ∧ Dr acc ∧ 0 ≤ seed ∧ seed < 2147483647 ∧ acc.length + 62 * ds.length ≤ 62 * 63 ∧ Vl x3 ∧ Vl x4 ∧ Vl x5 ∧ ∃ ms : List Int, ds = ms.map .int) ?_ ?_ _ _ ⟨[], 11, none, none, none, rfl, Dr.nil, by omega, by omega, by simp -dsimp; omega, Vl.none, Vl.none, Vl.none, ns, rfl⟩
  · rintro d ds n ⟨acc, seed, x3, x4, x5, rfl, hacc, h0, h1, hlen, v3, v4, v5, ms, hms⟩
    cases ms with
    | nil => cases hms
    | cons m ms =>
      cases hms
      have hlen : acc.length + 62 * (ms.length + 1) ≤ 62 * 63 := by simpa using hlen
      refine ⟨_, gN_vl rfl v3, ?_⟩
      have hm : 0 ≤ absI m := absI_nn
      have h2 : (0 : Int) ≤ (seed * 48271 + absI m + 1).fmod 2147483647 := fmod_nn (by omega) (by omega)
      have h3 : (seed * 48271 + absI m + 1).fmod 2147483647 < 2147483647 := Int.fmod_lt_of_pos _ (by omega)
      generalize hs : (seed * 48271 + absI m + 1).fmod 2147483647 = seed2 at h2 h3
      rcases v4 with rfl | ⟨d4, rfl⟩ <;> (
        simp -dsimp [mulS h0 h1, pow18, hs]
        refine Br_mk (fun hb => ?_) fun hb => ?_
        · simp -dsimp
          refine ⟨by omega, by omega, ?_⟩
          refine drawsIn_spec (hacc.snoc2 (fmod_nn (by omega) (by omega)) (fmod_nn (by omega) (by omega))) (by omega) (by simp -dsimp; omega) v5 fun acc' num' x5' ha hx hv => ?_
          exact ⟨acc', seed2, _, _, _, rfl, ha, h2, h3, by simp -dsimp at hx ⊢; omega, Vl.val, Vl.val, hv, ms, rfl⟩
        · simp -dsimp
          refine drawsIn_spec hacc (by omega) (by omega) v5 fun acc' num' x5' ha hx hv => ?_
          exact ⟨acc', seed2, _, _, _, rfl, ha, h2, h3, by rw [List.length_map]; omega, Vl.val, Vl.val, hv, ms, rfl⟩)
  · rintro n ⟨acc, seed, x3, x4, x5, rfl, hacc, h0, h1, hlen, v3, v4, v5, ms, hms⟩
    rw [wp_sSeqO]
    refine drawsLastC_spec hc0 hc1 hacc h0 h1 (by omega) v5 fun acc' seed' x5' ha => ?_
    simp -dsimp
    exact hP _ ha.rev
end NL
end L2
namespace L2
namespace NL
open PySem PySem.Spec PyProof.Rows
theorem wps_try {i : Nat} {sub : Str → Str → Bool} {tbl known : List Str} {f : NStm} {n : NSt} {Nx : NSt → Prop} {Rt : PyData → NSt → Prop} {Bk Ct : NSt → Prop} (h : WpS (f n) Nx Rt Bk Ct) : WpS (sTryF i sub tbl known f n) Nx Rt Bk Ct := by
  unfold sTryF
  cases e : f n with
  | err x n' => rw [e] at h; exact h.out.elim
  | _ => rw [e] at h; exact h
theorem wp_pick {gs : List NExp} {fi : NExp} {fs : NSt → R (List AV)} {n : NSt} {P : PyData → NSt → Prop} : Wp (nPick gs fi fs n) P = Wp (fi n) fun d n1 => onI d fun i => 0 ≤ i ∧ onO gs[i.toNat]? fun g => Wp (nCall g fs n1) P := by
  unfold nPick
  rw [wp_bind]
  refine wp_ext fun d n1 => ?_
  cases d with
  | int i =>
    by_cases h : 0 ≤ i
    · simp -dsimp only [onI_int, h, if_pos, true_and]
      cases gs[i.toNat]? <;> first | exact wp_C | rfl
    · simp -dsimp only [onI_int, h, if_neg, not_false_iff, false_and]
      exact wp_C
  | _ => exact wp_C
end NL
end L2
/-! M10: dicts, whiles. -/
namespace L2
namespace NL
open PySem PySem.Spec PyProof.Rows
def itemsOf : PyData → Option (List PyData)
  | .dict kvs => some (dItems kvs)
  | _ => none
def dictOf : PyData → Option PyData
  | .list xs => (pairsOf xs).bind fun kvs => if distK kvs = true then some (.dict kvs) else none
  | _ => none
def dispOf (ks : List Str) (as : List AV) : Option PyData := (nTup.plains as).bind fun ds => if ds.length = ks.length ∧ distK ((ks.map PyData.str).zip ds) = true then some (.dict ((ks.map PyData.str).zip ds)) else none
def kvOf : PyData → Option (List (PyData × PyData))
  | .dict kvs => some kvs
  | _ => none
@[simp] theorem itemsOf_dict {kvs : List (PyData × PyData)} : itemsOf (.dict kvs) = some (dItems kvs) := id rfl
@[simp] theorem kvOf_dict {kvs : List (PyData × PyData)} : kvOf (.dict kvs) = some kvs := id rfl
section
variable {n : NSt} {i : Nat} {f : NExp} {p : Opd} {P : PyData → NSt → Prop} {Pd : List PyData → NSt → Prop} {Pl : List AV → NSt → Prop} {fs : NSt → R (List AV)} {t : NSt → R Bool} {Nx : NSt → Prop} {Rt : PyData → NSt → Prop} {Bk Ct : NSt → Prop}
@[simp ↓] theorem wp_iItm : Wp (iItm f n) Pd = Wp (f n) fun d n1 => onO (itemsOf d) fun xs => Pd xs n1 := by
  unfold iItm
  rw [wp_bind]
  refine wp_ext fun d n1 => ?_
  cases d <;> (first | rfl | exact wp_C | exact wps_C | simp -dsimp only [wp_C, wps_C, WpC, WpSC])
@[simp ↓] theorem wp_dictOf : Wp (nDictOf p n) P = Wp (p.run n) fun a n1 => onO (a.get n1) fun d => onO (dictOf d) fun z => P z n1 := by
  unfold nDictOf
  rw [wp_bind]
  refine wp_ext fun a n1 => ?_
  cases a.get n1 with
  | none => (first | rfl | exact wp_C | exact wps_C | simp -dsimp only [wp_C, wps_C, WpC, WpSC])
  | some d =>
    rw [onO_some]
    cases d with
    | list xs =>
      unfold dictOf
      dsimp only
      cases pairsOf xs with
      | none => (first | rfl | exact wp_C | exact wps_C | simp -dsimp only [wp_C, wps_C, WpC, WpSC])
      | some kvs =>
        dsimp only [Option.bind]
        by_cases h : distK kvs = true
        · rw [if_pos h, if_pos h]; (first | rfl | exact wp_C | exact wps_C | simp -dsimp only [wp_C, wps_C, WpC, WpSC])
        · rw [if_neg h, if_neg h]; (first | rfl | exact wp_C | exact wps_C | simp -dsimp only [wp_C, wps_C, WpC, WpSC])
    | _ => (first | rfl | exact wp_C | exact wps_C | simp -dsimp only [wp_C, wps_C, WpC, WpSC])
@[simp ↓] theorem wp_disp {ks : List Str} : Wp (nDisp ks fs n) P = Wp (fs n) fun as n1 => onO (dispOf ks as) fun z => P z n1 := by
  unfold nDisp
  rw [wp_bind]
  refine wp_ext fun as n1 => ?_
  unfold dispOf
  cases nTup.plains as with
  | none => (first | rfl | exact wp_C | exact wps_C | simp -dsimp only [wp_C, wps_C, WpC, WpSC])
  | some ds =>
    dsimp only [Option.bind]
    split <;> (first | rfl | exact wp_C | exact wps_C | simp -dsimp only [wp_C, wps_C, WpC, WpSC])
@[simp ↓] theorem wp_aStar : Wp (aStar p fs n) Pl = Wp (p.run n) fun a n1 => onO (seqA (a.get n1)) fun xs => Wp (fs n1) fun as n2 => Pl (xs.map .v ++ as) n2 := by
  unfold aStar
  rw [wp_bind]
  refine wp_ext fun a n1 => ?_
  cases seqA (a.get n1) with
  | none => (first | rfl | exact wp_C | exact wps_C | simp -dsimp only [wp_C, wps_C, WpC, WpSC])
  | some xs =>
    rw [onO_some]
    dsimp only
    rw [wp_bind]
    (first | rfl | exact wp_C | exact wps_C | simp -dsimp only [wp_C, wps_C, WpC, WpSC])
@[simp ↓] theorem wps_dictSet {k : Str} : WpS (sDictSet i p t k f n) Nx Rt Bk Ct = Wp (nDictOf p n) fun d n1 => onO (kvOf d) fun kvs => notLent n1 i = true ∧ kvs.length ≤ 1000 ∧ Wp (t (n1.set i none)) fun b n2 =>
    Br b (Wp (f n2) fun v n3 => freeSl n3 i = true ∧ Nx (n3.set i (some (.val (.dict (dPutP kvs (.str k) v)))))) (freeSl n2 i = true ∧ Nx (n2.set i (some (.val (.dict kvs))))) := by
  unfold sDictSet
  rw [wps_st]
  refine wp_ext fun d n1 => ?_
  cases d with
  | dict kvs =>
    rw [kvOf_dict, onO_some]
    dsimp only
    by_cases h : notLent n1 i = true ∧ kvs.length ≤ 1000
    · rw [if_pos h, wps_st]
      have e : ∀ X : Prop, (notLent n1 i = true ∧ kvs.length ≤ 1000 ∧ X) = X := fun X => propext ⟨fun z => z.2.2, fun z => ⟨h.1, h.2, z⟩⟩
      rw [e]
      refine wp_ext fun b n2 => ?_
      cases b with
      | true =>
        rw [if_pos rfl, Br_true, wps_st]
        refine wp_ext fun v n3 => ?_
        by_cases h3 : freeSl n3 i = true
        · rw [if_pos h3, wps_nx]; exact propext ⟨fun z => ⟨h3, z⟩, And.right⟩
        · rw [if_neg h3, wps_bad]; exact propext ⟨False.elim, fun z => h3 z.1⟩
      | false =>
        rw [if_neg (by decide), Br_false]
        by_cases h3 : freeSl n2 i = true
        · rw [if_pos h3, wps_nx]; exact propext ⟨fun z => ⟨h3, z⟩, And.right⟩
        · rw [if_neg h3, wps_bad]; exact propext ⟨False.elim, fun z => h3 z.1⟩
    · rw [if_neg h, wps_bad]
      exact propext ⟨False.elim, fun z => h ⟨z.1, z.2.1⟩⟩
  | _ => (first | rfl | exact wp_C | exact wps_C | simp -dsimp only [wp_C, wps_C, WpC, WpSC])
theorem wps_while {body : NStm} (I : Nat → NSt → Prop)
    (step : ∀ m n, I m n → Wp (t n) fun b n1 => if b = true then WpS (body n1) (fun n2 => ∃ m', m' < m ∧ I m' n2) Rt Nx (fun n2 => ∃ m', m' < m ∧ I m' n2) else Nx n1) : ∀ (k m : Nat) (n : NSt), m < k → I m n → WpS (sWhile k t body n) Nx Rt Bk Ct
  | 0, _, _, h, _ => by omega
  | k + 1, m, n, hk, h => by
    have s := step m n h
    show WpS ((t n).st fun b n1 => if b = true then (match body n1 with
      | .nx n2 => sWhile k t body n2
      | .ct n2 => sWhile k t body n2
      | .brk n2 => .nx n2
      | r => r) else .nx n1) Nx Rt Bk Ct
    rw [wps_st]
    refine wp_mono s fun b n1 s => ?_
    by_cases hb : b = true
    · rw [if_pos hb] at s ⊢
      cases e : body n1 with
      | nx n2 =>
        rw [e] at s
        obtain ⟨m', hm, i'⟩ := s
        exact wps_while I step k m' n2 (by omega) i'
      | ct n2 =>
        rw [e] at s
        obtain ⟨m', hm, i'⟩ := s
        exact wps_while I step k m' n2 (by omega) i'
      | brk n2 => rw [e] at s; exact ⟨s.out⟩
      | ret d n2 => rw [e] at s; exact ⟨s.out⟩
      | err x n2 => rw [e] at s; exact ⟨s.out⟩
      | bad => rw [e] at s; exact ⟨s.out⟩
    · rw [if_neg hb] at s ⊢
      exact ⟨s⟩
end
end NL
end L2
/-! M11: forgotten slots, plain words. -/
namespace L2
namespace NL
open PySem PySem.Spec PyProof.Rows
@[simp ↓] theorem wps_drop {vs : List Nat} {f : NStm} {n : NSt} {Nx : NSt → Prop} {Rt : PyData → NSt → Prop} {Bk Ct : NSt → Prop} : WpS (sDrop vs f n) Nx Rt Bk Ct = WpS (f n) (fun n' => Nx (dropN n' vs)) Rt Bk (fun n' => Ct (dropN n' vs)) := by
  unfold sDrop
  cases f n <;> (try simp -dsimp only [wp_C, wps_C]) <;> rfl
def drp (o : Option (Option Sl)) (n : NSt) (v : Nat) : NSt := match o with
  | some (some (.val _)) => n.set v none
  | some (some (.own _)) => n.set v none
  | _ => n
@[simp] theorem drp_val {d : PyData} {n : NSt} {v : Nat} : drp (some (some (.val d))) n v = n.set v none := id rfl
@[simp] theorem drp_own {d : List PyData} {n : NSt} {v : Nat} : drp (some (some (.own d))) n v = n.set v none := id rfl
@[simp] theorem drp_lent {d : List PyData} {n : NSt} {v : Nat} : drp (some (some (.lent d))) n v = n := id rfl
@[simp] theorem drp_scr {d : List PyData} {n : NSt} {v : Nat} : drp (some (some (.scr d))) n v = n := id rfl
@[simp] theorem drp_none {n : NSt} {v : Nat} : drp (some none) n v = n := id rfl
@[simp] theorem dropN_nil {n : NSt} : dropN n [] = n := id rfl
@[simp] theorem dropN_cons {n : NSt} {v : Nat} {vs : List Nat} : dropN n (v :: vs) = dropN (drp n[v]? n v) vs := by
  show dropN (drop1 n v) vs = _
  congr 1
theorem wps_dr {vs : List Nat} {f : NStm} {n : NSt} {Nx : NSt → Prop} {Rt : PyData → NSt → Prop} {Bk Ct : NSt → Prop} (h : WpS (f n) (fun n' => Nx (dropN n' vs)) Rt Bk (fun n' => Ct (dropN n' vs))) : WpS (sDrop vs f n) Nx Rt Bk Ct := by
  rw [wps_drop]
  exact h
theorem flat1 {x : PyData} : ∀ k : Nat, (List.replicate k [x]).flatten = List.replicate k x
  | 0 => rfl
  | k + 1 => by
    rw [List.replicate_succ, List.flatten_cons, flat1 k, List.replicate_succ]
    rfl
theorem oMul_rep {x : PyData} {k : Nat} (h : k ≤ 10000) : oMul (.list [x]) (.int (k : Int)) = some (.list (List.replicate k x)) := by
  have sz := sizeBig
  have e : oMul (.list [x]) (.int (k : Int)) = if -(2 ^ 63 : Int) ≤ (k : Int) ∧ (k : Int) < 2 ^ 63 ∧ [x].length * (k : Int).toNat ≤ sizeLine then some (.list (List.replicate (k : Int).toNat [x]).flatten) else none := id rfl
  have hl : [x].length = 1 := rfl
  rw [e, hl, Int.toNat_natCast, if_pos ⟨by omega, by omega, by omega⟩, flat1]
theorem sSeq_assoc {a b c : NStm} : sSeq (sSeq a b) c = sSeq a (sSeq b c) := by
  funext n
  unfold sSeq
  cases a n <;> rfl
theorem wps_cut2 {a b e : NStm} {n : NSt} {Nx : NSt → Prop} {Rt : PyData → NSt → Prop} {Bk Ct : NSt → Prop} (h : WpS (sSeq a b n) (fun n' => WpS (e n') Nx Rt Bk Ct) Rt Bk Ct) : WpS (sSeq a (sSeq b e) n) Nx Rt Bk Ct := by
  rw [show sSeq a (sSeq b e) = sSeq (sSeq a b) e by simp only [sSeq_assoc], wps_seq]
  exact h
theorem wps_cut3 {a b c e : NStm} {n : NSt} {Nx : NSt → Prop} {Rt : PyData → NSt → Prop} {Bk Ct : NSt → Prop} (h : WpS (sSeq a (sSeq b c) n) (fun n' => WpS (e n') Nx Rt Bk Ct) Rt Bk Ct) : WpS (sSeq a (sSeq b (sSeq c e)) n) Nx Rt Bk Ct := by
  rw [show sSeq a (sSeq b (sSeq c e)) = sSeq (sSeq a (sSeq b c)) e by simp only [sSeq_assoc], wps_seq]
  exact h
theorem wp_ex {α : Type} {r : R α} {a : α} (h : Wp r fun d _ => d = a) : ∃ n', r = .ok a n' := by
  obtain ⟨d, n, e, rfl⟩ := wp_get h
  exact ⟨n, e⟩
end NL
end L2
namespace L2
namespace NL
open PySem PySem.Spec PyProof.Rows
@[simp ↓] theorem wps_sBreak {n : NSt} {Nx : NSt → Prop} {Rt : PyData → NSt → Prop} {Bk Ct : NSt → Prop} : WpS (sBreak n) Nx Rt Bk Ct = Bk n := wps_C
theorem atI_0 {x : PyData} {xs : List PyData} : atI (x :: xs) 0 = some x := by
  unfold atI ixN
  rw [if_pos (by omega), if_pos (by simp -dsimp)]
  rfl
theorem atI_1 {x y : PyData} {xs : List PyData} : atI (x :: y :: xs) 1 = some y := by
  unfold atI ixN
  rw [if_pos (by omega), if_pos (by simp -dsimp; omega)]
  rfl
theorem atI_2 {x y z : PyData} {xs : List PyData} : atI (x :: y :: z :: xs) 2 = some z := by
  unfold atI ixN
  rw [if_pos (by omega), if_pos (by simp -dsimp; omega)]
  rfl
theorem atI_3 {x y z u : PyData} {xs : List PyData} : atI (x :: y :: z :: u :: xs) 3 = some u := by
  unfold atI ixN
  rw [if_pos (by omega), if_pos (by simp -dsimp; omega)]
  rfl
/-! naturals -/
def BIG : Nat := 2 ^ 4000
theorem big80 : 10 ^ 90 < BIG := by decide +kernel
theorem mulN {a b : Nat} (ha : a < BIG) (hb : b < BIG) : oMul (.int (a : Int)) (.int (b : Int)) = some (.int ((a * b : Nat) : Int)) := by
  have e : oMul (.int (a : Int)) (.int (b : Int)) = if CMul a b ∨ CMulW a b then some (.int ((a : Int) * b)) else none := id rfl
  rw [e, if_pos (.inr (wide_mul (a := 4000) (b := 4000) (by rw [Int.natAbs_natCast]; exact ha) (by rw [Int.natAbs_natCast]; exact hb) (by omega) (by omega) (by omega))), Int.natCast_mul]
theorem fdivN {a b : Nat} (h0 : 0 < b) (hb : b < BIG) : oFdiv (.int (a : Int)) (.int (b : Int)) = some (.int ((a / b : Nat) : Int)) := by
  have e : oFdiv (.int (a : Int)) (.int (b : Int)) = if CDivN a b then some (.int ((a : Int).fdiv b)) else if CDivW a b then some (.int ((a : Int).fdiv b)) else none := id rfl
  have e2 : (a : Int).fdiv b = ((a / b : Nat) : Int) := by rw [Int.fdiv_eq_ediv_of_nonneg _ (by omega), Int.natCast_ediv]
  rw [e, e2]
  split
  · rfl
  · rw [if_pos (wide_div (b := 4000) (by omega) (by rw [Int.natAbs_natCast]; exact hb) (by omega) (by omega))]
theorem modN {a b : Nat} (h0 : 0 < b) : oMod (.int (a : Int)) (.int (b : Int)) = some (.int ((a % b : Nat) : Int)) := by
  rw [oMod_int, if_pos (by omega), Int.fmod_eq_emod_of_nonneg _ (by omega), Int.natCast_emod]
theorem absN {a : Nat} : bAbs [.int (a : Int)] = some (.int (a : Int)) := by
  rw [bAbs_int]
  unfold absI
  rw [Int.natAbs_natCast]
/-- Euclid's measure -/
def EM (g m x y : Nat) : Prop := Nat.gcd x y = g ∧ ((y ≤ x ∧ x * y < 2 ^ m) ∨ (x < y ∧ 1 ≤ m ∧ x * y < 2 ^ (m - 1)))
theorem EM.step {g m x y : Nat} (h : EM g m x y) (hy : 0 < y) : 1 ≤ m ∧ EM g (m - 1) y (x % y) := by
  obtain ⟨hg, h⟩ := h
  have e : Nat.gcd y (x % y) = g := by rw [Nat.gcd_comm, ← Nat.gcd_rec, Nat.gcd_comm, hg]
  rcases h with ⟨h1, h2⟩ | ⟨h1, h2, h3⟩
  · have hm : 1 ≤ m := by
      rcases Nat.eq_zero_or_pos m with z | z
      · subst z
        have : 0 < x * y := Nat.mul_pos (by omega) hy
        omega
      · exact z
    have hlt := Nat.mod_lt x hy
    have hle : 2 * (x % y) ≤ x := by
      have : x % y = (x - y) % y := Nat.mod_eq_sub_mod h1
      have h5 := Nat.mod_le (x - y) y
      omega
    refine ⟨hm, e, .inl ⟨by omega, ?_⟩⟩
    have h4 : y * (2 * (x % y)) ≤ y * x := Nat.mul_le_mul_left _ hle
    have h6 : 2 ^ m = 2 * 2 ^ (m - 1) := by rw [← Nat.pow_succ']; congr 1; omega
    rw [Nat.mul_comm y x] at h4
    have h7 : y * (2 * (x % y)) = 2 * (y * (x % y)) := Nat.mul_left_comm _ _ _
    omega
  · refine ⟨h2, e, .inl ?_⟩
    rw [Nat.mod_eq_of_lt h1]
    exact ⟨by omega, by rw [Nat.mul_comm]; exact h3⟩
theorem EM.zero {g x y : Nat} (h : EM g 0 x y) : y = 0 := by
  obtain ⟨_, h | h⟩ := h
  · obtain ⟨h1, h2⟩ := h
    rcases Nat.eq_zero_or_pos y with z | z
    · exact z
    · have : 0 < x * y := Nat.mul_pos (by omega) z
      simp at h2
      omega
  · omega
theorem EM.start {a b m : Nat} (h : a * b < 2 ^ m) : EM (Nat.gcd a b) (m + 1) a b := by
  refine ⟨rfl, ?_⟩
  by_cases hb : b ≤ a
  · exact .inl ⟨hb, Nat.lt_of_lt_of_le h (Nat.pow_le_pow_right (by omega) (by omega))⟩
  · exact .inr ⟨by omega, by omega, h⟩
theorem EM.done {g m x : Nat} (h : EM g m x 0) : x = g := by
  have := h.1
  rwa [Nat.gcd_zero_right] at this
theorem lt300 {a b : Nat} (ha : a ≤ 10 ^ 44) (hb : b ≤ 10 ^ 44) : a * b < 2 ^ 300 := Nat.lt_of_le_of_lt (Nat.mul_le_mul ha hb) (by decide +kernel)
namespace Wlaw_k02
theorem szn : ∀ j : Nat, j ≤ 1000 → j ≤ sizeLine := fun j h => by have := sizeBig; omega
theorem e40 : D_35 = Take := rfl
theorem e41 : D_36 = Pick := rfl
theorem e42 : D_37 = Same := by
  funext k
  induction k with
  | zero => rfl
  | succ k ih =>
    show runD 4 (B_37 (D_37 k)) = runD 4 (sameB (Same k))
    rw [ih]
    rfl
def isN (v : PyData) : Bool := match v with
  | .int i => decide (0 ≤ i)
  | _ => false
theorem s7 (v : PyData) : D_7 [some (.val v)] = .ok (.bool (match v with | .int _ => true | _ => false)) [some (.val v)] := by
  apply wp_eq
  unfold D_7
  rw [wp_run]
  cases v <;> simp -dsimp [B_7, isTy]
theorem s11 (v : PyData) : D_11 [some (.val v)] = .ok (.bool (isN v)) [some (.val v)] := by
  apply wp_eq
  unfold D_11
  rw [wp_run]
  cases v <;> simp -dsimp [B_11, s7, isN]
theorem s9 {a b : Nat} (ha : a ≤ 10 ^ 44) (hb : b ≤ 10 ^ 44) : D_9 [some (.val (.int (a : Int))), some (.val (.int (b : Int)))] = .ok (.int (Nat.gcd a b : Nat)) [some (.val (.int (a : Int))), some (.val (.int (b : Int)))] := by
  apply wp_eq
  unfold D_9
  rw [wp_run]
  simp -dsimp [B_9, absN, -bAbs_int]
  refine wps_while (fun m n => ∃ x y : Nat, n = [some (.val (.int (x : Int))), some (.val (.int (y : Int)))] ∧ EM (Nat.gcd a b) m x y) ?_ 400 301 _ (by omega) ⟨a, b, rfl, EM.start (lt300 ha hb)⟩
  rintro m n ⟨x, y, rfl, hm⟩
  by_cases hy : 0 < y
  · obtain ⟨m1, hm2⟩ := hm.step hy
    have hy' : (0 : Int) < (y : Int) := by omega
    have hmod := modN (a := x) hy
    simp -dsimp only [wp_asB, wp_op2, wp_oo, wp_oe, wp_nC, List.getElem?_cons_succ, List.getElem?_cons_zero, onSl_val, get_v, onO_some, oGt_int, onB_bool, decide_eq_true hy']
    rw [if_pos True.intro]
    simp -dsimp [hmod, -oMod_int]
    exact ⟨m - 1, by omega, _, _, ⟨rfl, rfl⟩, hm2⟩
  · have : y = 0 := by omega
    subst this
    have := hm.done
    subst this
    simp -dsimp
theorem s44 {a b : Nat} (ha : a ≤ 10 ^ 44) (hb0 : 0 < b) (hb : b ≤ 10 ^ 44) : D_39 [some (.val (.int (a : Int))), some (.val (.int (b : Int)))] = .ok (.tuple [.int ((a / Nat.gcd a b : Nat) : Int), .int ((b / Nat.gcd a b : Nat) : Int)]) [some (.val (.int (a : Int))), some (.val (.int (b : Int)))] := by
  have sz := sizeBig
  have hg : 0 < Nat.gcd a b := Nat.gcd_pos_of_pos_right _ hb0
  have hgb : Nat.gcd a b ≤ b := Nat.gcd_le_right _ hb0
  have hgB : Nat.gcd a b < BIG := by have := big80; have : b < 10 ^ 90 := Nat.lt_of_le_of_lt hb (by decide +kernel); omega
  have f1 := fdivN (a := a) hg hgB
  have f2 := fdivN (a := b) hg hgB
  apply wp_eq
  unfold D_39
  rw [wp_run]
  simp -dsimp [B_39, absN, -bAbs_int]
  refine ⟨by decide, ?_⟩
  refine wps_forL (fun rem n => ∃ (x y m : Nat) (x4 : Option Sl), n = [some (.val (.int (a : Int))), some (.val (.int (b : Int))), some (.val (.int (x : Int))), some (.val (.int (y : Int))), x4] ∧ Vl x4 ∧ EM (Nat.gcd a b) m x y ∧ m ≤ rem.length) ?_ ?_ _ _ ⟨a, b, 301, none, rfl, Vl.none, EM.start (lt300 ha hb), by rw [rgD_len]; exact (by decide : 301 ≤ ((4000 : Int) - 0).toNat)⟩
  · rintro d rem n ⟨x, y, m, x4, rfl, v4, hm, hl⟩
    have hl : m ≤ rem.length + 1 := hl
    refine ⟨_, gN_vl (x := x4) rfl v4, ?_⟩
    by_cases hy : 0 < y
    · obtain ⟨m1, hm2⟩ := hm.step hy
      have hy' : ¬ y = 0 := by omega
      have hmod := modN (a := x) hy
      simp -dsimp [hy', hmod, -oMod_int]
      exact ⟨_, _, m - 1, _, ⟨rfl, rfl, rfl⟩, Vl.val, hm2, by omega⟩
    · have : y = 0 := by omega
      subst this
      have := hm.done
      subst this
      simp -dsimp [f1, f2]
      omega
  · rintro n ⟨x, y, m, x4, rfl, v4, hm, hl⟩
    have hm0 : m = 0 := by simpa using hl
    subst hm0
    have := hm.zero
    subst this
    have := hm.done
    subst this
    simp -dsimp [f1, f2]
    omega
end Wlaw_k02
end NL
end L2
namespace L2
namespace NL
open PySem PySem.Spec PyProof.Rows
namespace Wlaw_k02
/-! fractions of one whole -/
def Mm : Nat := 2329089562800
theorem Mm_pos : 0 < Mm := by decide
theorem Mm_le : Mm ≤ 10 ^ 13 := by decide
def F1 (k : Nat) : Nat := k / Nat.gcd k Mm
def F2 (k : Nat) : Nat := Mm / Nat.gcd k Mm
theorem gM_pos (k : Nat) : 0 < Nat.gcd k Mm := Nat.gcd_pos_of_pos_right _ Mm_pos
theorem F_of {a b k : Nat} (hb : 0 < b) (h : a * Mm = k * b) : a / Nat.gcd a b = F1 k ∧ b / Nat.gcd a b = F2 k := by
  have hM := Mm_pos
  have hg : 0 < Nat.gcd a b := Nat.gcd_pos_of_pos_right _ hb
  have hh := gM_pos k
  have e1 : Nat.gcd a b * Mm = Nat.gcd k Mm * b := by
    rw [← Nat.gcd_mul_right, ← Nat.gcd_mul_right, h, Nat.mul_comm b Mm]
  obtain ⟨a', ha⟩ := Nat.gcd_dvd_left a b
  obtain ⟨b', hb'⟩ := Nat.gcd_dvd_right a b
  obtain ⟨k', hk⟩ := Nat.gcd_dvd_left k Mm
  obtain ⟨m', hm⟩ := Nat.gcd_dvd_right k Mm
  generalize Nat.gcd a b = g at *
  have ea : a / g = a' := by rw [ha, Nat.mul_div_cancel_left _ hg]
  have eb : b / g = b' := by rw [hb', Nat.mul_div_cancel_left _ hg]
  unfold F1 F2
  generalize Nat.gcd k Mm = q at *
  have ek : k / q = k' := by rw [hk, Nat.mul_div_cancel_left _ hh]
  have em : Mm / q = m' := by rw [hm, Nat.mul_div_cancel_left _ hh]
  rw [ea, eb, ek, em]
  constructor
  · have : (g * Mm) * a' = (g * Mm) * k' := by
      calc (g * Mm) * a' = (g * a') * Mm := by rw [Nat.mul_right_comm]
        _ = a * Mm := by rw [← ha]
        _ = k * b := h
        _ = (q * k') * b := by rw [← hk]
        _ = (q * b) * k' := by rw [Nat.mul_right_comm]
        _ = (g * Mm) * k' := by rw [e1]
    exact Nat.eq_of_mul_eq_mul_left (Nat.mul_pos hg hM) this
  · have : (g * q) * b' = (g * q) * m' := by
      calc (g * q) * b' = q * (g * b') := by rw [Nat.mul_comm g q, Nat.mul_assoc]
        _ = q * b := by rw [← hb']
        _ = g * Mm := e1.symm
        _ = g * (q * m') := by rw [← hm]
        _ = (g * q) * m' := by rw [Nat.mul_assoc]
    exact Nat.eq_of_mul_eq_mul_left (Nat.mul_pos hg hh) this
theorem F_eq (k : Nat) : F1 k * Mm = k * F2 k := by
  have hh := gM_pos k
  obtain ⟨k', hk⟩ := Nat.gcd_dvd_left k Mm
  obtain ⟨m', hm⟩ := Nat.gcd_dvd_right k Mm
  unfold F1 F2
  generalize Nat.gcd k Mm = q at *
  have ek : k / q = k' := by rw [hk, Nat.mul_div_cancel_left _ hh]
  have em : Mm / q = m' := by rw [hm, Nat.mul_div_cancel_left _ hh]
  rw [ek, em]
  calc k' * Mm = k' * (q * m') := by rw [← hm]
    _ = (q * k') * m' := by rw [← Nat.mul_assoc, Nat.mul_comm k' q]
    _ = k * m' := by rw [← hk]
theorem F2_pos (k : Nat) : 0 < F2 k := Nat.div_pos (Nat.gcd_le_right _ Mm_pos) (gM_pos k)
theorem F2_le (k : Nat) : F2 k ≤ 10 ^ 13 := Nat.le_trans (Nat.div_le_self _ _) Mm_le
theorem F1_le (k : Nat) : F1 k ≤ k := Nat.div_le_self _ _
theorem F2_dvd (k : Nat) : F2 k ∣ Mm := Nat.div_dvd_of_dvd (Nat.gcd_dvd_right _ _)
theorem F_cop (k : Nat) : Nat.gcd (F1 k) (F2 k) = 1 := Nat.gcd_div_gcd_div_gcd_of_pos_right Mm_pos
/-- one fraction at most another -/
theorem F_le {k j : Nat} : F1 k * F2 j ≤ F1 j * F2 k ↔ k ≤ j := by
  have hM := Mm_pos
  have e1 := F_eq k
  have e2 := F_eq j
  have p1 := F2_pos k
  have p2 := F2_pos j
  generalize F1 k = x at *
  generalize F2 k = y at *
  generalize F1 j = u at *
  generalize F2 j = v at *
  have hp : 0 < y * v := Nat.mul_pos p1 p2
  have c1 : (x * v) * Mm = k * (y * v) := by rw [Nat.mul_right_comm, e1, Nat.mul_assoc]
  have c2 : (u * y) * Mm = j * (y * v) := by rw [Nat.mul_right_comm, e2, Nat.mul_assoc, Nat.mul_comm v y]
  constructor
  · intro h
    have : k * (y * v) ≤ j * (y * v) := by rw [← c1, ← c2]; exact Nat.mul_le_mul_right _ h
    exact Nat.le_of_mul_le_mul_right this hp
  · intro h
    have : (x * v) * Mm ≤ (u * y) * Mm := by rw [c1, c2]; exact Nat.mul_le_mul_right _ h
    exact Nat.le_of_mul_le_mul_right this hM
theorem F_lt {k j : Nat} : F1 k * F2 j < F1 j * F2 k ↔ k < j := by
  have := F_le (k := j) (j := k)
  omega
theorem F_round (k : Nat) : (2 * F1 k + F2 k) / (2 * F2 k) = (2 * k + Mm) / (2 * Mm) := by
  have hM := Mm_pos
  have e1 := F_eq k
  have p1 := F2_pos k
  generalize F1 k = x at *
  generalize F2 k = y at *
  have a1 : (2 * x + y) / (2 * y) = (Mm * (2 * x + y)) / (Mm * (2 * y)) := (Nat.mul_div_mul_left _ _ hM).symm
  have a2 : (2 * k + Mm) / (2 * Mm) = (y * (2 * k + Mm)) / (y * (2 * Mm)) := (Nat.mul_div_mul_left _ _ p1).symm
  rw [a1, a2]
  congr 1
  · rw [Nat.mul_add, Nat.mul_add, Nat.mul_left_comm Mm 2 x, Nat.mul_comm Mm x, e1, Nat.mul_left_comm y 2 k, Nat.mul_comm k y, Nat.mul_comm Mm y]
  · rw [Nat.mul_left_comm, Nat.mul_left_comm y 2 Mm, Nat.mul_comm Mm y]
theorem F_plus {k j : Nat} : (F1 k * F2 j + F1 j * F2 k) * Mm = (k + j) * (F2 k * F2 j) := by
  have e1 := F_eq k
  have e2 := F_eq j
  generalize F1 k = x at *
  generalize F2 k = y at *
  generalize F1 j = u at *
  generalize F2 j = v at *
  have c1 : (x * v) * Mm = k * (y * v) := by rw [Nat.mul_right_comm, e1, Nat.mul_assoc]
  have c2 : (u * y) * Mm = j * (y * v) := by rw [Nat.mul_right_comm, e2, Nat.mul_assoc, Nat.mul_comm v y]
  rw [Nat.add_mul, c1, c2, Nat.add_mul]
theorem F_frac {a b : Nat} (hb : 0 < b) (hd : b ∣ Mm) (hc : Nat.gcd a b = 1) : a = F1 (a * (Mm / b)) ∧ b = F2 (a * (Mm / b)) := by
  have h : a * Mm = (a * (Mm / b)) * b := by rw [Nat.mul_assoc, Nat.div_mul_cancel hd]
  have := F_of hb h
  rw [hc, Nat.div_one, Nat.div_one] at this
  exact this
def dF (k : Nat) : PyData := .tuple [.int (F1 k : Nat), .int (F2 k : Nat)]
theorem tupN {a b k : Nat} (hb : 0 < b) (h : a * Mm = k * b) : PyData.tuple [.int ((a / Nat.gcd a b : Nat) : Int), .int ((b / Nat.gcd a b : Nat) : Int)] = dF k := by
  obtain ⟨h1, h2⟩ := F_of hb h
  rw [h1, h2]
  rfl
theorem dF_part {a b : Nat} (hb : 0 < b) (hd : b ∣ Mm) (hc : Nat.gcd a b = 1) : PyData.tuple [.int (a : Int), .int (b : Int)] = dF (a * (Mm / b)) := by
  obtain ⟨h1, h2⟩ := F_frac hb hd hc
  unfold dF
  rw [← h1, ← h2]
theorem s44F {a b k : Nat} (ha : a ≤ 10 ^ 44) (hb0 : 0 < b) (hb : b ≤ 10 ^ 44) (h : a * Mm = k * b) : D_39 [some (.val (.int (a : Int))), some (.val (.int (b : Int)))] = .ok (dF k) [some (.val (.int (a : Int))), some (.val (.int (b : Int)))] := by
  rw [s44 ha hb0 hb, tupN hb0 h]
theorem s10F {a b k : Nat} (ha : a ≤ 10 ^ 44) (hb0 : 0 < b) (hb : b ≤ 10 ^ 44) (h : a * Mm = k * b) : D_10 [some (.val (.int (a : Int))), some (.val (.int (b : Int)))] = .ok (dF k) [some (.val (.int (a : Int))), some (.val (.int (b : Int)))] := by
  have hg : 0 < Nat.gcd a b := Nat.gcd_pos_of_pos_right _ hb0
  have hgb : Nat.gcd a b ≤ b := Nat.gcd_le_right _ hb0
  have hgB : Nat.gcd a b < BIG := by have := big80; have : b < 10 ^ 90 := Nat.lt_of_le_of_lt hb (by decide +kernel); omega
  have f1 := fdivN (a := a) hg hgB
  have f2 := fdivN (a := b) hg hgB
  have e9 := s9 ha hb
  rw [← tupN hb0 h]
  have sz := sizeBig
  apply wp_eq
  unfold D_10
  rw [wp_run]
  simp -dsimp [B_10, e9, f1, f2]
  omega
theorem lt_big {a : Nat} (h : a ≤ 10 ^ 89) : a < BIG := Nat.lt_of_le_of_lt h (Nat.lt_trans (by decide +kernel) big80)
theorem F1_big {k : Nat} (h : k ≤ 10 ^ 30) : F1 k < BIG := lt_big (Nat.le_trans (F1_le k) (Nat.le_trans h (by decide +kernel)))
theorem F2_big (k : Nat) : F2 k < BIG := lt_big (Nat.le_trans (F2_le k) (by decide +kernel))
theorem s45 {k j : Nat} (hk : k ≤ 10 ^ 30) (hj : j ≤ 10 ^ 30) : D_40 [some (.val (dF k)), some (.val (dF j))] = .ok (dF (k + j)) [some (.val (dF k)), some (.val (dF j))] := by
  have m1 := mulN (F1_big hk) (F2_big j)
  have m2 := mulN (F1_big hj) (F2_big k)
  have m3 := mulN (F2_big k) (F2_big j)
  have b1 : F1 k * F2 j ≤ 10 ^ 43 := Nat.le_trans (Nat.mul_le_mul (Nat.le_trans (F1_le k) hk) (F2_le j)) (by decide +kernel)
  have b2 : F1 j * F2 k ≤ 10 ^ 43 := Nat.le_trans (Nat.mul_le_mul (Nat.le_trans (F1_le j) hj) (F2_le k)) (by decide +kernel)
  have b3 : F2 k * F2 j ≤ 10 ^ 44 := Nat.le_trans (Nat.mul_le_mul (F2_le k) (F2_le j)) (by decide +kernel)
  have e := s44F (a := F1 k * F2 j + F1 j * F2 k) (b := F2 k * F2 j) (by omega) (Nat.mul_pos (F2_pos k) (F2_pos j)) b3 F_plus
  rw [Int.natCast_add] at e
  apply wp_eq
  unfold D_40
  rw [wp_run]
  unfold dF at e ⊢
  generalize F1 k * F2 j = p1 at *
  generalize F1 j * F2 k = p2 at *
  generalize F2 k * F2 j = p3 at *
  simp -dsimp [B_40, atI_0, atI_1, m1, m2, m3, e]
theorem s48 {k j : Nat} (hk : k ≤ 10 ^ 30) (hj : j ≤ 10 ^ 30) : D_43 [some (.val (dF k)), some (.val (dF j))] = .ok (.bool (decide (k ≤ j))) [some (.val (dF k)), some (.val (dF j))] := by
  have m1 := mulN (F1_big hk) (F2_big j)
  have m2 := mulN (F1_big hj) (F2_big k)
  have e : decide (k ≤ j) = decide (((F1 k * F2 j : Nat) : Int) ≤ ((F1 j * F2 k : Nat) : Int)) := by
    have := F_le (k := k) (j := j)
    rw [Bool.eq_iff_iff, decide_eq_true_iff, decide_eq_true_iff]
    omega
  rw [e]
  apply wp_eq
  unfold D_43
  rw [wp_run]
  unfold dF
  generalize F1 k * F2 j = p1 at *
  generalize F1 j * F2 k = p2 at *
  simp -dsimp [B_43, atI_0, atI_1, m1, m2]
def rnd (k : Nat) : Nat := (2 * k + Mm) / (2 * Mm)
theorem mul2 {a : Nat} (ha : a < BIG) : oMul (.int 2) (.int (a : Int)) = some (.int ((2 * a : Nat) : Int)) := mulN (a := 2) (lt_big (by decide +kernel)) ha
theorem s47 {ks : List Nat} (hl : ks.length ≤ 10) (hk : ∀ k ∈ ks, k ≤ 10 ^ 28) : D_42 [some (.val (.list (ks.map dF)))] = .ok (dF ks.sum) [some (.val (.list (ks.map dF)))] := by
  have sz := sizeBig
  have e0 : (PyData.tuple [.int 0, .int 1]) = dF 0 := rfl
  apply wp_eq
  unfold D_42
  rw [wp_run]
  simp -dsimp [B_42]
  rw [e0]
  refine ⟨by omega, ?_⟩
  refine wps_forL (fun rem n => ∃ (js : List Nat) (a : Nat) (x2 : Option Sl), rem = js.map dF ∧ n = [some (.val (.list (ks.map dF))), some (.val (dF a)), x2] ∧ Vl x2 ∧ a + js.sum = ks.sum ∧ a + js.length * 10 ^ 28 ≤ 10 * 10 ^ 28 ∧ ∀ k ∈ js, k ≤ 10 ^ 28) ?_ ?_ _ _ ⟨ks, 0, none, rfl, rfl, Vl.none, by omega, by rw [Nat.zero_add]; exact Nat.mul_le_mul_right _ hl, hk⟩
  · rintro d rem n ⟨js, a, x2, hj, rfl, v2, hs, hb, hm⟩
    cases js with
    | nil => cases hj
    | cons j js =>
      cases hj
      have hj := hm j List.mem_cons_self
      have hb' : a + (js.length + 1) * 10 ^ 28 ≤ 10 * 10 ^ 28 := hb
      have e1 : 10 * 10 ^ 28 ≤ 10 ^ 30 := by decide +kernel
      have e2 : 10 ^ 28 ≤ 10 ^ 30 := by decide +kernel
      have e := s45 (k := a) (j := j) (by omega) (by omega)
      refine ⟨_, gN_vl (x := x2) rfl v2, ?_⟩
      simp -dsimp [e]
      refine ⟨js, rfl, a + j, _, ⟨rfl, rfl⟩, Vl.val, ?_, by omega, fun k hk => hm k (List.mem_cons_of_mem _ hk)⟩
      rw [List.sum_cons] at hs
      omega
  · rintro n ⟨js, a, x2, hj, rfl, v2, hs, hb, hm⟩
    cases js with
    | cons j js => cases hj
    | nil =>
      simp -dsimp at hs ⊢
      rw [hs]
end Wlaw_k02
end NL
end L2
namespace L2
namespace NL
open PySem PySem.Spec PyProof.Rows
namespace Wlaw_k02
/-! duties -/
@[simp] theorem q_free_free : oEq (.str "free") (.str "free") = some (.bool true) := by kernel_rfl
@[simp] theorem q_free_value : oEq (.str "free") (.str "value") = some (.bool false) := by kernel_rfl
@[simp] theorem q_free_piece : oEq (.str "free") (.str "piece") = some (.bool false) := by kernel_rfl
@[simp] theorem q_free_weight : oEq (.str "free") (.str "weight") = some (.bool false) := by kernel_rfl
@[simp] theorem q_free_steps : oEq (.str "free") (.str "steps") = some (.bool false) := by kernel_rfl
@[simp] theorem q_free_most : oEq (.str "free") (.str "most") = some (.bool false) := by kernel_rfl
@[simp] theorem q_free_least : oEq (.str "free") (.str "least") = some (.bool false) := by kernel_rfl
@[simp] theorem q_free_sum : oEq (.str "free") (.str "sum") = some (.bool false) := by kernel_rfl
@[simp] theorem q_value_free : oEq (.str "value") (.str "free") = some (.bool false) := by kernel_rfl
@[simp] theorem q_value_value : oEq (.str "value") (.str "value") = some (.bool true) := by kernel_rfl
@[simp] theorem q_value_piece : oEq (.str "value") (.str "piece") = some (.bool false) := by kernel_rfl
@[simp] theorem q_value_weight : oEq (.str "value") (.str "weight") = some (.bool false) := by kernel_rfl
@[simp] theorem q_value_steps : oEq (.str "value") (.str "steps") = some (.bool false) := by kernel_rfl
@[simp] theorem q_value_most : oEq (.str "value") (.str "most") = some (.bool false) := by kernel_rfl
@[simp] theorem q_value_least : oEq (.str "value") (.str "least") = some (.bool false) := by kernel_rfl
@[simp] theorem q_value_sum : oEq (.str "value") (.str "sum") = some (.bool false) := by kernel_rfl
@[simp] theorem q_piece_free : oEq (.str "piece") (.str "free") = some (.bool false) := by kernel_rfl
@[simp] theorem q_piece_value : oEq (.str "piece") (.str "value") = some (.bool false) := by kernel_rfl
@[simp] theorem q_piece_piece : oEq (.str "piece") (.str "piece") = some (.bool true) := by kernel_rfl
@[simp] theorem q_piece_weight : oEq (.str "piece") (.str "weight") = some (.bool false) := by kernel_rfl
@[simp] theorem q_piece_steps : oEq (.str "piece") (.str "steps") = some (.bool false) := by kernel_rfl
@[simp] theorem q_piece_most : oEq (.str "piece") (.str "most") = some (.bool false) := by kernel_rfl
@[simp] theorem q_piece_least : oEq (.str "piece") (.str "least") = some (.bool false) := by kernel_rfl
@[simp] theorem q_piece_sum : oEq (.str "piece") (.str "sum") = some (.bool false) := by kernel_rfl
@[simp] theorem q_weight_free : oEq (.str "weight") (.str "free") = some (.bool false) := by kernel_rfl
@[simp] theorem q_weight_value : oEq (.str "weight") (.str "value") = some (.bool false) := by kernel_rfl
@[simp] theorem q_weight_piece : oEq (.str "weight") (.str "piece") = some (.bool false) := by kernel_rfl
@[simp] theorem q_weight_weight : oEq (.str "weight") (.str "weight") = some (.bool true) := by kernel_rfl
@[simp] theorem q_weight_steps : oEq (.str "weight") (.str "steps") = some (.bool false) := by kernel_rfl
@[simp] theorem q_weight_most : oEq (.str "weight") (.str "most") = some (.bool false) := by kernel_rfl
@[simp] theorem q_weight_least : oEq (.str "weight") (.str "least") = some (.bool false) := by kernel_rfl
@[simp] theorem q_weight_sum : oEq (.str "weight") (.str "sum") = some (.bool false) := by kernel_rfl
@[simp] theorem q_steps_free : oEq (.str "steps") (.str "free") = some (.bool false) := by kernel_rfl
@[simp] theorem q_steps_value : oEq (.str "steps") (.str "value") = some (.bool false) := by kernel_rfl
@[simp] theorem q_steps_piece : oEq (.str "steps") (.str "piece") = some (.bool false) := by kernel_rfl
@[simp] theorem q_steps_weight : oEq (.str "steps") (.str "weight") = some (.bool false) := by kernel_rfl
@[simp] theorem q_steps_steps : oEq (.str "steps") (.str "steps") = some (.bool true) := by kernel_rfl
@[simp] theorem q_steps_most : oEq (.str "steps") (.str "most") = some (.bool false) := by kernel_rfl
@[simp] theorem q_steps_least : oEq (.str "steps") (.str "least") = some (.bool false) := by kernel_rfl
@[simp] theorem q_steps_sum : oEq (.str "steps") (.str "sum") = some (.bool false) := by kernel_rfl
@[simp] theorem q_most_free : oEq (.str "most") (.str "free") = some (.bool false) := by kernel_rfl
@[simp] theorem q_most_value : oEq (.str "most") (.str "value") = some (.bool false) := by kernel_rfl
@[simp] theorem q_most_piece : oEq (.str "most") (.str "piece") = some (.bool false) := by kernel_rfl
@[simp] theorem q_most_weight : oEq (.str "most") (.str "weight") = some (.bool false) := by kernel_rfl
@[simp] theorem q_most_steps : oEq (.str "most") (.str "steps") = some (.bool false) := by kernel_rfl
@[simp] theorem q_most_most : oEq (.str "most") (.str "most") = some (.bool true) := by kernel_rfl
@[simp] theorem q_most_least : oEq (.str "most") (.str "least") = some (.bool false) := by kernel_rfl
@[simp] theorem q_most_sum : oEq (.str "most") (.str "sum") = some (.bool false) := by kernel_rfl
@[simp] theorem q_least_free : oEq (.str "least") (.str "free") = some (.bool false) := by kernel_rfl
@[simp] theorem q_least_value : oEq (.str "least") (.str "value") = some (.bool false) := by kernel_rfl
@[simp] theorem q_least_piece : oEq (.str "least") (.str "piece") = some (.bool false) := by kernel_rfl
@[simp] theorem q_least_weight : oEq (.str "least") (.str "weight") = some (.bool false) := by kernel_rfl
@[simp] theorem q_least_steps : oEq (.str "least") (.str "steps") = some (.bool false) := by kernel_rfl
@[simp] theorem q_least_most : oEq (.str "least") (.str "most") = some (.bool false) := by kernel_rfl
@[simp] theorem q_least_least : oEq (.str "least") (.str "least") = some (.bool true) := by kernel_rfl
@[simp] theorem q_least_sum : oEq (.str "least") (.str "sum") = some (.bool false) := by kernel_rfl
@[simp] theorem q_sum_free : oEq (.str "sum") (.str "free") = some (.bool false) := by kernel_rfl
@[simp] theorem q_sum_value : oEq (.str "sum") (.str "value") = some (.bool false) := by kernel_rfl
@[simp] theorem q_sum_piece : oEq (.str "sum") (.str "piece") = some (.bool false) := by kernel_rfl
@[simp] theorem q_sum_weight : oEq (.str "sum") (.str "weight") = some (.bool false) := by kernel_rfl
@[simp] theorem q_sum_steps : oEq (.str "sum") (.str "steps") = some (.bool false) := by kernel_rfl
@[simp] theorem q_sum_most : oEq (.str "sum") (.str "most") = some (.bool false) := by kernel_rfl
@[simp] theorem q_sum_least : oEq (.str "sum") (.str "least") = some (.bool false) := by kernel_rfl
@[simp] theorem q_sum_sum : oEq (.str "sum") (.str "sum") = some (.bool true) := by kernel_rfl
@[simp] theorem i_free_u : oIn (.str "free") (.tuple [.str "piece", .str "weight"]) = some (.bool false) := by kernel_rfl
@[simp] theorem i_free_ul : oIn (.str "free") (.list [.str "piece", .str "weight"]) = some (.bool false) := by kernel_rfl
@[simp] theorem i_free_g : oIn (.str "free") (.tuple [.str "most", .str "least", .str "sum"]) = some (.bool false) := by kernel_rfl
@[simp] theorem i_free_gl : oIn (.str "free") (.list [.str "most", .str "least", .str "sum"]) = some (.bool false) := by kernel_rfl
@[simp] theorem i_value_u : oIn (.str "value") (.tuple [.str "piece", .str "weight"]) = some (.bool false) := by kernel_rfl
@[simp] theorem i_value_ul : oIn (.str "value") (.list [.str "piece", .str "weight"]) = some (.bool false) := by kernel_rfl
@[simp] theorem i_value_g : oIn (.str "value") (.tuple [.str "most", .str "least", .str "sum"]) = some (.bool false) := by kernel_rfl
@[simp] theorem i_value_gl : oIn (.str "value") (.list [.str "most", .str "least", .str "sum"]) = some (.bool false) := by kernel_rfl
@[simp] theorem i_piece_u : oIn (.str "piece") (.tuple [.str "piece", .str "weight"]) = some (.bool true) := by kernel_rfl
@[simp] theorem i_piece_ul : oIn (.str "piece") (.list [.str "piece", .str "weight"]) = some (.bool true) := by kernel_rfl
@[simp] theorem i_piece_g : oIn (.str "piece") (.tuple [.str "most", .str "least", .str "sum"]) = some (.bool false) := by kernel_rfl
@[simp] theorem i_piece_gl : oIn (.str "piece") (.list [.str "most", .str "least", .str "sum"]) = some (.bool false) := by kernel_rfl
@[simp] theorem i_weight_u : oIn (.str "weight") (.tuple [.str "piece", .str "weight"]) = some (.bool true) := by kernel_rfl
@[simp] theorem i_weight_ul : oIn (.str "weight") (.list [.str "piece", .str "weight"]) = some (.bool true) := by kernel_rfl
@[simp] theorem i_weight_g : oIn (.str "weight") (.tuple [.str "most", .str "least", .str "sum"]) = some (.bool false) := by kernel_rfl
@[simp] theorem i_weight_gl : oIn (.str "weight") (.list [.str "most", .str "least", .str "sum"]) = some (.bool false) := by kernel_rfl
@[simp] theorem i_steps_u : oIn (.str "steps") (.tuple [.str "piece", .str "weight"]) = some (.bool false) := by kernel_rfl
@[simp] theorem i_steps_ul : oIn (.str "steps") (.list [.str "piece", .str "weight"]) = some (.bool false) := by kernel_rfl
@[simp] theorem i_steps_g : oIn (.str "steps") (.tuple [.str "most", .str "least", .str "sum"]) = some (.bool false) := by kernel_rfl
@[simp] theorem i_steps_gl : oIn (.str "steps") (.list [.str "most", .str "least", .str "sum"]) = some (.bool false) := by kernel_rfl
@[simp] theorem i_most_u : oIn (.str "most") (.tuple [.str "piece", .str "weight"]) = some (.bool false) := by kernel_rfl
@[simp] theorem i_most_ul : oIn (.str "most") (.list [.str "piece", .str "weight"]) = some (.bool false) := by kernel_rfl
@[simp] theorem i_most_g : oIn (.str "most") (.tuple [.str "most", .str "least", .str "sum"]) = some (.bool true) := by kernel_rfl
@[simp] theorem i_most_gl : oIn (.str "most") (.list [.str "most", .str "least", .str "sum"]) = some (.bool true) := by kernel_rfl
@[simp] theorem i_least_u : oIn (.str "least") (.tuple [.str "piece", .str "weight"]) = some (.bool false) := by kernel_rfl
@[simp] theorem i_least_ul : oIn (.str "least") (.list [.str "piece", .str "weight"]) = some (.bool false) := by kernel_rfl
@[simp] theorem i_least_g : oIn (.str "least") (.tuple [.str "most", .str "least", .str "sum"]) = some (.bool true) := by kernel_rfl
@[simp] theorem i_least_gl : oIn (.str "least") (.list [.str "most", .str "least", .str "sum"]) = some (.bool true) := by kernel_rfl
@[simp] theorem i_sum_u : oIn (.str "sum") (.tuple [.str "piece", .str "weight"]) = some (.bool false) := by kernel_rfl
@[simp] theorem i_sum_ul : oIn (.str "sum") (.list [.str "piece", .str "weight"]) = some (.bool false) := by kernel_rfl
@[simp] theorem i_sum_g : oIn (.str "sum") (.tuple [.str "most", .str "least", .str "sum"]) = some (.bool true) := by kernel_rfl
@[simp] theorem i_sum_gl : oIn (.str "sum") (.list [.str "most", .str "least", .str "sum"]) = some (.bool true) := by kernel_rfl
inductive Grp
  | most | least | sum
inductive Duty
  | free
  | value (a b : Nat)
  | unit (w : Bool) (n : Nat)
  | steps (ss : List (Nat × Nat × Nat))
  | group (g : Grp) (ds : List Duty)
def gS : Grp → Str
  | .most => "most"
  | .least => "least"
  | .sum => "sum"
def dPt (p : Nat × Nat) : PyData := .tuple [.int (p.1 : Int), .int (p.2 : Int)]
def dSt (s : Nat × Nat × Nat) : PyData := .tuple [.int (s.1 : Int), dPt s.2]
mutual
def dD : Duty → PyData
  | .free => .tuple [.str "free"]
  | .value a b => .tuple [.str "value", .int (a : Int), .int (b : Int)]
  | .unit w n => .tuple [.str (if w then "weight" else "piece"), .int (n : Int)]
  | .steps ss => .tuple [.str "steps", .tuple (ss.map dSt)]
  | .group g ds => .tuple [.str (gS g), .tuple (dDs ds)]
def dDs : List Duty → List PyData
  | [] => []
  | d :: ds => dD d :: dDs ds
end
theorem dDs_map : ∀ ds : List Duty, dDs ds = ds.map dD
  | [] => by unfold dDs; rfl
  | d :: ds => by unfold dDs; rw [dDs_map ds]; rfl
theorem dD_free : dD .free = .tuple [.str "free"] := by unfold dD; rfl
theorem dD_value {a b : Nat} : dD (.value a b) = .tuple [.str "value", .int (a : Int), .int (b : Int)] := by unfold dD; rfl
theorem dD_piece {n : Nat} : dD (.unit false n) = .tuple [.str "piece", .int (n : Int)] := by unfold dD; rfl
theorem dD_weight {n : Nat} : dD (.unit true n) = .tuple [.str "weight", .int (n : Int)] := by unfold dD; rfl
theorem dD_steps {ss : List (Nat × Nat × Nat)} : dD (.steps ss) = .tuple [.str "steps", .tuple (ss.map dSt)] := by unfold dD; rfl
theorem dD_group {g : Grp} {ds : List Duty} : dD (.group g ds) = .tuple [.str (gS g), .tuple (ds.map dD)] := by unfold dD; rw [dDs_map]
/-- right ratios -/
structure GRt (a b : Nat) : Prop where
  cop : Nat.gcd a b = 1
  pos : 0 < b
  dvd : b ∣ Mm
  a40 : a ≤ 40
  b30 : b ≤ 30
structure GSt (ss : List (Nat × Nat × Nat)) : Prop where
  ne : ss ≠ []
  len : ss.length ≤ 4
  rt : ∀ s ∈ ss, GRt s.2.1 s.2.2
  zero : (ss.map (·.1)).head? = some 0
  asc : ss.Pairwise fun s t => s.1 < t.1
  bd : ∀ s ∈ ss, s.1 ≤ 10000
def GD : Nat → Duty → Prop
  | 0, _ => False
  | _ + 1, .free => True
  | _ + 1, .value a b => GRt a b
  | _ + 1, .unit _ n => n ≤ 200
  | _ + 1, .steps ss => GSt ss
  | n + 1, .group _ ds => ds ≠ [] ∧ ds.length ≤ 3 ∧ ∀ d ∈ ds, GD n d
theorem GD.mono : ∀ {n m : Nat} {d : Duty}, n ≤ m → GD n d → GD m d
  | 0, _, _, _, h => h.elim
  | n + 1, 0, _, hm, _ => by omega
  | n + 1, m + 1, d, hm, h => by
    cases d with
    | group g ds => exact ⟨h.1, h.2.1, fun d hd => GD.mono (by omega) (h.2.2 d hd)⟩
    | free => exact h
    | value a b => exact h
    | unit w k => exact h
    | steps ss => exact h
def maxN : List Nat → Nat
  | [] => 0
  | [x] => x
  | x :: y :: r => max x (maxN (y :: r))
def minN : List Nat → Nat
  | [] => 0
  | [x] => x
  | x :: y :: r => min x (minN (y :: r))
def nI (k : Nat) : PyData := .int (k : Int)
theorem maxN_L : ∀ ks : List Nat, maxL (ks.map fun (k : Nat) => (k : Int)) = (maxN ks : Nat)
  | [] => rfl
  | [x] => rfl
  | x :: y :: r => by
    have := maxN_L (y :: r)
    show max (x : Int) (maxL ((y :: r).map fun (k : Nat) => (k : Int))) = _
    rw [this, show maxN (x :: y :: r) = max x (maxN (y :: r)) from rfl]
    omega
theorem minN_L : ∀ ks : List Nat, minL (ks.map fun (k : Nat) => (k : Int)) = (minN ks : Nat)
  | [] => rfl
  | [x] => rfl
  | x :: y :: r => by
    have := minN_L (y :: r)
    show min (x : Int) (minL ((y :: r).map fun (k : Nat) => (k : Int))) = _
    rw [this, show minN (x :: y :: r) = min x (minN (y :: r)) from rfl]
    omega
theorem map_nI (ks : List Nat) : ks.map nI = (ks.map fun (k : Nat) => (k : Int)).map .int := by
  rw [List.map_map]
  rfl
theorem bMaxN {ks : List Nat} (h : ks ≠ []) : bMax [.list (ks.map nI)] = some (nI (maxN ks)) := by
  rw [map_nI]
  show ((intsOf _).bind fun ns => if ns = [] then none else some (PyData.int (maxL ns))) = _
  rw [intsOf_map]
  show (if _ = [] then none else _) = _
  rw [if_neg (by simpa using h), maxN_L]
  rfl
theorem bMinN {ks : List Nat} (h : ks ≠ []) : bMin [.list (ks.map nI)] = some (nI (minN ks)) := by
  rw [map_nI]
  show ((intsOf _).bind fun ns => if ns = [] then none else some (PyData.int (minL ns))) = _
  rw [intsOf_map]
  show (if _ = [] then none else _) = _
  rw [if_neg (by simpa using h), minN_L]
  rfl
theorem sum_cast : ∀ ks : List Nat, (ks.map fun (k : Nat) => (k : Int)).sum = (ks.sum : Nat)
  | [] => rfl
  | k :: ks => by
    rw [List.map_cons, List.sum_cons, List.sum_cons, sum_cast ks]
    omega
theorem bSumN {ks : List Nat} : bSum [.list (ks.map nI)] = some (nI ks.sum) := by
  rw [map_nI, sum_map_int, sum_cast]
  rfl
def comb : Grp → List Nat → Nat
  | .most, ks => maxN ks
  | .least, ks => minN ks
  | .sum, ks => ks.sum
/-- so many times what steps ask -/
def stK (W v : Nat) : List (Nat × Nat × Nat) → Nat
  | [] => 0
  | [s] => (v - s.1) * (W / s.2.2) * s.2.1
  | s :: t :: r => (min v t.1 - s.1) * (W / s.2.2) * s.2.1 + stK W v (t :: r)
structure Gd where
  v : Nat
  p : Nat
  w : Nat
def dG (g : Gd) : PyData := .tuple [nI g.v, nI g.p, nI g.w]
structure GG (g : Gd) : Prop where
  v : g.v ≤ 2 * 10 ^ 9
  p : g.p ≤ 1000
  w : g.w ≤ 1000
def kd (W : Nat) (g : Gd) : Nat → Duty → Nat
  | 0, _ => 0
  | _ + 1, .free => 0
  | _ + 1, .value a b => g.v * a * (W / b)
  | _ + 1, .unit w n => n * W * (if w then g.w else g.p)
  | _ + 1, .steps ss => stK W g.v ss
  | n + 1, .group c ds => comb c (ds.map (kd W g n))
end Wlaw_k02
end NL
end L2
namespace L2
namespace NL
open PySem PySem.Spec PyProof.Rows
namespace Wlaw_k02
/-! what steps ask, the program's way -/
theorem gT3 {i j k l : Nat} {at_ a b c : PyData} {n : NSt} : gT (gCons' (gN i) (gCons' (gT (gCons' (gN j) (gCons' (gT (gCons' (gN k) (gCons' (gN l) gNil'))) gNil'))) gNil')) (.tuple [at_, .tuple [a, .tuple [b, c]]]) n = (gN i at_ n).bind fun n1 => (gN j a n1).bind fun n2 => (gN k b n2).bind fun n3 => gN l c n3 := by
  show ((gN i at_ n).bind fun n1 => (((gN j a n1).bind fun n2 => (((gN k b n2).bind fun n3 => (gN l c n3).bind fun n4 => some n4).bind fun n5 => some n5)).bind fun n6 => some n6)) = _
  cases gN i at_ n with
  | none => rfl
  | some n1 =>
    show ((gN j a n1).bind _).bind _ = (gN j a n1).bind _
    cases gN j a n1 with
    | none => rfl
    | some n2 =>
      show (((gN k b n2).bind _).bind _).bind _ = (gN k b n2).bind _
      cases gN k b n2 with
      | none => rfl
      | some n3 =>
        show (((gN l c n3).bind _).bind _).bind _ = gN l c n3
        cases gN l c n3 <;> rfl
theorem max0 {a b : Nat} : max (0 : Int) ((a : Int) - b) = ((a - b : Nat) : Int) := by omega
theorem minC {a b : Nat} : min (a : Int) (b : Int) = ((min a b : Nat) : Int) := by omega
theorem enumD_snoc : ∀ {k : Nat} {xs : List PyData} {x : PyData} {r : List PyData}, enumD k (xs ++ x :: r) = enumD k xs ++ .tuple [.int ((k + xs.length : Nat) : Int), x] :: enumD (k + xs.length + 1) r
  | k, [], x, r => rfl
  | k, y :: xs, x, r => by
    show PyData.tuple [.int (k : Int), y] :: enumD (k + 1) (xs ++ x :: r) = _
    rw [enumD_snoc]
    have e : k + 1 + xs.length = k + (y :: xs).length := by rw [List.length_cons]; omega
    rw [e]
    rfl
theorem getE {xs : List PyData} {x : PyData} {r : List PyData} : atI (xs ++ x :: r) (xs.length : Int) = some x := by
  rw [atI_nat2, List.getElem?_append_right (Nat.le_refl _), Nat.sub_self]
  rfl
def sFst (s : Nat × Nat × Nat) : Nat := s.1
def en2 (as : List AV) : Option (List PyData) := match as with
  | [.v (.list xs)] => some (enumD 0 xs)
  | [.v (.tuple xs)] => some (enumD 0 xs)
  | _ => none
@[simp] theorem en2_list {xs : List PyData} : en2 [.v (.list xs)] = some (enumD 0 xs) := id rfl
@[simp] theorem en2_tuple {xs : List PyData} : en2 [.v (.tuple xs)] = some (enumD 0 xs) := id rfl
@[simp ↓] theorem wp_iEn2 {n : NSt} {P : List PyData → NSt → Prop} {fs : NSt → R (List AV)} : Wp (iEn2 fs n) P = Wp (fs n) fun as n' => onO (en2 as) fun xs => P xs n' := by
  unfold iEn2
  rw [wp_bind]
  refine wp_ext fun as n' => ?_
  unfold en2
  split <;> simp -dsimp
theorem stK_cons {W v : Nat} {s t : Nat × Nat × Nat} {r : List (Nat × Nat × Nat)} : stK W v (s :: t :: r) = (min v t.1 - s.1) * (W / s.2.2) * s.2.1 + stK W v (t :: r) := rfl
theorem stK_one {W v : Nat} {s : Nat × Nat × Nat} : stK W v [s] = (v - s.1) * (W / s.2.2) * s.2.1 := rfl
theorem s25 {ss : List (Nat × Nat × Nat)} (h : ∀ s ∈ ss, GRt s.2.1 s.2.2) (hl : ss.length ≤ 4) {v W : Nat} (hv : v ≤ 10 ^ 10) (hW : W ≤ 10 ^ 26) :
    D_24 [some (.val (.tuple (ss.map dSt))), some (.val (nI v)), some (.val (nI W))] = .ok (nI (stK W v ss)) [some (.val (.tuple (ss.map dSt))), some (.val (nI v)), some (.val (nI W))] := by
  apply wp_eq
  unfold D_24
  rw [wp_run]
  unfold nI
  have e3 : gN 3 (PyData.int 0) [some (Sl.val (PyData.tuple (List.map dSt ss))), some (Sl.val (PyData.int ↑v)), some (Sl.val (PyData.int ↑W)), none, none, none, none, none, none] = some [some (Sl.val (PyData.tuple (List.map dSt ss))), some (Sl.val (PyData.int ↑v)), some (Sl.val (PyData.int ↑W)), some (.val (.int 0)), none, none, none, none, none] := rfl
  simp -dsimp [B_24, e3, -gN_eq]
  refine wps_forL (fun rem n => ∃ (pre todo : List (Nat × Nat × Nat)) (acc : Nat) (x4 x5 x6 x7 x8 : Option Sl), rem = enumD pre.length (todo.map dSt) ∧ ss = pre ++ todo ∧ n = [some (.val (.tuple (ss.map dSt))), some (.val (.int (v : Int))), some (.val (.int (W : Int))), some (.val (.int (acc : Int))), x4, x5, x6, x7, x8] ∧ Vl x4 ∧ Vl x5 ∧ Vl x6 ∧ Vl x7 ∧ Vl x8 ∧ acc + stK W v todo = stK W v ss)
    ?_ ?_ _ _ ⟨[], ss, 0, none, none, none, none, none, rfl, rfl, rfl, Vl.none, Vl.none, Vl.none, Vl.none, Vl.none, by omega⟩
  · rintro d rem n ⟨pre, todo, acc, x4, x5, x6, x7, x8, hr, hs, rfl, v4, v5, v6, v7, v8, ha⟩
    cases todo with
    | nil => cases hr
    | cons s todo =>
      cases hr
      obtain ⟨s1, s2, s3⟩ := s
      have hg := h (s1, s2, s3) (by rw [hs]; simp)
      have hb0 : 0 < s3 := hg.pos
      refine ⟨[some (.val (.tuple (ss.map dSt))), some (.val (.int (v : Int))), some (.val (.int (W : Int))), some (.val (.int (acc : Int))), some (.val (.int (pre.length : Int))), some (.val (.int (s1 : Int))), some (.val (.int (s2 : Int))), some (.val (.int (s3 : Int))), x8], ?_, ?_⟩
      · unfold dSt dPt
        rw [gT3, gN_vl (x := x4) rfl v4]
        show (gN 5 _ _).bind _ = _
        rw [gN_vl (x := x5) rfl v5]
        show (gN 6 _ _).bind _ = _
        rw [gN_vl (x := x6) rfl v6]
        show gN 7 _ _ = _
        rw [gN_vl (x := x7) rfl v7]
        rfl
      · have hfd := fdivN (a := W) hb0 (lt_big (by have := hg.b30; have : 30 ≤ 10 ^ 89 := (by decide +kernel); simp only at *; omega))
        have hWd : W / s3 ≤ 10 ^ 26 := Nat.le_trans (Nat.div_le_self _ _) hW
        have e8 : ∀ b : PyData, gN 8 b [some (.val (.tuple (ss.map dSt))), some (.val (.int (v : Int))), some (.val (.int (W : Int))), some (.val (.int (acc : Int))), some (.val (.int (pre.length : Int))), some (.val (.int (s1 : Int))), some (.val (.int (s2 : Int))), some (.val (.int (s3 : Int))), x8] = some [some (.val (.tuple (ss.map dSt))), some (.val (.int (v : Int))), some (.val (.int (W : Int))), some (.val (.int (acc : Int))), some (.val (.int (pre.length : Int))), some (.val (.int (s1 : Int))), some (.val (.int (s2 : Int))), some (.val (.int (s3 : Int))), some (.val b)] := fun b => gN_vl (x := x8) rfl v8
        have hlen : ss.length = pre.length + (todo.length + 1) := by rw [hs, List.length_append]; rfl
        have m1 : ∀ b : Nat, b ≤ v → oMul (.int ((b - s1 : Nat) : Int)) (.int ((W / s3 : Nat) : Int)) = some (.int (((b - s1) * (W / s3) : Nat) : Int)) := fun b hb => mulN (lt_big (by have : 10 ^ 10 ≤ 10 ^ 89 := (by decide +kernel); omega)) (lt_big (by have : 10 ^ 26 ≤ 10 ^ 89 := (by decide +kernel); omega))
        have m2 : ∀ b : Nat, b ≤ v → oMul (.int (((b - s1) * (W / s3) : Nat) : Int)) (.int (s2 : Int)) = some (.int (((b - s1) * (W / s3) * s2 : Nat) : Int)) := fun b hb => mulN (lt_big (by
          have h1 : (b - s1) * (W / s3) ≤ 10 ^ 10 * 10 ^ 26 := Nat.mul_le_mul (by omega) hWd
          have : 10 ^ 10 * 10 ^ 26 ≤ 10 ^ 89 := (by decide +kernel)
          omega)) (lt_big (by have := hg.a40; have : 40 ≤ 10 ^ 89 := (by decide +kernel); simp only at *; omega))
        cases todo with
        | nil =>
          have hz : (pre.length : Int) + 1 = (ss.length : Int) := by rw [hlen]; simp
          have hmx : max (0 : Int) ((v : Int) - s1) = ((v - s1 : Nat) : Int) := max0
          have hm1 := m1 v (Nat.le_refl _)
          have hm2 := m2 v (Nat.le_refl _)
          rw [stK_one] at ha
          simp only at ha
          generalize W / s3 = q at *
          generalize hvs : v - s1 = u at *
          generalize u * q = p1 at *
          generalize p1 * s2 = p2 at *
          simp -dsimp [hz, e8, hmx, hfd, hm1, hm2, -gN_eq]
          exact ⟨ss, [], rfl, by simp, acc + p2, _, _, _, _, _, ⟨by omega, rfl, rfl, rfl, rfl, rfl⟩, Vl.val, Vl.val, Vl.val, Vl.val, Vl.val, by show acc + p2 + 0 = _; omega⟩
        | cons t todo =>
          have hz : ¬ (pre.length : Int) + 1 = (ss.length : Int) := by rw [hlen]; simp; omega
          have hix : atI (ss.map dSt) ((pre.length : Int) + 1) = some (dSt t) := by
            have e : (ss.map dSt) = (pre ++ [(s1, s2, s3)]).map dSt ++ dSt t :: todo.map dSt := by rw [hs]; simp
            have e2 : (pre.length : Int) + 1 = (((pre ++ [(s1, s2, s3)]).map dSt).length : Int) := by simp
            rw [e, e2]
            exact getE
          obtain ⟨t1, t2⟩ := t
          have hdt : oIx (dSt (t1, t2)) (.int 0) = some (.int (t1 : Int)) := rfl
          have hmn : min (v : Int) (t1 : Int) = ((min v t1 : Nat) : Int) := minC
          have hmx : max (0 : Int) (((min v t1 : Nat) : Int) - s1) = ((min v t1 - s1 : Nat) : Int) := max0
          have hm1 := m1 (min v t1) (Nat.min_le_left _ _)
          have hm2 := m2 (min v t1) (Nat.min_le_left _ _)
          rw [stK_cons] at ha
          simp only at ha
          generalize W / s3 = q at *
          generalize min v t1 = mv at *
          generalize hvs : mv - s1 = u at *
          generalize u * q = p1 at *
          generalize p1 * s2 = p2 at *
          simp -dsimp [hz, e8, hix, hdt, hmn, hmx, hfd, hm1, hm2, -gN_eq]
          exact ⟨pre ++ [(s1, s2, s3)], (t1, t2) :: todo, by simp, by rw [hs]; simp, acc + p2, _, _, _, _, _, ⟨by omega, rfl, rfl, rfl, rfl, rfl⟩, Vl.val, Vl.val, Vl.val, Vl.val, Vl.val, by omega⟩
  · rintro n ⟨pre, todo, acc, x4, x5, x6, x7, x8, hr, hs, rfl, v4, v5, v6, v7, v8, ha⟩
    cases todo with
    | cons s todo => cases hr
    | nil =>
      have ha : acc + 0 = stK W v ss := ha
      simp -dsimp
      omega
end Wlaw_k02
end NL
end L2
namespace L2
namespace NL
open PySem PySem.Spec PyProof.Rows
/-! comprehensions over what is told of rows of any kind -/
theorem lcL_map {α : Type} {g : PyData → NSt → Option NSt} {t : NSt → R Bool} {f : NExp} {vs : List Nat} {n : NSt} (e G : α → PyData) (p : α → Bool) : ∀ (xs : List α) (acc : List PyData),
    (∀ x ∈ xs, ∃ n1, g (e x) n = some n1 ∧ t n1 = .ok (p x) n1 ∧ (p x = true → f n1 = .ok (G x) n1) ∧ wipeN n1 vs = n) → acc.length + xs.length ≤ sizeLine → nLcL g t f vs (xs.map e) acc n = .ok (acc ++ (xs.filter p).map G) n
  | [], acc, _, _ => by
    show nLcL g t f vs [] acc n = _
    unfold nLcL
    simp -dsimp
  | x :: xs, acc, h, hl => by
    obtain ⟨n1, he, et, ef, ew⟩ := h x List.mem_cons_self
    have hl : acc.length + (xs.length + 1) ≤ sizeLine := hl
    show nLcL g t f vs (e x :: xs.map e) acc n = _
    unfold nLcL
    rw [he]
    dsimp only
    rw [et]
    show (if p x = true then (f n1).bind fun y n3 => if acc.length < sizeLine then nLcL g t f vs (xs.map e) (acc ++ [y]) (wipeN n3 vs) else .bad else nLcL g t f vs (xs.map e) acc (wipeN n1 vs)) = _
    by_cases hp : p x = true
    · rw [if_pos hp, ef hp]
      show (if acc.length < sizeLine then nLcL g t f vs (xs.map e) (acc ++ [G x]) (wipeN n1 vs) else .bad) = _
      rw [if_pos (by omega), ew, lcL_map e G p xs (acc ++ [G x]) (fun x hx => h x (List.mem_cons_of_mem _ hx)) (by simp -dsimp; omega), List.filter_cons_of_pos hp]
      simp -dsimp
    · rw [if_neg hp, ew, lcL_map e G p xs acc (fun x hx => h x (List.mem_cons_of_mem _ hx)) (by omega), List.filter_cons_of_neg hp]
theorem lc_mapF {α : Type} {fi : NSt → R (List PyData)} {g : PyData → NSt → Option NSt} {t : NSt → R Bool} {f : NExp} {vs : List Nat} {n : NSt} {xs : List α} (e G : α → PyData) (p : α → Bool) (hi : fi n = .ok (xs.map e) n) (hn : noHeld n vs = true)
    (h : ∀ x ∈ xs, ∃ n1, g (e x) (wipeN n vs) = some n1 ∧ t n1 = .ok (p x) n1 ∧ (p x = true → f n1 = .ok (G x) n1) ∧ wipeN n1 vs = wipeN n vs) (hl : xs.length ≤ 1000) (hr : restoreN (wipeN n vs) n vs = n) : nLc fi g t f vs n = .ok ((xs.filter p).map G) n := by
  have sz := sizeBig
  unfold nLc
  rw [hi]
  show (if noHeld n vs = true then (match nLcL g t f vs (xs.map e) [] (wipeN n vs) with
    | .ok acc n2 => R.ok acc (restoreN n2 n vs)
    | _ => R.bad) else R.bad) = _
  rw [if_pos hn, lcL_map e G p xs [] h (by simp; omega)]
  simp -dsimp [hr]
theorem lc_map {α : Type} {fi : NSt → R (List PyData)} {g : PyData → NSt → Option NSt} {f : NExp} {vs : List Nat} {n : NSt} {xs : List α} (e G : α → PyData) (hi : fi n = .ok (xs.map e) n) (hn : noHeld n vs = true)
    (h : ∀ x ∈ xs, ∃ n1, g (e x) (wipeN n vs) = some n1 ∧ f n1 = .ok (G x) n1 ∧ wipeN n1 vs = wipeN n vs) (hl : xs.length ≤ 1000) (hr : restoreN (wipeN n vs) n vs = n) : nLc fi g tYesN f vs n = .ok (xs.map G) n := by
  have := lc_mapF (t := tYesN) e G (fun _ => true) hi hn (fun x hx => by
    obtain ⟨n1, h1, h2, h3⟩ := h x hx
    exact ⟨n1, h1, rfl, fun _ => h2, h3⟩) hl hr
  rw [this]
  congr 2
  exact List.filter_eq_self.mpr fun _ _ => rfl
namespace Wlaw_k02
/-! what is due, so many times -/
theorem s26 {g : Gd} (hg : GG g) {W : Nat} (hW : W ≤ 10 ^ 26) : ∀ (f : Nat) (d : Duty), GD f d → D_25 f [some (.val (dD d)), some (.val (dG g)), some (.val (nI W))] = .ok (nI (kd W g f d)) [some (.val (dD d)), some (.val (dG g)), some (.val (nI W))]
  | 0, _, h => h.elim
  | f + 1, d, h => by
    have c10 : 10 ^ 10 ≤ 10 ^ 89 := by decide +kernel
    have c13 : 10 ^ 26 ≤ 10 ^ 89 := by decide +kernel
    have c40 : 100 ≤ 10 ^ 89 := by decide +kernel
    have c3 : 1000 ≤ 10 ^ 89 := by decide +kernel
    have hv : g.v ≤ 10 ^ 10 := by have := hg.v; omega
    have hp := hg.p
    have hw := hg.w
    have sz := sizeBig
    cases d with
    | free =>
      rw [dD_free]
      apply wp_eq
      show Wp (runD 8 (B_25 (D_25 f)) _) _
      rw [wp_run]
      unfold B_25 dG nI
      refine wps_sq ?_
      simp -dsimp [atI_0]
      rfl
    | value a b =>
      have h : GRt a b := h
      rw [dD_value]
      have m1 := mulN (a := g.v) (b := a) (lt_big (by omega)) (lt_big (by have := h.a40; omega))
      have m2 := fdivN (a := W) h.pos (lt_big (by have := h.b30; omega))
      have hWb : W / b ≤ 10 ^ 26 := Nat.le_trans (Nat.div_le_self _ _) hW
      have hva : g.v * a ≤ 10 ^ 10 * 40 := Nat.mul_le_mul hv h.a40
      have m3 := mulN (a := g.v * a) (b := W / b) (lt_big (by have : 10 ^ 10 * 40 ≤ 10 ^ 89 := (by decide +kernel); omega)) (lt_big (by omega))
      apply wp_eq
      show Wp (runD 8 (B_25 (D_25 f)) _) _
      rw [wp_run]
      have ek : kd W g (f + 1) (.value a b) = g.v * a * (W / b) := rfl
      rw [ek]
      unfold B_25 dG nI
      generalize W / b = q at *
      generalize g.v * a = u at *
      generalize u * q = z at *
      simp -dsimp [atI_0, atI_1, atI_2, m1, m2, m3]
    | unit w n =>
      have h : n ≤ 200 := h
      have m1 := mulN (a := n) (b := W) (lt_big (by omega)) (lt_big (by omega))
      have hnW : n * W ≤ 200 * 10 ^ 26 := Nat.mul_le_mul h hW
      have hb : n * W ≤ 10 ^ 89 := Nat.le_trans hnW (by decide +kernel)
      have m2 := mulN (a := n * W) (b := g.p) (lt_big hb) (lt_big (by omega))
      have m3 := mulN (a := n * W) (b := g.w) (lt_big hb) (lt_big (by omega))
      cases w with
      | false =>
        rw [dD_piece]
        have ek : kd W g (f + 1) (.unit false n) = n * W * g.p := rfl
        rw [ek]
        apply wp_eq
        show Wp (runD 8 (B_25 (D_25 f)) _) _
        rw [wp_run]
        unfold B_25 dG nI
        generalize n * W = u at *
        generalize u * g.p = z at *
        simp -dsimp [atI_0, atI_1, m1, m2]
        omega
      | true =>
        rw [dD_weight]
        have ek : kd W g (f + 1) (.unit true n) = n * W * g.w := rfl
        rw [ek]
        apply wp_eq
        show Wp (runD 8 (B_25 (D_25 f)) _) _
        rw [wp_run]
        unfold B_25 dG nI
        generalize n * W = u at *
        generalize u * g.w = z at *
        simp -dsimp [atI_0, atI_1, m1, m3]
        omega
    | steps ss =>
      have h : GSt ss := h
      rw [dD_steps]
      have e := s25 h.rt h.len (v := g.v) hv hW
      have ek : kd W g (f + 1) (.steps ss) = stK W g.v ss := rfl
      rw [ek]
      apply wp_eq
      show Wp (runD 8 (B_25 (D_25 f)) _) _
      rw [wp_run]
      unfold B_25 dG
      unfold nI at e ⊢
      simp -dsimp [atI_0, atI_1, e]
      omega
    | group c ds =>
      obtain ⟨hne, hlen, hds⟩ : ds ≠ [] ∧ ds.length ≤ 3 ∧ ∀ d ∈ ds, GD f d := h
      rw [dD_group]
      have ek : kd W g (f + 1) (.group c ds) = comb c (ds.map (kd W g f)) := rfl
      rw [ek]
      have c1 := lc_map (fi := iV (nOp2 oIx (.o 0) (.e (nC (.int 1))))) (g := gN 7) (f := nCall (D_25 f) (aCons (.o 7) (aCons (.o 1) (aCons (.o 2) (aNil))))) (vs := [7]) (n := [some (.val (.tuple [.str (gS c), .tuple (ds.map dD)])), some (.val (dG g)), some (.val (nI W)), some (.val (nI g.v)), some (.val (nI g.p)), some (.val (nI g.w)), none, none])
        (xs := ds) dD (fun d => nI (kd W g f d)) (by
          apply wp_eq
          simp -dsimp [atI_1]) rfl (fun d hd => by
          have ih := s26 hg hW f d (hds d hd)
          refine ⟨_, rfl, ?_, rfl⟩
          apply wp_eq
          simp -dsimp [ih]) (by omega) rfl
      rw [show (ds.map fun d => nI (kd W g f d)) = (ds.map (kd W g f)).map nI by rw [List.map_map]; rfl] at c1
      have hne2 : ds.map (kd W g f) ≠ [] := by simpa using hne
      have b1 := bMaxN hne2
      have b2 := bMinN hne2
      have b3 := bSumN (ks := ds.map (kd W g f))
      generalize ds.map (kd W g f) = ks at *
      have eg : dG g = .tuple [nI g.v, nI g.p, nI g.w] := rfl
      generalize hG : dG g = G at *
      generalize nI W = iW at *
      subst eg
      apply wp_eq
      show Wp (runD 8 (B_25 (D_25 f)) _) _
      rw [wp_run]
      unfold B_25
      generalize ks.map nI = kl at *
      cases c with
      | most =>
        have gs : gS .most = "most" := rfl
        rw [gs] at c1 ⊢
        simp -dsimp [atI_0, atI_1, c1, b1, comb]
        omega
      | least =>
        have gs : gS .least = "least" := rfl
        rw [gs] at c1 ⊢
        simp -dsimp [atI_0, atI_1, c1, b2, comb]
        omega
      | sum =>
        have gs : gS .sum = "sum" := rfl
        rw [gs] at c1 ⊢
        simp -dsimp [atI_0, atI_1, c1, b3, comb]
        omega
end Wlaw_k02
end NL
end L2
namespace L2
namespace NL
open PySem PySem.Spec PyProof.Rows
theorem plains_map' : ∀ {xs : List PyData}, nTup.plains (xs.map AV.v) = some xs
  | [] => rfl
  | x :: xs => by
    have := plains_map' (xs := xs)
    show (nTup.plains (xs.map AV.v)).map _ = _
    rw [this]
    rfl
theorem Shp.str {k : Nat} {i : Str} (h : PyData.strOk i = true) : Shp (k + 1) (.str i) := ⟨by simp -dsimp [PyData.canLay0, h], by simp -dsimp [PyData.depth]⟩
theorem cut1 {xs : List PyData} : cutP xs (some 1) none = xs.tail := by
  unfold cutP
  have e : HT.sIx xs.length 0 (some 1) = min 1 xs.length := HT.sIx_nat xs.length 0 1
  rw [HT.sIx_none, e]
  cases xs with
  | nil => rfl
  | cons x xs =>
    rw [show min 1 (x :: xs).length = 1 by simp]
    rw [List.drop_one, List.tail_cons, List.length_cons, Nat.add_sub_cancel, List.take_length]
namespace Wlaw_k02
/-! duties are taken -/
theorem isN_nat {a : Nat} : isN (.int (a : Int)) = true := by
  unfold isN
  exact decide_eq_true (by omega)
theorem s17 {a b : Nat} (hc : Nat.gcd a b = 1) (hb : 0 < b) (h1 : a ≤ 10 ^ 44) (h2 : b ≤ 10 ^ 44) : D_16 [some (.val (.tuple [.int (a : Int), .int (b : Int)]))] = .ok (.bool true) [some (.val (.tuple [.int (a : Int), .int (b : Int)]))] := by
  have e1 := s11 (.int (a : Int))
  rw [isN_nat] at e1
  have e2 := s7 (.int (b : Int))
  have e3 := s9 h1 h2
  rw [hc] at e3
  have ty : isTy "tuple" (.tuple [.int (a : Int), .int (b : Int)]) = true := rfl
  have hb' : (0 : Int) < (b : Int) := by omega
  apply wp_eq
  unfold D_16
  rw [wp_run]
  simp -dsimp [B_16, ty, atI_0, atI_1, e1, e2, e3, hb]
theorem s17g {a b : Nat} (h : GRt a b) : D_16 [some (.val (dPt (a, b)))] = .ok (.bool true) [some (.val (dPt (a, b)))] :=
  s17 h.cop h.pos (by have := h.a40; have : 40 ≤ 10 ^ 44 := (by decide +kernel); omega) (by have := h.b30; have : 30 ≤ 10 ^ 44 := (by decide +kernel); omega)
theorem bAll_true {α : Type} {xs : List α} : bAll [.list (xs.map fun _ => .bool true)] = some (.bool true) := by
  have : xs.map (fun _ => PyData.bool true) = (xs.map fun _ => PyData.none).map fun _ => .bool true := by rw [List.map_map]; rfl
  rw [this, bAll_map (fun _ => true)]
  simp
theorem zip_tail {α : Type} {R : α → α → Prop} : ∀ {xs : List α}, xs.Pairwise R → ∀ p ∈ xs.zip xs.tail, R p.1 p.2
  | [], _, p, hp => by cases hp
  | [x], _, p, hp => by cases hp
  | x :: y :: r, h, p, hp => by
    rcases List.mem_cons.mp hp with rfl | hp
    · exact (List.pairwise_cons.mp h).1 y List.mem_cons_self
    · exact zip_tail (List.pairwise_cons.mp h).2 p hp
theorem zipD_map {α : Type} (f : α → PyData) : ∀ (xs ys : List α), zipD (xs.map f) (ys.map f) = (xs.zip ys).map fun p => .tuple [f p.1, f p.2]
  | [], _ => rfl
  | _ :: _, [] => rfl
  | x :: xs, y :: ys => by
    have := zipD_map f xs ys
    unfold zipD at this ⊢
    rw [List.map_cons, List.map_cons, List.zipWith_cons_cons, this]
    rfl
theorem s18 {ss : List (Nat × Nat × Nat)} (h : GSt ss) : D_17 [some (.val (.tuple (ss.map dSt)))] = .ok (.bool true) [some (.val (.tuple (ss.map dSt)))] := by
  have hlen := h.len
  have c1 := lc_map (fi := iV (nF 0)) (g := gN 1) (f := nIsi "tuple" (.o 1)) (vs := [1]) (n := [some (.val (.tuple (ss.map dSt))), none, none]) (xs := ss) dSt (fun _ => .bool true) rfl rfl (fun s hs => ⟨_, rfl, rfl, rfl⟩) (by omega) rfl
  have c2 := lc_map (fi := iV (nF 0)) (g := gN 1) (f := nAnd (nOp2 oEq (.e (nCB bLen (aCons (.o 1) (aNil)))) (.e (nC (.int 2)))) (nAnd (nCall D_11 (aCons (.e (nOp2 oIx (.o 1) (.e (nC (.int 0))))) (aNil))) (nCall D_16 (aCons (.e (nOp2 oIx (.o 1) (.e (nC (.int 1))))) (aNil))))) (vs := [1]) (n := [some (.val (.tuple (ss.map dSt))), none, none]) (xs := ss) dSt (fun _ => .bool true) rfl rfl (fun s hs => by
    have e1 := s11 (.int (s.1 : Int))
    rw [isN_nat] at e1
    have e2 := s17g (h.rt s hs)
    refine ⟨_, rfl, ?_, rfl⟩
    unfold dSt
    apply wp_eq
    simp -dsimp [atI_0, atI_1, e1, e2]) (by omega) rfl
  have c3 := lc_map (fi := iZp (aCons (.e (nF 0)) (aCons (.e (nSl (.o 0) (pSome (nC (.int 1))) (pNone))) (aNil)))) (g := gT (gCons' (gN 1) (gCons' (gN 2) (gNil')))) (f := nOp2 oLt (.e (nOp2 oIx (.o 1) (.e (nC (.int 0))))) (.e (nOp2 oIx (.o 2) (.e (nC (.int 0)))))) (vs := [1, 2]) (n := [some (.val (.tuple (ss.map dSt))), none, none])
    (xs := ss.zip ss.tail) (fun p => .tuple [dSt p.1, dSt p.2]) (fun _ => .bool true) (by
      apply wp_eq
      have e : zipD (ss.map dSt) (ss.map dSt).tail = (ss.zip ss.tail).map fun p => .tuple [dSt p.1, dSt p.2] := by rw [← List.map_tail]; exact zipD_map dSt ss ss.tail
      simp -dsimp [cut1, e]) rfl (fun p hp => by
      have hlt := zip_tail h.asc p hp
      refine ⟨_, rfl, ?_, rfl⟩
      apply wp_eq
      unfold dSt
      simp -dsimp [atI_0, hlt]) (by rw [List.length_zip]; omega) rfl
  have b1 := bAll_true (xs := ss)
  have b2 := bAll_true (xs := ss.zip ss.tail)
  have ty : isTy "tuple" (.tuple (ss.map dSt)) = true := rfl
  have hne : ¬ ss.length = 0 := by simpa using h.ne
  obtain ⟨s, r, rfl⟩ : ∃ s r, ss = s :: r := by
    cases ss with
    | nil => exact absurd rfl h.ne
    | cons s r => exact ⟨s, r, rfl⟩
  have hz : s.1 = 0 := by simpa using h.zero
  have hx : oIx (.tuple ((s :: r).map dSt)) (.int 0) = some (dSt s) := by
    show atI (dSt s :: r.map dSt) 0 = _
    exact atI_0
  have hx2 : oIx (dSt s) (.int 0) = some (.int 0) := by
    unfold dSt
    rw [hz]
    rfl
  have hn0 : ¬ ((s :: r).length : Int) = 0 := by rw [List.length_cons]; omega
  apply wp_eq
  unfold D_17
  rw [wp_run]
  have hb : bLen [.tuple ((s :: r).map dSt)] = some (.int ((s :: r).length : Int)) := by
    show some (PyData.int _) = _
    rw [List.length_map]
  generalize (PyData.tuple ((s :: r).map dSt)) = T at *
  generalize ((s :: r).length : Int) = L at *
  generalize (s :: r).map (fun _ => PyData.bool true) = l1 at *
  generalize ((s :: r).zip (s :: r).tail).map (fun _ => PyData.bool true) = l2 at *
  simp -dsimp [B_17, ty, hb, hn0, c1, c2, c3, b1, b2, hx, hx2]
end Wlaw_k02
end NL
end L2
namespace L2
namespace NL
open PySem PySem.Spec PyProof.Rows
namespace Wlaw_k02
/-! what stands within -/
def kids : Duty → List Duty
  | .group _ ds => ds
  | _ => []
theorem shp_int {k : Nat} {i : Int} (h : 1 ≤ k) : Shp k (.int i) := by
  obtain ⟨j, rfl⟩ : ∃ j, k = j + 1 := ⟨k - 1, by omega⟩
  exact Shp.int
theorem shp_str {k : Nat} {s : Str} (h : 1 ≤ k) (hs : PyData.strOk s = true) : Shp k (.str s) := by
  obtain ⟨j, rfl⟩ : ∃ j, k = j + 1 := ⟨k - 1, by omega⟩
  exact Shp.str hs
theorem shp_tup {k : Nat} {l : List PyData} (hk : 1 ≤ k) (h : ∀ x ∈ l, Shp (k - 1) x) : Shp k (.tuple l) := by
  obtain ⟨j, rfl⟩ : ∃ j, k = j + 1 := ⟨k - 1, by omega⟩
  exact Shp.tuple h
theorem shp_dPt {k : Nat} {p : Nat × Nat} (h : 2 ≤ k) : Shp k (dPt p) := shp_tup (by omega) fun x hx => by
  simp only [List.mem_cons, List.not_mem_nil, or_false] at hx
  rcases hx with rfl | rfl <;> exact shp_int (by omega)
theorem shp_dSt {k : Nat} {s : Nat × Nat × Nat} (h : 3 ≤ k) : Shp k (dSt s) := shp_tup (by omega) fun x hx => by
  simp only [List.mem_cons, List.not_mem_nil, or_false] at hx
  rcases hx with rfl | rfl
  · exact shp_int (by omega)
  · exact shp_dPt (by omega)
theorem shp_dD : ∀ {n : Nat} {d : Duty}, GD n d → Shp (2 * n + 4) (dD d)
  | 0, _, h => h.elim
  | n + 1, d, h => by
    cases d with
    | free =>
      rw [dD_free]
      refine shp_tup (by omega) fun x hx => ?_
      simp only [List.mem_cons, List.not_mem_nil, or_false] at hx
      subst hx
      exact shp_str (by omega) (by kernel_rfl)
    | value a b =>
      rw [dD_value]
      refine shp_tup (by omega) fun x hx => ?_
      simp only [List.mem_cons, List.not_mem_nil, or_false] at hx
      rcases hx with rfl | rfl | rfl
      · exact shp_str (by omega) (by kernel_rfl)
      · exact shp_int (by omega)
      · exact shp_int (by omega)
    | unit w k =>
      cases w with
      | false =>
        rw [dD_piece]
        refine shp_tup (by omega) fun x hx => ?_
        simp only [List.mem_cons, List.not_mem_nil, or_false] at hx
        rcases hx with rfl | rfl
        · exact shp_str (by omega) (by kernel_rfl)
        · exact shp_int (by omega)
      | true =>
        rw [dD_weight]
        refine shp_tup (by omega) fun x hx => ?_
        simp only [List.mem_cons, List.not_mem_nil, or_false] at hx
        rcases hx with rfl | rfl
        · exact shp_str (by omega) (by kernel_rfl)
        · exact shp_int (by omega)
    | steps ss =>
      rw [dD_steps]
      refine shp_tup (by omega) fun x hx => ?_
      simp only [List.mem_cons, List.not_mem_nil, or_false] at hx
      rcases hx with rfl | rfl
      · exact shp_str (by omega) (by kernel_rfl)
      · refine shp_tup (by omega) fun y hy => ?_
        obtain ⟨s, _, rfl⟩ := List.mem_map.mp hy
        exact shp_dSt (by omega)
    | group g ds =>
      obtain ⟨hne, hlen, hds⟩ : ds ≠ [] ∧ ds.length ≤ 3 ∧ ∀ d ∈ ds, GD n d := h
      rw [dD_group]
      refine shp_tup (by omega) fun x hx => ?_
      simp only [List.mem_cons, List.not_mem_nil, or_false] at hx
      rcases hx with rfl | rfl
      · cases g <;> exact shp_str (by omega) (by kernel_rfl)
      · refine shp_tup (by omega) fun y hy => ?_
        obtain ⟨d, hd, rfl⟩ := List.mem_map.mp hy
        have e : 2 * (n + 1) + 4 - 1 - 1 = 2 * n + 4 := by omega
        rw [e]
        exact shp_dD (hds d hd)
theorem eqFree {n : Nat} {x : PyData} {xs : List PyData} (h : Shp n (.tuple xs)) (hn : n ≤ 60) (h2 : PyData.eqv (.tuple xs) (.tuple [.str "free"]) = false) : oEq (.tuple xs) (.tuple [.str "free"]) = some (.bool false) := by
  have e : oEq (.tuple xs) (.tuple [.str "free"]) = if (SeqAt.shaped (.tuple xs) && SeqAt.shaped (.tuple [.str "free"])) = true then some (.bool (PyData.eqv (.tuple xs) (.tuple [.str "free"]))) else none := id rfl
  have s1 := h.shaped (by omega)
  have s2 : SeqAt.shaped (.tuple [.str "free"]) = true := by kernel_rfl
  rw [e, s1, s2, h2]
  rfl
theorem ne2 {a b c : PyData} {r : List PyData} : PyData.eqv (.tuple (a :: b :: r)) (.tuple [c]) = false := by
  simp [PyData.eqv, PyData.eqvAll]
theorem s19 {n : Nat} (hn : n ≤ 20) {d : Duty} (h : GD n d) : D_18 [some (.val (dD d))] = .ok (.list ((kids d).map dD)) [some (.val (dD d))] := by
  have sz := sizeBig
  have sh := shp_dD h
  cases n with
  | zero => exact h.elim
  | succ n =>
  cases d with
  | free =>
    rw [dD_free] at sh ⊢
    kernel_rfl
  | value a b =>
    have h : GRt a b := h
    rw [dD_value] at sh ⊢
    have q := eqFree (x := .none) sh (by omega) ne2
    have e := s17g h
    unfold dPt at e
    have hc : cutP [PyData.str "value", .int (a : Int), .int (b : Int)] (some 1) none = [.int (a : Int), .int (b : Int)] := cut1
    have ty : isTy "tuple" (.tuple [PyData.str "value", .int (a : Int), .int (b : Int)]) = true := rfl
    apply wp_eq
    unfold D_18
    rw [wp_run]
    simp -dsimp [B_18, ty, q, atI_0, hc, e, kids]
    omega
  | unit w k =>
    have e := s11 (.int (k : Int))
    rw [isN_nat] at e
    cases w with
    | false =>
      rw [dD_piece] at sh ⊢
      have q := eqFree (x := .none) sh (by omega) ne2
      have ty : isTy "tuple" (.tuple [PyData.str "piece", .int (k : Int)]) = true := rfl
      apply wp_eq
      unfold D_18
      rw [wp_run]
      simp -dsimp [B_18, ty, q, atI_0, atI_1, e, kids]
      omega
    | true =>
      rw [dD_weight] at sh ⊢
      have q := eqFree (x := .none) sh (by omega) ne2
      have ty : isTy "tuple" (.tuple [PyData.str "weight", .int (k : Int)]) = true := rfl
      apply wp_eq
      unfold D_18
      rw [wp_run]
      simp -dsimp [B_18, ty, q, atI_0, atI_1, e, kids]
      omega
  | steps ss =>
    have h : GSt ss := h
    have e := s18 h
    rw [dD_steps] at sh ⊢
    have q := eqFree (x := .none) sh (by omega) ne2
    have ty : isTy "tuple" (.tuple [PyData.str "steps", .tuple (ss.map dSt)]) = true := rfl
    apply wp_eq
    unfold D_18
    rw [wp_run]
    simp -dsimp [B_18, ty, q, atI_0, atI_1, e, kids]
    omega
  | group g ds =>
    obtain ⟨hne, hlen, hds⟩ : ds ≠ [] ∧ ds.length ≤ 3 ∧ ∀ d ∈ ds, GD n d := h
    rw [dD_group] at sh ⊢
    have q := eqFree (x := .none) sh (by omega) ne2
    have ty : isTy "tuple" (.tuple [PyData.str (gS g), .tuple (ds.map dD)]) = true := rfl
    have ty2 : isTy "tuple" (.tuple (ds.map dD)) = true := rfl
    have hpos : (0 : Int) < ((ds.map dD).length : Int) := by
      have := List.length_pos_iff.mpr hne
      rw [List.length_map]; omega
    have hb : bLen [.tuple (ds.map dD)] = some (.int ((ds.map dD).length : Int)) := rfl
    have hsq : seqA (some (PyData.tuple (ds.map dD))) = some (ds.map dD) := rfl
    have hpl : nTup.plains ((ds.map dD).map AV.v) = some (ds.map dD) := plains_map'
    have hln : (ds.map dD).length ≤ 3 := by rw [List.length_map]; exact hlen
    have ek : kids (.group g ds) = ds := rfl
    rw [ek]
    generalize ds.map dD = l at *
    have hposN : 0 < l.length := by omega
    have z1 : 1 ≤ sizeLine := by omega
    have z2 : 2 ≤ sizeLine := by omega
    apply wp_eq
    unfold D_18
    rw [wp_run]
    cases g with
    | most =>
      have gs : gS .most = "most" := rfl
      rw [gs] at ty q ⊢
      simp -dsimp [B_18, ty, ty2, q, atI_0, atI_1, hposN, z1, z2, hb, hsq, hpl]
      omega
    | least =>
      have gs : gS .least = "least" := rfl
      rw [gs] at ty q ⊢
      simp -dsimp [B_18, ty, ty2, q, atI_0, atI_1, hposN, z1, z2, hb, hsq, hpl]
      omega
    | sum =>
      have gs : gS .sum = "sum" := rfl
      rw [gs] at ty q ⊢
      simp -dsimp [B_18, ty, ty2, q, atI_0, atI_1, hposN, z1, z2, hb, hsq, hpl]
      omega
end Wlaw_k02
end NL
end L2
namespace L2
namespace NL
open PySem PySem.Spec PyProof.Rows
namespace Wlaw_k02
/-! walks over a duty -/
def pre : Nat → Duty → List Duty
  | 0, _ => []
  | n + 1, d => d :: (kids d).reverse.flatMap (pre n)
def rest (S : List (Duty × Nat)) : List Duty := S.reverse.flatMap fun e => pre e.2 e.1
theorem rest_snoc {S : List (Duty × Nat)} {d : Duty} {n : Nat} : rest (S ++ [(d, n)]) = pre n d ++ rest S := by
  unfold rest
  rw [List.reverse_append]
  rfl
theorem rest_kids {S : List (Duty × Nat)} {ks : List Duty} {n : Nat} : rest (S ++ ks.map fun k => (k, n)) = ks.reverse.flatMap (pre n) ++ rest S := by
  unfold rest
  rw [List.reverse_append, List.flatMap_append, ← List.map_reverse, List.flatMap_map]
theorem rest_step {S : List (Duty × Nat)} {d : Duty} {n : Nat} : rest (S ++ [(d, n + 1)]) = d :: rest (S ++ (kids d).map fun k => (k, n)) := by
  rw [rest_snoc, rest_kids]
  rfl
theorem GD.kids {n : Nat} {d : Duty} (h : GD (n + 1) d) : ∀ k ∈ kids d, GD n k := by
  cases d with
  | group g ds => exact h.2.2
  | free => exact fun _ hk => by cases hk
  | value a b => exact fun _ hk => by cases hk
  | unit w k => exact fun _ hk => by cases hk
  | steps ss => exact fun _ hk => by cases hk
theorem GD.kids3 {n : Nat} {d : Duty} (h : GD (n + 1) d) : (Wlaw_k02.kids d).length ≤ 3 := by
  cases d with
  | group g ds => exact h.2.1
  | _ => exact Nat.zero_le _
def bN : Nat → Nat
  | 0 => 0
  | n + 1 => 1 + 3 * bN n
theorem flat_le {α β : Type} {f : α → List β} {B : Nat} : ∀ {xs : List α}, (∀ x ∈ xs, (f x).length ≤ B) → (xs.flatMap f).length ≤ xs.length * B
  | [], _ => Nat.zero_le _
  | x :: xs, h => by
    rw [List.flatMap_cons, List.length_append, List.length_cons, Nat.add_mul, Nat.one_mul]
    have := h x List.mem_cons_self
    have := flat_le (f := f) (B := B) (xs := xs) fun y hy => h y (List.mem_cons_of_mem _ hy)
    omega
theorem pre_len : ∀ {n : Nat} {d : Duty}, GD n d → (pre n d).length ≤ bN n
  | 0, _, h => h.elim
  | n + 1, d, h => by
    show ((kids d).reverse.flatMap (pre n)).length + 1 ≤ 1 + 3 * bN n
    have h1 := flat_le (f := pre n) (B := bN n) (xs := (kids d).reverse) fun k hk => pre_len (h.kids k (List.mem_reverse.mp hk))
    rw [List.length_reverse] at h1
    have h2 := Nat.mul_le_mul_right (bN n) h.kids3
    omega
theorem pre_GD : ∀ {n : Nat} {d : Duty}, GD n d → ∀ x ∈ pre n d, GD n x
  | 0, _, h, _, _ => h.elim
  | n + 1, d, h, x, hx => by
    rcases List.mem_cons.mp hx with rfl | hx
    · exact h
    · obtain ⟨k, hk, hx⟩ := List.mem_flatMap.mp hx
      exact GD.mono (by omega) (pre_GD (h.kids k (List.mem_reverse.mp hk)) x hx)
theorem flat_ge {α β : Type} {f : α → List β} : ∀ {xs : List α}, (∀ x ∈ xs, 1 ≤ (f x).length) → xs.length ≤ (xs.flatMap f).length
  | [], _ => Nat.zero_le _
  | x :: xs, h => by
    rw [List.flatMap_cons, List.length_append, List.length_cons]
    have := h x List.mem_cons_self
    have := flat_ge (f := f) (xs := xs) fun y hy => h y (List.mem_cons_of_mem _ hy)
    omega
theorem rest_ge {S : List (Duty × Nat)} (h : ∀ e ∈ S, GD e.2 e.1) : S.length ≤ (rest S).length := by
  have := flat_ge (f := fun e : Duty × Nat => pre e.2 e.1) (xs := S.reverse) fun e he => by
    have g := h e (List.mem_reverse.mp he)
    obtain ⟨d, n⟩ := e
    cases n with
    | zero => exact g.elim
    | succ n => exact Nat.succ_le_succ (Nat.zero_le _)
  rw [List.length_reverse] at this
  exact this
theorem snoc_of {α : Type} {xs : List α} (h : xs ≠ []) : ∃ ys y, xs = ys ++ [y] := ⟨xs.dropLast, xs.getLast h, (List.dropLast_concat_getLast h).symm⟩
theorem get_last {xs : List PyData} {x : PyData} : (xs ++ [x])[(xs ++ [x]).length - 1]? = some x := by
  rw [List.length_append, List.length_singleton, Nat.add_sub_cancel, List.getElem?_append_right (Nat.le_refl _), Nat.sub_self]
  rfl
theorem drop_last {xs : List PyData} {x : PyData} : (xs ++ [x]).dropLast = xs := List.dropLast_concat
def wk : NStm := sWhile 400 (asB (nOp2 oGt (.e (nCB bLen (aCons (.o 2) (aNil)))) (.e (nC (.int 0))))) (sSeq (sAsg (nPop 2) (gN 3))
  (sSeq (sExpr (nAppend 1 (nV 3)))
  (sExpr (nMeth1 2 mExtend (.e (nCall D_18 (aCons (.o 3) (aNil))))))))
theorem s23 {n0 : Nat} (hn : n0 ≤ 5) {d0 : Duty} (h : GD n0 d0) : D_22 [some (.val (dD d0))] = .ok (.list ((pre n0 d0).map dD)) [some (.val (dD d0))] := by
  have sz := sizeBig
  have hl := pre_len h
  have hb : bN n0 ≤ 121 := by
    have : n0 = 0 ∨ n0 = 1 ∨ n0 = 2 ∨ n0 = 3 ∨ n0 = 4 ∨ n0 = 5 := by omega
    rcases this with rfl | rfl | rfl | rfl | rfl | rfl <;> decide
  have z1 : 1 ≤ sizeLine := by omega
  apply wp_eq
  unfold D_22
  rw [wp_run]
  simp -dsimp [B_22, z1]
  refine wps_while (fun m n => ∃ (fs : List Duty) (S : List (Duty × Nat)) (x3 : Option Sl), n = [some (.val (dD d0)), some (.own (fs.map dD)), some (.own (S.map fun e => dD e.1)), x3] ∧ Vl x3 ∧ fs ++ rest S = pre n0 d0 ∧ (rest S).length = m ∧ ∀ e ∈ S, GD e.2 e.1 ∧ e.2 ≤ 5) ?_ 400 (pre n0 d0).length _ (by omega)
    ⟨[], [(d0, n0)], none, rfl, Vl.none, by unfold rest; simp, by unfold rest; simp, fun e he => by
      simp only [List.mem_cons, List.not_mem_nil, or_false] at he
      subst he
      exact ⟨h, hn⟩⟩
  rintro m n ⟨fs, S, x3, rfl, v3, hp, hm, hg⟩
  by_cases hS : S = []
  · subst hS
    have : fs = pre n0 d0 := by
      have e : rest [] = [] := rfl
      rw [e, List.append_nil] at hp
      exact hp
    subst this
    simp -dsimp
  · obtain ⟨S', e, rfl⟩ := snoc_of hS
    obtain ⟨d, k⟩ := e
    obtain ⟨gd, k5⟩ := hg (d, k) (by simp)
    cases k with
    | zero => exact gd.elim
    | succ k =>
      have e19 := s19 (n := k + 1) (by omega) gd
      rw [rest_step] at hp hm
      have hlen : fs.length + (rest (S' ++ (kids d).map fun j => (j, k))).length + 1 ≤ 121 := by
        have := congrArg List.length hp
        rw [List.length_append, List.length_cons] at this
        omega
      have hg2 : ∀ e ∈ S' ++ (kids d).map fun j => (j, k), GD e.2 e.1 ∧ e.2 ≤ 5 := fun e he => by
        rcases List.mem_append.mp he with he | he
        · exact hg e (List.mem_append_left _ he)
        · obtain ⟨j, hj, rfl⟩ := List.mem_map.mp he
          exact ⟨gd.kids j hj, by simp only at k5; omega⟩
      have hSl := rest_ge (S := S' ++ (kids d).map fun j => (j, k)) fun e he => (hg2 e he).1
      have em : (S' ++ [(d, k + 1)]).map (fun e => dD e.1) = (S'.map fun e => dD e.1) ++ [dD d] := by simp
      have hk2 : (S' ++ (kids d).map fun j => (j, k)).map (fun e => dD e.1) = (S'.map fun e => dD e.1) ++ (kids d).map dD := by simp
      have hfl : (fs.map dD).length ≤ 121 := by rw [List.length_map]; omega
      have hfs : (fs ++ [d]).map dD = fs.map dD ++ [dD d] := by simp
      have htk : (S'.map fun e => dD e.1).length + ((kids d).map dD).length ≤ 200 := by
        rw [List.length_append, List.length_map] at hSl
        rw [List.length_map, List.length_map]
        omega
      rw [em]
      have e3 : ∀ (x y : Option Sl) (b : PyData), gN 3 b [some (.val (dD d0)), x, y, x3] = some [some (.val (dD d0)), x, y, some (.val b)] := fun x y b => gN_vl (x := x3) rfl v3
      have next : ∃ m', m' < m ∧ ∃ (gs : List Duty) (S : List (Duty × Nat)) (y3 : Option Sl), [some (.val (dD d0)), some (.own (fs.map dD ++ [dD d])), some (.own ((S'.map fun e => dD e.1) ++ (kids d).map dD)), some (.val (dD d))] = [some (.val (dD d0)), some (.own (gs.map dD)), some (.own (S.map fun e => dD e.1)), y3] ∧ Vl y3 ∧ gs ++ rest S = pre n0 d0 ∧ (rest S).length = m' ∧ ∀ e ∈ S, GD e.2 e.1 ∧ e.2 ≤ 5 :=
        ⟨_, by rw [List.length_cons] at hm; exact Nat.lt_of_succ_le (Nat.le_of_eq hm), fs ++ [d], S' ++ (kids d).map fun j => (j, k), _, by rw [hfs, hk2], Vl.val, by rw [← hp]; simp, rfl, hg2⟩
      generalize (S'.map fun e => dD e.1) = T at *
      generalize (kids d).map dD = K at *
      generalize fs.map dD = FS at *
      generalize dD d = X at *
      have hpos : (0 : Int) < (T.length : Int) + 1 := by omega
      simp -dsimp [hpos, e3, -gN_eq]
      have hmx : mExtend T (.list K) = some (T ++ K, .none) := by
        show (if T.length + K.length ≤ sizeLine then _ else _) = _
        rw [if_pos (by omega)]
      refine ⟨by omega, ?_⟩
      rw [e19, wp_ok]
      show onO (mExtend T (.list K)) _
      rw [hmx, onO_some]
      exact next
theorem s20 {n0 : Nat} (hn : n0 ≤ 5) {d0 : Duty} (h : GD n0 d0) : D_19 [some (.val (dD d0))] = .ok (.bool true) [some (.val (dD d0))] := by
  have sz := sizeBig
  have hl := pre_len h
  have hb : bN n0 ≤ 121 := by
    have : n0 = 0 ∨ n0 = 1 ∨ n0 = 2 ∨ n0 = 3 ∨ n0 = 4 ∨ n0 = 5 := by omega
    rcases this with rfl | rfl | rfl | rfl | rfl | rfl <;> decide
  have z1 : 1 ≤ sizeLine := by omega
  have z2 : 2 ≤ sizeLine := by omega
  apply wp_eq
  unfold D_19
  rw [wp_run]
  simp -dsimp [B_19, z1, z2]
  let it : Duty × Nat → PyData := fun e => .tuple [dD e.1, .int (((1 + n0 - e.2 : Nat)) : Int)]
  refine wps_while (fun m n => ∃ (S : List (Duty × Nat)) (x2 x3 x4 : Option Sl), n = [some (.val (dD d0)), some (.own (S.map it)), x2, x3, x4, none] ∧ Vl x2 ∧ Vl x3 ∧ Vl x4 ∧ (rest S).length = m ∧ m ≤ 121 ∧ ∀ e ∈ S, GD e.2 e.1 ∧ e.2 ≤ n0) ?_ 400 (pre n0 d0).length _ (by omega)
    ⟨[(d0, n0)], none, none, none, by
      have e : 1 + n0 - n0 = 1 := by omega
      simp only [it, List.map_cons, List.map_nil, e]
      rfl, Vl.none, Vl.none, Vl.none, by unfold rest; simp, by omega, fun e he => by
      simp only [List.mem_cons, List.not_mem_nil, or_false] at he
      subst he
      exact ⟨h, Nat.le_refl _⟩⟩
  rintro m n ⟨S, x2, x3, x4, rfl, v2, v3, v4, hm, hm1, hg⟩
  by_cases hS : S = []
  · subst hS
    simp -dsimp
  · obtain ⟨S', e, rfl⟩ := snoc_of hS
    obtain ⟨d, k⟩ := e
    obtain ⟨gd, k5⟩ := hg (d, k) (by simp)
    cases k with
    | zero => exact gd.elim
    | succ k =>
      have e19 := s19 (n := k + 1) (by simp only at k5; omega) gd
      rw [rest_step] at hm
      have hg2 : ∀ e ∈ S' ++ (kids d).map fun j => (j, k), GD e.2 e.1 ∧ e.2 ≤ n0 := fun e he => by
        rcases List.mem_append.mp he with he | he
        · exact hg e (List.mem_append_left _ he)
        · obtain ⟨j, hj, rfl⟩ := List.mem_map.mp he
          exact ⟨gd.kids j hj, by simp only at k5; omega⟩
      have hSl := rest_ge (S := S' ++ (kids d).map fun j => (j, k)) fun e he => (hg2 e he).1
      rw [List.length_cons] at hm
      have em : (S' ++ [(d, k + 1)]).map it = S'.map it ++ [.tuple [dD d, .int ((n0 - k : Nat) : Int)]] := by
        have e : 1 + n0 - (k + 1) = n0 - k := by omega
        simp only [List.map_append, List.map_cons, List.map_nil, it, e]
      have hk3 := gd.kids3
      have c1 := lc_map (fi := iV (nV 4)) (g := gN 5) (f := nTup (aCons (.e (nV 5)) (aCons (.e (nOp2 oAdd (.o 3) (.e (nC (.int 1))))) (aNil)))) (vs := [5]) (n := [some (.val (dD d0)), some (.own (S'.map it)), some (.val (dD d)), some (.val (.int ((n0 - k : Nat) : Int))), some (.val (.list ((kids d).map dD))), none])
        (xs := kids d) dD (fun j => it (j, k)) rfl rfl (fun j hj => by
          refine ⟨_, rfl, ?_, rfl⟩
          have e : ((1 + n0 - k : Nat) : Int) = ((n0 - k : Nat) : Int) + 1 := by simp only at k5; omega
          show _ = R.ok (PyData.tuple [dD j, .int ((1 + n0 - k : Nat) : Int)]) _
          rw [e]
          apply wp_eq
          simp -dsimp [z2]) (by simp only at hk3; omega) rfl
      have hk2 : (S' ++ (kids d).map fun j => (j, k)).map it = S'.map it ++ (kids d).map fun j => it (j, k) := by simp
      have htk : (S'.map it).length + ((kids d).map fun j => it (j, k)).length ≤ 200 := by
        rw [List.length_append, List.length_map] at hSl
        rw [List.length_map, List.length_map]
        omega
      rw [em]
      have e2 : gT (gCons' (gN 2) (gCons' (gN 3) gNil')) (.tuple [dD d, .int ((n0 - k : Nat) : Int)]) [some (.val (dD d0)), some (.own (S'.map it)), x2, x3, x4, none] = some [some (.val (dD d0)), some (.own (S'.map it)), some (.val (dD d)), some (.val (.int ((n0 - k : Nat) : Int))), x4, none] := by
        show ((gN 2 (dD d) _).bind fun n1 => (gN 3 _ n1).bind fun n2 => some n2) = _
        rw [gN_vl (x := x2) rfl v2]
        show ((gN 3 _ _).bind fun n2 => some n2) = _
        rw [gN_vl (x := x3) rfl v3]
        rfl
      have e4 : ∀ (b : PyData), gN 4 b [some (.val (dD d0)), some (.own (S'.map it)), some (.val (dD d)), some (.val (.int ((n0 - k : Nat) : Int))), x4, none] = some [some (.val (dD d0)), some (.own (S'.map it)), some (.val (dD d)), some (.val (.int ((n0 - k : Nat) : Int))), some (.val b), none] := fun b => gN_vl (x := x4) rfl v4
      have hdep : ¬ (6 : Int) < ((n0 - k : Nat) : Int) := by omega
      have next : ∃ m', m' < m ∧ ∃ (S : List (Duty × Nat)) (y2 y3 y4 : Option Sl), [some (.val (dD d0)), some (.own (S'.map it ++ (kids d).map fun j => it (j, k))), some (.val (dD d)), some (.val (.int ((n0 - k : Nat) : Int))), some (.val (.list ((kids d).map dD))), none] = [some (.val (dD d0)), some (.own (S.map it)), y2, y3, y4, none] ∧ Vl y2 ∧ Vl y3 ∧ Vl y4 ∧ (rest S).length = m' ∧ m' ≤ 121 ∧ ∀ e ∈ S, GD e.2 e.1 ∧ e.2 ≤ n0 :=
        ⟨_, Nat.lt_of_succ_le (Nat.le_of_eq hm), S' ++ (kids d).map fun j => (j, k), _, _, _, by rw [hk2], Vl.val, Vl.val, Vl.val, rfl, by omega, hg2⟩
      generalize S'.map it = T at *
      generalize ((kids d).map fun j => it (j, k)) = K2 at *
      generalize (kids d).map dD = K at *
      generalize dD d = X at *
      generalize ((n0 - k : Nat) : Int) = dp at *
      have hpos : (0 : Int) < (T.length : Int) + 1 := by omega
      have hmx : mExtend T (.list K2) = some (T ++ K2, .none) := by
        show (if T.length + K2.length ≤ sizeLine then _ else _) = _
        rw [if_pos (by omega)]
      simp -dsimp [hpos, e2, e4, e19, hdep, c1, -gN_eq]
      rw [hmx, onO_some]
      exact next
theorem s21 (g : Gd) : D_20 [some (.val (dG g))] = .ok (.bool true) [some (.val (dG g))] := by
  have e1 := s11 (nI g.v)
  have e2 := s11 (nI g.p)
  have e3 := s11 (nI g.w)
  have c1 := lc_map (fi := iV (nF 0)) (g := gN 1) (f := nCall D_11 (aCons (.o 1) (aNil))) (vs := [1]) (n := [some (.val (dG g)), none]) (xs := [g.v, g.p, g.w]) nI (fun _ => .bool true) rfl rfl (fun x hx => by
    have e := s11 (nI x)
    rw [show isN (nI x) = true from isN_nat] at e
    refine ⟨_, rfl, ?_, rfl⟩
    apply wp_eq
    simp -dsimp [e]) (by simp) rfl
  have b1 := bAll_true (xs := [g.v, g.p, g.w])
  have ty : isTy "tuple" (dG g) = true := rfl
  have hb : bLen [dG g] = some (.int 3) := rfl
  generalize ([g.v, g.p, g.w].map fun _ => PyData.bool true) = l1 at *
  generalize dG g = G at *
  apply wp_eq
  unfold D_20
  rw [wp_run]
  simp -dsimp [B_20, ty, hb, c1, b1]
theorem s8 : D_8 [some (.val (.bool true))] = .ok .none [some (.val (.bool true))] := rfl
theorem s22 {n : Nat} (hn : n ≤ 5) {d : Duty} (h : GD n d) (g : Gd) : D_21 [some (.val (dD d)), some (.val (dG g))] = .ok .none [some (.val (dD d)), some (.val (dG g))] := by
  have e1 := s20 hn h
  have e2 := s21 g
  apply wp_eq
  unfold D_21
  rw [wp_run]
  simp -dsimp [B_21, e1, e2, s8]
end Wlaw_k02
end NL
end L2
namespace L2
namespace NL
open PySem PySem.Spec PyProof.Rows
def Vo (x : Option Sl) : Prop := x = none ∨ (∃ d, x = some (.val d)) ∨ ∃ d, x = some (.own d)
theorem nl_vo {n : NSt} {i : Nat} {x : Option Sl} (e : n[i]? = some x) (v : Vo x) : notLent n i = true := by
  unfold notLent
  rw [e]
  rcases v with rfl | ⟨d, rfl⟩ | ⟨d, rfl⟩ <;> rfl
theorem Vo.vl {x : Option Sl} (v : Vl x) : Vo x := by
  rcases v with rfl | ⟨d, rfl⟩
  · exact .inl rfl
  · exact .inr (.inl ⟨d, rfl⟩)
theorem vom {x : Option Sl} (v : Vo x) : (match some x with
    | some (some (Sl.lent _)) => false
    | some _ => true
    | none => false) = true := by rcases v with rfl | ⟨d, rfl⟩ | ⟨d, rfl⟩ <;> rfl
theorem vlm {x : Option Sl} (v : Vl x) : (match some x with
    | some (some (Sl.lent _)) => false
    | some _ => true
    | none => false) = true := by rcases v with rfl | ⟨d, rfl⟩ <;> rfl
namespace Wlaw_k02
/-! what all divisors divide -/
def dens : Duty → List Nat
  | .value _ b => [b]
  | .steps ss => ss.map (·.2.2)
  | _ => []
theorem dens_ok {n : Nat} {x : Duty} (h : GD n x) : (∀ b ∈ dens x, 0 < b ∧ b ∣ Mm ∧ b ≤ 30) ∧ (dens x).length ≤ 4 := by
  cases n with
  | zero => exact h.elim
  | succ n =>
  cases x with
  | value a b =>
    have h : GRt a b := h
    exact ⟨fun c hc => by
      simp only [dens, List.mem_cons, List.not_mem_nil, or_false] at hc
      subst hc
      exact ⟨h.pos, h.dvd, h.b30⟩, by simp [dens]⟩
  | steps ss =>
    have h : GSt ss := h
    exact ⟨fun c hc => by
      obtain ⟨s, hs, rfl⟩ := List.mem_map.mp hc
      have g := h.rt s hs
      exact ⟨g.pos, g.dvd, g.b30⟩, by simp only [dens, List.length_map]; exact h.len⟩
  | _ => exact ⟨(fun _ hc => by cases hc), Nat.zero_le _⟩
theorem fold_dvd {N : Nat} : ∀ {bs : List Nat} {W : Nat}, (∀ b ∈ bs, b ∣ N) → W ∣ N → bs.foldl Nat.lcm W ∣ N
  | [], _, _, h => h
  | b :: bs, W, hb, h => fold_dvd (bs := bs) (fun c hc => hb c (List.mem_cons_of_mem _ hc)) (Nat.lcm_dvd h (hb b List.mem_cons_self))
theorem fold_pos : ∀ {bs : List Nat} {W : Nat}, (∀ b ∈ bs, 0 < b) → 0 < W → 0 < bs.foldl Nat.lcm W
  | [], _, _, h => h
  | b :: bs, W, hb, h => fold_pos (bs := bs) (fun c hc => hb c (List.mem_cons_of_mem _ hc)) (Nat.lcm_pos h (hb b List.mem_cons_self))
theorem dvd_fold : ∀ {bs : List Nat} {W : Nat}, W ∣ bs.foldl Nat.lcm W ∧ ∀ b ∈ bs, b ∣ bs.foldl Nat.lcm W
  | [], W => ⟨Nat.dvd_refl _, fun _ h => by cases h⟩
  | b :: bs, W => by
    obtain ⟨h1, h2⟩ := dvd_fold (bs := bs) (W := Nat.lcm W b)
    refine ⟨Nat.dvd_trans (Nat.dvd_lcm_left W b) h1, fun c hc => ?_⟩
    rcases List.mem_cons.mp hc with rfl | hc
    · exact Nat.dvd_trans (Nat.dvd_lcm_right W _) h1
    · exact h2 c hc
theorem lcmN {W b : Nat} : W * b / Nat.gcd W b = Nat.lcm W b := rfl
abbrev whIn : NStm := sFor (iV (nF 3)) (gN 6) (sAsg (nOp2 oFdiv (.e (nOp2 oMul (.o 1) (.o 6))) (.e (nCall D_9 (aCons (.o 1) (aCons (.o 6) (aNil)))))) (gN 1))
theorem whIn_spec {D X : Option Sl} {x6 : Option Sl} {W : Nat} {bs : List Nat} (hb : ∀ b ∈ bs, 0 < b ∧ b ∣ Mm ∧ b ≤ 30) (h0 : 0 < W) (hW : W ∣ Mm) (v6 : Vl x6) {Nx : NSt → Prop} {Rt : PyData → NSt → Prop} {Bk Ct : NSt → Prop}
    (hN : ∀ y6, Vl y6 → Nx [D, some (.val (nI (bs.foldl Nat.lcm W))), X, some (.val (.list (bs.map nI))), none, none, y6]) : WpS (whIn [D, some (.val (nI W)), X, some (.own (bs.map nI)), none, none, x6]) Nx Rt Bk Ct := by
  rw [wps_sFor]
  simp -dsimp
  refine wps_forL (fun rem n => ∃ (cs : List Nat) (V : Nat) (y6 : Option Sl), rem = cs.map nI ∧ n = [D, some (.val (nI V)), X, some (.val (.list (bs.map nI))), none, none, y6] ∧ Vl y6 ∧ cs.foldl Nat.lcm V = bs.foldl Nat.lcm W ∧ 0 < V ∧ V ∣ Mm ∧ ∀ b ∈ cs, 0 < b ∧ b ∣ Mm ∧ b ≤ 30) ?_ ?_ _ _ ⟨bs, W, x6, rfl, rfl, v6, rfl, h0, hW, hb⟩
  · rintro d rem n ⟨cs, V, y6, hc, rfl, w6, hf, V0, VM, hb⟩
    cases cs with
    | nil => cases hc
    | cons b cs =>
      cases hc
      obtain ⟨b0, bM, b30⟩ := hb b List.mem_cons_self
      have hV : V ≤ 10 ^ 13 := Nat.le_trans (Nat.le_of_dvd Mm_pos VM) Mm_le
      have c1 : 10 ^ 13 ≤ 10 ^ 44 := by decide +kernel
      have c2 : 30 ≤ 10 ^ 44 := by decide +kernel
      have c3 : 10 ^ 44 ≤ 10 ^ 89 := by decide +kernel
      have e9 := s9 (a := V) (b := b) (by omega) (by omega)
      have m1 := mulN (a := V) (b := b) (lt_big (by omega)) (lt_big (by omega))
      have hg : 0 < Nat.gcd V b := Nat.gcd_pos_of_pos_left _ V0
      have hgl : Nat.gcd V b ≤ V := Nat.gcd_le_left _ V0
      have f1 := fdivN (a := V * b) hg (lt_big (by omega))
      rw [lcmN] at f1
      refine ⟨[D, some (.val (nI V)), X, some (.val (.list (bs.map nI))), none, none, some (.val (nI b))], gN_vl (x := y6) rfl w6, ?_⟩
      have q1 := Nat.lcm_pos V0 b0
      have q2 := Nat.lcm_dvd VM bM
      have q3 : cs.foldl Nat.lcm (Nat.lcm V b) = bs.foldl Nat.lcm W := hf
      unfold nI
      generalize V * b = p at *
      generalize Nat.gcd V b = q at *
      generalize Nat.lcm V b = lc at *
      simp -dsimp [e9, m1, f1]
      exact ⟨cs, rfl, lc, _, ⟨rfl, rfl⟩, Vl.val, q3, q1, q2, fun c hc => hb c (List.mem_cons_of_mem _ hc)⟩
  · rintro n ⟨cs, V, y6, hc, rfl, w6, hf, V0, VM, hb⟩
    cases cs with
    | cons b cs => cases hc
    | nil =>
      have hf : V = bs.foldl Nat.lcm W := hf
      rw [hf]
      exact hN y6 w6
abbrev whB : NStm := sSeq (sOwn 3 (nIfO (asB (nOp2 oEq (.e (nOp2 oIx (.o 2) (.e (nC (.int 0))))) (.e (nC (.str "value"))))) (nLstO (aCons (.e (nOp2 oIx (.o 2) (.e (nC (.int 2))))) (aNil))) (nLstO (aNil))))
  (sSeq (sExpr (nMeth1 3 mExtend (.e (nIf (asB (nOp2 oEq (.e (nOp2 oIx (.o 2) (.e (nC (.int 0))))) (.e (nC (.str "steps"))))) (nL (nLc (iV (nOp2 oIx (.o 2) (.e (nC (.int 1))))) (gT (gCons' (gN 4) (gCons' (gN 5) (gNil')))) (tYesN) (nOp2 oIx (.o 5) (.e (nC (.int 1)))) [4, 5])) (nL (nLstO (aNil)))))))
  whIn)
theorem whB_spec {n : Nat} {x : Duty} (h : GD n x) {D x3 x6 : Option Sl} {W : Nat} (h0 : 0 < W) (hW : W ∣ Mm) (v3 : Vo x3) (v6 : Vl x6) {Nx : NSt → Prop} {Rt : PyData → NSt → Prop} {Bk Ct : NSt → Prop}
    (hN : ∀ y3 y6, Vl y3 → Vl y6 → Nx [D, some (.val (nI ((dens x).foldl Nat.lcm W))), some (.val (dD x)), y3, none, none, y6]) : WpS (whB [D, some (.val (nI W)), some (.val (dD x)), x3, none, none, x6]) Nx Rt Bk Ct := by
  have sz := sizeBig
  have z1 : 1 ≤ sizeLine := by omega
  have z4 : 4 ≤ sizeLine := by omega
  obtain ⟨hd, hdl⟩ := dens_ok h
  have fin : WpS (whIn [D, some (.val (nI W)), some (.val (dD x)), some (.own ((dens x).map nI)), none, none, x6]) Nx Rt Bk Ct := whIn_spec hd h0 hW v6 fun y6 w6 => hN _ y6 Vl.val w6
  have me : ∀ (a b : List PyData), a.length + b.length ≤ 4 → mExtend a (.list b) = some (a ++ b, .none) := fun a b hab => by
    show (if a.length + b.length ≤ sizeLine then _ else _) = _
    rw [if_pos (by omega)]
  refine wps_sq ?_
  generalize whIn = tail at *
  cases n with
  | zero => exact h.elim
  | succ n =>
  cases x with
  | free =>
    rw [dD_free] at *
    have m0 := me [] [] (by simp)
    simp -dsimp [atI_0, m0]
    exact ⟨vom v3, fin⟩
  | value a b =>
    rw [dD_value] at *
    have m0 := me [.int (b : Int)] [] (by simp)
    simp -dsimp [atI_0, atI_2, m0, z1]
    exact ⟨vom v3, fin⟩
  | unit w k =>
    have m0 := me [] [] (by simp)
    cases w with
    | false =>
      rw [dD_piece] at *
      simp -dsimp [atI_0, m0]
      exact ⟨vom v3, fin⟩
    | true =>
      rw [dD_weight] at *
      simp -dsimp [atI_0, m0]
      exact ⟨vom v3, fin⟩
  | steps ss =>
    have h : GSt ss := h
    rw [dD_steps] at *
    have c1 := lc_map (fi := iV (nOp2 oIx (.o 2) (.e (nC (.int 1))))) (g := gT (gCons' (gN 4) (gCons' (gN 5) (gNil')))) (f := nOp2 oIx (.o 5) (.e (nC (.int 1)))) (vs := [4, 5]) (n := [D, some (.val (nI W)), some (.val (.tuple [.str "steps", .tuple (ss.map dSt)])), some (.own []), none, none, x6])
      (xs := ss) dSt (fun s => nI s.2.2) (by
        apply wp_eq
        simp -dsimp [atI_1]) rfl (fun s hs => ⟨_, rfl, by
        apply wp_eq
        unfold dPt
        simp -dsimp [atI_1]
        rfl, rfl⟩) (by have := h.len; omega) rfl
    have m0 := me [] (ss.map fun s => nI s.2.2) (by rw [List.length_map]; have := h.len; simpa using this)
    have ed : (dens (.steps ss)).map nI = [] ++ ss.map fun s => nI s.2.2 := by simp [dens]
    rw [ed] at fin
    generalize (ss.map fun s => nI s.2.2) = K at *
    simp -dsimp [atI_0, atI_1, c1, m0]
    exact ⟨vom v3, fin⟩
  | group g ds =>
    have m0 := me [] [] (by simp)
    rw [dD_group] at *
    cases g with
    | most =>
      have gs : gS .most = "most" := rfl
      rw [gs] at *
      simp -dsimp [atI_0, m0]
      exact ⟨vom v3, fin⟩
    | least =>
      have gs : gS .least = "least" := rfl
      rw [gs] at *
      simp -dsimp [atI_0, m0]
      exact ⟨vom v3, fin⟩
    | sum =>
      have gs : gS .sum = "sum" := rfl
      rw [gs] at *
      simp -dsimp [atI_0, m0]
      exact ⟨vom v3, fin⟩
end Wlaw_k02
end NL
end L2
namespace L2
namespace NL
open PySem PySem.Spec PyProof.Rows
namespace Wlaw_k02
/-! dues, scaled -/
def whole (n : Nat) (d : Duty) : Nat := ((pre n d).flatMap dens).foldl Nat.lcm 1
theorem all_dens {n : Nat} {d : Duty} (h : GD n d) : ∀ b ∈ (pre n d).flatMap dens, 0 < b ∧ b ∣ Mm ∧ b ≤ 30 := fun b hb => by
  obtain ⟨x, hx, hb⟩ := List.mem_flatMap.mp hb
  exact (dens_ok (pre_GD h x hx)).1 b hb
theorem whole_pos {n : Nat} {d : Duty} (h : GD n d) : 0 < whole n d := fold_pos (fun b hb => (all_dens h b hb).1) (by omega)
theorem whole_dvd {n : Nat} {d : Duty} (h : GD n d) : whole n d ∣ Mm := fold_dvd (fun b hb => (all_dens h b hb).2.1) (Nat.one_dvd _)
theorem whole_all {n : Nat} {d : Duty} : ∀ x ∈ pre n d, ∀ b ∈ dens x, b ∣ whole n d := fun x hx b hb => (dvd_fold (bs := (pre n d).flatMap dens) (W := 1)).2 b (List.mem_flatMap.mpr ⟨x, hx, hb⟩)
theorem whole_le {n : Nat} {d : Duty} (h : GD n d) : whole n d ≤ 10 ^ 13 := Nat.le_trans (Nat.le_of_dvd Mm_pos (whole_dvd h)) Mm_le
theorem s24 {n : Nat} (hn : n ≤ 5) {d : Duty} (h : GD n d) : D_23 [some (.val (dD d))] = .ok (nI (whole n d)) [some (.val (dD d))] := by
  have e23 := s23 hn h
  apply wp_eq
  unfold D_23
  rw [wp_run]
  have e1 : gN 1 (PyData.int 1) [some (.val (dD d)), none, none, none, none, none, none] = some [some (.val (dD d)), some (.val (.int 1)), none, none, none, none, none] := rfl
  unfold B_23
  refine wps_sq ?_
  simp -dsimp [e1, e23, -gN_eq]
  refine wps_forL (fun rem n' => ∃ (todo : List Duty) (W : Nat) (x2 x3 x6 : Option Sl), rem = todo.map dD ∧ n' = [some (.val (dD d)), some (.val (nI W)), x2, x3, none, none, x6] ∧ Vl x2 ∧ Vo x3 ∧ Vl x6 ∧ 0 < W ∧ W ∣ Mm ∧ (todo.flatMap dens).foldl Nat.lcm W = whole n d ∧ ∀ x ∈ todo, GD n x) ?_ ?_ _ _
    ⟨pre n d, 1, none, none, none, rfl, rfl, Vl.none, .inl rfl, Vl.none, by omega, Nat.one_dvd _, rfl, pre_GD h⟩
  · rintro e rem n' ⟨todo, W, x2, x3, x6, hr, rfl, v2, v3, v6, W0, WM, hf, hg⟩
    cases todo with
    | nil => cases hr
    | cons x todo =>
      cases hr
      refine ⟨[some (.val (dD d)), some (.val (nI W)), some (.val (dD x)), x3, none, none, x6], gN_vl (x := x2) rfl v2, ?_⟩
      have hx := hg x List.mem_cons_self
      obtain ⟨hd, _⟩ := dens_ok hx
      refine whB_spec hx W0 WM v3 v6 fun y3 y6 w3 w6 => ?_
      refine ⟨todo, (dens x).foldl Nat.lcm W, _, y3, y6, rfl, rfl, Vl.val, Vo.vl w3, w6, fold_pos (fun b hb => (hd b hb).1) W0, fold_dvd (fun b hb => (hd b hb).2.1) WM, ?_, fun y hy => hg y (List.mem_cons_of_mem _ hy)⟩
      rw [List.flatMap_cons, List.foldl_append] at hf
      exact hf
  · rintro n' ⟨todo, W, x2, x3, x6, hr, rfl, v2, v3, v6, W0, WM, hf, hg⟩
    cases todo with
    | cons x todo => cases hr
    | nil =>
      have hf : W = whole n d := hf
      rw [hf]
      simp -dsimp
theorem kd_fuel {W : Nat} {g : Gd} : ∀ {n f : Nat} {d : Duty}, GD n d → n ≤ f → kd W g f d = kd W g n d
  | 0, _, _, h, _ => h.elim
  | n + 1, 0, _, _, h => by omega
  | n + 1, f + 1, d, h, hn => by
    cases d with
    | group c ds =>
      obtain ⟨_, _, hd⟩ : ds ≠ [] ∧ ds.length ≤ 3 ∧ ∀ d ∈ ds, GD n d := h
      show comb c (ds.map (kd W g f)) = comb c (ds.map (kd W g n))
      congr 1
      exact List.map_congr_left fun d hm => kd_fuel (hd d hm) (by omega)
    | _ => rfl
theorem mul_max' {c a b : Nat} : c * max a b = max (c * a) (c * b) := by
  rcases Nat.le_total a b with h | h
  · rw [Nat.max_eq_right h, Nat.max_eq_right (Nat.mul_le_mul_left _ h)]
  · rw [Nat.max_eq_left h, Nat.max_eq_left (Nat.mul_le_mul_left _ h)]
theorem mul_min' {c a b : Nat} : c * min a b = min (c * a) (c * b) := by
  rcases Nat.le_total a b with h | h
  · rw [Nat.min_eq_left h, Nat.min_eq_left (Nat.mul_le_mul_left _ h)]
  · rw [Nat.min_eq_right h, Nat.min_eq_right (Nat.mul_le_mul_left _ h)]
theorem maxN_mul {c : Nat} : ∀ ks : List Nat, maxN (ks.map (c * ·)) = c * maxN ks
  | [] => rfl
  | [x] => rfl
  | x :: y :: r => by
    have := maxN_mul (c := c) (y :: r)
    show max (c * x) (maxN ((y :: r).map (c * ·))) = c * max x (maxN (y :: r))
    rw [this, mul_max']
theorem minN_mul {c : Nat} : ∀ ks : List Nat, minN (ks.map (c * ·)) = c * minN ks
  | [] => rfl
  | [x] => rfl
  | x :: y :: r => by
    have := minN_mul (c := c) (y :: r)
    show min (c * x) (minN ((y :: r).map (c * ·))) = c * min x (minN (y :: r))
    rw [this, mul_min']
theorem sum_mul {c : Nat} : ∀ ks : List Nat, (ks.map (c * ·)).sum = c * ks.sum
  | [] => rfl
  | x :: r => by rw [List.map_cons, List.sum_cons, List.sum_cons, sum_mul r, Nat.mul_add]
theorem stK_scale {c W v : Nat} : ∀ {ss : List (Nat × Nat × Nat)}, (∀ s ∈ ss, s.2.2 ∣ W) → stK (c * W) v ss = c * stK W v ss
  | [], _ => rfl
  | [s], h => by
    rw [stK_one, stK_one, Nat.mul_div_assoc c (h s List.mem_cons_self)]
    rw [Nat.mul_left_comm, Nat.mul_assoc c]
  | s :: t :: r, h => by
    rw [stK_cons, stK_cons, stK_scale (ss := t :: r) (fun x hx => h x (List.mem_cons_of_mem _ hx)), Nat.mul_div_assoc c (h s List.mem_cons_self), Nat.mul_add]
    congr 1
    rw [Nat.mul_left_comm, Nat.mul_assoc c]
theorem kd_scale {c W : Nat} {g : Gd} : ∀ {n : Nat} {d : Duty}, GD n d → (∀ x ∈ pre n d, ∀ b ∈ dens x, b ∣ W) → kd (c * W) g n d = c * kd W g n d
  | 0, _, h, _ => h.elim
  | n + 1, d, h, hw => by
    cases d with
    | free => rfl
    | value a b =>
      have hb : b ∣ W := hw _ List.mem_cons_self b (by simp [dens])
      show g.v * a * (c * W / b) = c * (g.v * a * (W / b))
      rw [Nat.mul_div_assoc c hb, Nat.mul_left_comm]
    | unit w k =>
      show k * (c * W) * _ = c * (k * W * _)
      rw [Nat.mul_left_comm, Nat.mul_assoc c]
    | steps ss => exact stK_scale fun s hs => hw _ List.mem_cons_self s.2.2 (List.mem_map.mpr ⟨s, hs, rfl⟩)
    | group k ds =>
      obtain ⟨_, _, hd⟩ : ds ≠ [] ∧ ds.length ≤ 3 ∧ ∀ d ∈ ds, GD n d := h
      have e : ds.map (kd (c * W) g n) = (ds.map (kd W g n)).map (c * ·) := by
        rw [List.map_map]
        exact List.map_congr_left fun d hm => kd_scale (hd d hm) fun x hx => hw x (List.mem_cons_of_mem _ (List.mem_flatMap.mpr ⟨d, List.mem_reverse.mpr hm, hx⟩))
      show comb k (ds.map (kd (c * W) g n)) = c * comb k (ds.map (kd W g n))
      rw [e]
      cases k with
      | most => exact maxN_mul _
      | least => exact minN_mul _
      | sum => exact sum_mul _
end Wlaw_k02
end NL
end L2
namespace L2
namespace NL
open PySem PySem.Spec PyProof.Rows
namespace Wlaw_k02
/-! what is due of goods -/
theorem maxN_le {B : Nat} : ∀ {ks : List Nat}, (∀ k ∈ ks, k ≤ B) → maxN ks ≤ B
  | [], _ => Nat.zero_le _
  | [x], h => h x List.mem_cons_self
  | x :: y :: r, h => Nat.max_le.mpr ⟨h x List.mem_cons_self, maxN_le (ks := y :: r) fun k hk => h k (List.mem_cons_of_mem _ hk)⟩
theorem minN_le' {B : Nat} : ∀ {ks : List Nat}, (∀ k ∈ ks, k ≤ B) → minN ks ≤ B
  | [], _ => Nat.zero_le _
  | [x], h => h x List.mem_cons_self
  | x :: y :: r, h => Nat.le_trans (Nat.min_le_left _ _) (h x List.mem_cons_self)
theorem sum_le {B : Nat} : ∀ {ks : List Nat}, (∀ k ∈ ks, k ≤ B) → ks.sum ≤ ks.length * B
  | [], _ => Nat.zero_le _
  | x :: r, h => by
    rw [List.sum_cons, List.length_cons, Nat.add_mul, Nat.one_mul]
    have := h x List.mem_cons_self
    have := sum_le (ks := r) fun k hk => h k (List.mem_cons_of_mem _ hk)
    omega
theorem stK_le {W v : Nat} : ∀ {ss : List (Nat × Nat × Nat)}, (∀ s ∈ ss, s.2.1 ≤ 40) → stK W v ss ≤ ss.length * (v * W * 40)
  | [], _ => Nat.zero_le _
  | [s], h => by
    rw [stK_one, List.length_singleton, Nat.one_mul]
    exact Nat.mul_le_mul (Nat.mul_le_mul (Nat.sub_le _ _) (Nat.div_le_self _ _)) (h s List.mem_cons_self)
  | s :: t :: r, h => by
    rw [stK_cons, List.length_cons, Nat.add_mul, Nat.one_mul]
    have h1 := stK_le (W := W) (v := v) (ss := t :: r) fun x hx => h x (List.mem_cons_of_mem _ hx)
    have h2 : (min v t.1 - s.1) * (W / s.2.2) * s.2.1 ≤ v * W * 40 := Nat.mul_le_mul (Nat.mul_le_mul (Nat.le_trans (Nat.sub_le _ _) (Nat.min_le_left _ _)) (Nat.div_le_self _ _)) (h s List.mem_cons_self)
    omega
theorem kd_le {g : Gd} (hg : GG g) {W : Nat} (hW : W ≤ 10 ^ 13) : ∀ {n : Nat} {d : Duty}, GD n d → kd W g n d ≤ 3 ^ n * 10 ^ 25
  | 0, _, h => h.elim
  | n + 1, d, h => by
    have hp : 1 ≤ 3 ^ (n + 1) := Nat.one_le_pow _ _ (by omega)
    have hB : 10 ^ 25 ≤ 3 ^ (n + 1) * 10 ^ 25 := by
      have := Nat.mul_le_mul_right (10 ^ 25) hp
      rwa [Nat.one_mul] at this
    cases d with
    | free => exact Nat.zero_le _
    | value a b =>
      have h : GRt a b := h
      refine Nat.le_trans ?_ hB
      show g.v * a * (W / b) ≤ _
      exact Nat.le_trans (Nat.mul_le_mul (Nat.mul_le_mul hg.v h.a40) (Nat.le_trans (Nat.div_le_self _ _) hW)) (by decide +kernel)
    | unit w k =>
      have h : k ≤ 200 := h
      refine Nat.le_trans ?_ hB
      show k * W * (if w then g.w else g.p) ≤ _
      have : (if w then g.w else g.p) ≤ 1000 := by
        cases w
        · exact hg.p
        · exact hg.w
      exact Nat.le_trans (Nat.mul_le_mul (Nat.mul_le_mul h hW) this) (by decide +kernel)
    | steps ss =>
      have h : GSt ss := h
      refine Nat.le_trans (Nat.le_trans (stK_le fun s hs => (h.rt s hs).a40) ?_) hB
      exact Nat.le_trans (Nat.mul_le_mul h.len (Nat.mul_le_mul (Nat.mul_le_mul hg.v hW) (Nat.le_refl 40))) (by decide +kernel)
    | group c ds =>
      obtain ⟨_, hl, hd⟩ : ds ≠ [] ∧ ds.length ≤ 3 ∧ ∀ d ∈ ds, GD n d := h
      have hk : ∀ k ∈ ds.map (kd W g n), k ≤ 3 ^ n * 10 ^ 25 := fun k hk => by
        obtain ⟨d, hm, rfl⟩ := List.mem_map.mp hk
        exact kd_le hg hW (hd d hm)
      have e : 3 ^ (n + 1) * 10 ^ 25 = 3 * (3 ^ n * 10 ^ 25) := by rw [Nat.pow_succ, Nat.mul_comm (3 ^ n) 3, Nat.mul_assoc]
      rw [e]
      show comb c (ds.map (kd W g n)) ≤ _
      obtain ⟨B, hB'⟩ : ∃ B, B = 3 ^ n * 10 ^ 25 := ⟨_, rfl⟩
      rw [← hB'] at hk ⊢
      clear hB hB' e hp
      cases c with
      | most => exact Nat.le_trans (maxN_le hk) (by omega)
      | least => exact Nat.le_trans (minN_le' hk) (by omega)
      | sum =>
        refine Nat.le_trans (sum_le hk) ?_
        rw [List.length_map]
        exact Nat.mul_le_mul_right _ hl
/-- the due, over the whole -/
def due (g : Gd) (n : Nat) (d : Duty) : Nat := kd Mm g n d
theorem due_le {g : Gd} (hg : GG g) {n : Nat} (hn : n ≤ 5) {d : Duty} (h : GD n d) : due g n d ≤ 10 ^ 28 := by
  refine Nat.le_trans (kd_le hg Mm_le h) ?_
  have : 3 ^ n ≤ 3 ^ 5 := Nat.pow_le_pow_right (by omega) hn
  exact Nat.le_trans (Nat.mul_le_mul_right _ this) (by decide +kernel)
theorem due_eq {g : Gd} {n : Nat} {d : Duty} (h : GD n d) : due g n d = (Mm / whole n d) * kd (whole n d) g n d ∧ kd (whole n d) g n d * Mm = due g n d * whole n d := by
  have e : Mm = (Mm / whole n d) * whole n d := (Nat.div_mul_cancel (whole_dvd h)).symm
  have e2 : due g n d = (Mm / whole n d) * kd (whole n d) g n d := by
    unfold due
    conv => lhs; rw [e]
    exact kd_scale h whole_all
  refine ⟨e2, ?_⟩
  rw [e2]
  conv => lhs; rw [e]
  rw [← Nat.mul_assoc, Nat.mul_comm (kd _ _ _ _)]
theorem s26' {g : Gd} (hg : GG g) {n : Nat} (hn : n ≤ 5) {d : Duty} (h : GD n d) {W : Nat} (hW : W ≤ 10 ^ 26) : D_25 12 [some (.val (dD d)), some (.val (dG g)), some (.val (nI W))] = .ok (nI (kd W g n d)) [some (.val (dD d)), some (.val (dG g)), some (.val (nI W))] := by
  rw [s26 hg hW 12 d (GD.mono (by omega) h), kd_fuel h (by omega)]
theorem s27 {g : Gd} (hg : GG g) {n : Nat} (hn : n ≤ 5) {d : Duty} (h : GD n d) : D_26 [some (.val (dD d)), some (.val (dG g))] = .ok (dF (due g n d)) [some (.val (dD d)), some (.val (dG g))] := by
  have e1 := s24 hn h
  have e2 := s26' hg hn h (Nat.le_trans (whole_le h) (by decide +kernel))
  obtain ⟨q1, q2⟩ := due_eq (g := g) h
  have hle : kd (whole n d) g n d ≤ 10 ^ 44 := by
    refine Nat.le_trans (kd_le hg (whole_le h) h) ?_
    have : 3 ^ n ≤ 3 ^ 5 := Nat.pow_le_pow_right (by omega) hn
    exact Nat.le_trans (Nat.mul_le_mul_right _ this) (by decide +kernel)
  have e3 := s10F (k := due g n d) hle (whole_pos h) (Nat.le_trans (whole_le h) (by decide +kernel)) q2
  apply wp_eq
  unfold D_26
  rw [wp_run]
  unfold nI at *
  simp -dsimp [B_26, e1, e2, e3]
theorem s28 {g : Gd} (hg : GG g) {n : Nat} (hn : n ≤ 5) {d : Duty} (h : GD n d) : D_27 [some (.val (dD d)), some (.val (dG g))] = .ok (dF (due g n d)) [some (.val (dD d)), some (.val (dG g))] := by
  have e1 := s22 hn h g
  have e2 := s27 hg hn h
  apply wp_eq
  unfold D_27
  rw [wp_run]
  simp -dsimp [B_27, e1, e2]
def allG (gs : List Gd) : Gd := ⟨(gs.map (·.v)).sum, (gs.map (·.p)).sum, (gs.map (·.w)).sum⟩
end Wlaw_k02
end NL
end L2
namespace L2
namespace NL
open PySem PySem.Spec PyProof.Rows
namespace Wlaw_k02
/-! the law's own due -/
theorem cutK {xs : List PyData} {k : Nat} (hk : k ≤ xs.length) : cutP xs (some (k : Int)) none = xs.drop k := by
  unfold cutP
  have e : HT.sIx xs.length 0 (some (k : Int)) = min k xs.length := HT.sIx_nat xs.length 0 k
  rw [HT.sIx_none, e, Nat.min_eq_left hk]
  exact List.take_of_length_le (by rw [List.length_drop]; exact Nat.le_refl _)
theorem rg_range {n : Nat} : rgD 0 (n : Int) = (List.range' 0 n).map nI := by
  unfold rgD
  rw [← List.range_eq_range', show ((n : Int) - 0).toNat = n by omega]
  refine List.map_congr_left fun i _ => ?_
  show PyData.int (0 + (i : Int)) = PyData.int (i : Int)
  rw [Int.zero_add]
theorem drop_mid {α : Type} {ys : List α} {y : α} : ∀ {xs : List α}, (xs ++ y :: ys).drop (xs.length + 1) = ys
  | [] => rfl
  | x :: xs => by
    show ((x :: (xs ++ y :: ys)).drop (xs.length + 1 + 1)) = ys
    rw [List.drop_succ_cons]
    exact drop_mid
theorem oAdd_ls {a b : List PyData} (h : a.length + b.length ≤ 1000) : oAdd (.list a) (.list b) = some (.list (a ++ b)) := by
  have sz := sizeBig
  rw [oAdd_list, if_pos (by omega)]
def ownB (v : Nat) (s : Nat × Nat × Nat) : List (Nat × Nat × Nat) → Nat
  | [] => v - s.1
  | t :: _ => min v t.1 - s.1
theorem stK_own {W v : Nat} {s : Nat × Nat × Nat} : ∀ {r : List (Nat × Nat × Nat)}, stK W v (s :: r) = ownB v s r * (W / s.2.2) * s.2.1 + stK W v r
  | [] => rfl
  | t :: r => rfl
abbrev dueB : NStm := sSeq (sAsg (nOp2 oIx (.e (nOp2 oAdd (.e (nL (nLc (iV (nSl (.o 6) (pSome (nOp2 oAdd (.o 7) (.e (nC (.int 1))))) (pNone))) (gN 9) (tYesN) (nOp2 oIx (.o 9) (.e (nC (.int 0)))) [9]))) (.e (nL (nLstO (aCons (.e (nV 2)) (aNil))))))) (.e (nC (.int 0)))) (gN 8))
  (sSeq (sAsg (nCB bMax (aCons (.e (nC (.int 0))) (aCons (.e (nOp2 oSub (.e (nCB bMin (aCons (.o 2) (aCons (.o 8) (aNil))))) (.e (nOp2 oIx (.e (nOp2 oIx (.o 6) (.o 7))) (.e (nC (.int 0))))))) (aNil)))) (gN 10))
  (sSeq (sIf (asB (nOp2 oEq (.o 7) (.e (nOp2 oSub (.e (nCB bLen (aCons (.o 6) (aNil)))) (.e (nC (.int 1))))))) (sAsg (nCB bMax (aCons (.e (nC (.int 0))) (aCons (.e (nOp2 oSub (.o 2) (.e (nOp2 oIx (.e (nOp2 oIx (.o 6) (.o 7))) (.e (nC (.int 0))))))) (aNil)))) (gN 10)) (sNil))
  (sAsg (nCall D_40 (aCons (.o 5) (aCons (.e (nCall D_39 (aCons (.e (nOp2 oMul (.o 10) (.e (nOp2 oIx (.e (nOp2 oIx (.e (nOp2 oIx (.o 6) (.o 7))) (.e (nC (.int 1))))) (.e (nC (.int 0))))))) (aCons (.e (nOp2 oIx (.e (nOp2 oIx (.e (nOp2 oIx (.o 6) (.o 7))) (.e (nC (.int 1))))) (.e (nC (.int 1))))) (aNil))))) (aNil)))) (gN 5))))
theorem dueB_spec {D0 D1 D3 D4 x8 x10 : Option Sl} {rest : NSt} {ss pr todo : List (Nat × Nat × Nat)} {s : Nat × Nat × Nat} (h : GSt ss) (hs : ss = pr ++ s :: todo) {v a : Nat} (hv : v ≤ 10 ^ 10) (ha : a ≤ 10 ^ 28) (v8 : Vl x8) (v10 : Vl x10) {Nx : NSt → Prop} {Rt : PyData → NSt → Prop} {Bk Ct : NSt → Prop}
    (hN : ∀ y8 y10, Vl y8 → Vl y10 → Nx (D0 :: D1 :: some (.val (nI v)) :: D3 :: D4 :: some (.val (dF (a + ownB v s todo * (Mm / s.2.2) * s.2.1))) :: some (.val (.tuple (ss.map dSt))) :: some (.val (nI pr.length)) :: y8 :: none :: y10 :: rest)) :
    WpS (dueB (D0 :: D1 :: some (.val (nI v)) :: D3 :: D4 :: some (.val (dF a)) :: some (.val (.tuple (ss.map dSt))) :: some (.val (nI pr.length)) :: x8 :: none :: x10 :: rest)) Nx Rt Bk Ct := by
  have sz := sizeBig
  have hl := h.len
  have hlen : ss.length = pr.length + (todo.length + 1) := by rw [hs, List.length_append]; rfl
  have hg := h.rt s (by rw [hs]; simp)
  have hix : atI (ss.map dSt) (pr.length : Int) = some (dSt s) := by
    have e : ss.map dSt = pr.map dSt ++ dSt s :: todo.map dSt := by rw [hs]; simp
    have e2 : (pr.length : Int) = ((pr.map dSt).length : Int) := by rw [List.length_map]
    rw [e, e2]
    exact getE
  have hcut : cutP (ss.map dSt) (some ((pr.length : Int) + 1)) none = todo.map dSt := by
    have e0 : (pr.length : Int) + 1 = ((pr.length + 1 : Nat) : Int) := by omega
    rw [e0, cutK (by rw [List.length_map]; omega)]
    rw [hs, List.map_append, List.map_cons]
    have e2 : pr.length = (pr.map dSt).length := by rw [List.length_map]
    rw [e2]
    exact drop_mid
  have c1 := lc_map (fi := iV (nSl (.o 6) (pSome (nOp2 oAdd (.o 7) (.e (nC (.int 1))))) (pNone))) (g := gN 9) (f := nOp2 oIx (.o 9) (.e (nC (.int 0)))) (vs := [9]) (n := D0 :: D1 :: some (.val (nI v)) :: D3 :: D4 :: some (.val (dF a)) :: some (.val (.tuple (ss.map dSt))) :: some (.val (nI pr.length)) :: x8 :: none :: x10 :: rest)
    (xs := todo) dSt (fun s => nI s.1) (by
      unfold nI
      apply wp_eq
      simp -dsimp [hcut]) rfl (fun t ht => ⟨_, rfl, by
      apply wp_eq
      simp -dsimp [dSt, atI_0]
      rfl, rfl⟩) (by omega) rfl
  have e8 : ∀ b : PyData, gN 8 b (D0 :: D1 :: some (.val (nI v)) :: D3 :: D4 :: some (.val (dF a)) :: some (.val (.tuple (ss.map dSt))) :: some (.val (nI pr.length)) :: x8 :: none :: x10 :: rest) = some (D0 :: D1 :: some (.val (nI v)) :: D3 :: D4 :: some (.val (dF a)) :: some (.val (.tuple (ss.map dSt))) :: some (.val (nI pr.length)) :: some (.val b) :: none :: x10 :: rest) := fun b => gN_vl (x := x8) rfl v8
  have e10 : ∀ (x10 : Option Sl) (_ : Vl x10) (y b : PyData), gN 10 b (D0 :: D1 :: some (.val (nI v)) :: D3 :: D4 :: some (.val (dF a)) :: some (.val (.tuple (ss.map dSt))) :: some (.val (nI pr.length)) :: some (.val y) :: none :: x10 :: rest) = some (D0 :: D1 :: some (.val (nI v)) :: D3 :: D4 :: some (.val (dF a)) :: some (.val (.tuple (ss.map dSt))) :: some (.val (nI pr.length)) :: some (.val y) :: none :: some (.val b) :: rest) := fun x10 v10 y b => gN_vl (x := x10) rfl v10
  obtain ⟨s1, s2, s3⟩ := s
  have hg : GRt s2 s3 := hg
  have own_le : ∀ o : Nat, o ≤ v → ∃ kk : Nat, kk = o * (Mm / s3) * s2 ∧ oMul (.int (o : Int)) (.int (s2 : Int)) = some (.int ((o * s2 : Nat) : Int)) ∧ D_39 [some (.val (.int ((o * s2 : Nat) : Int))), some (.val (.int (s3 : Int)))] = .ok (dF kk) [some (.val (.int ((o * s2 : Nat) : Int))), some (.val (.int (s3 : Int)))] ∧ kk ≤ 10 ^ 28 := fun o ho => by
    have c10 : 10 ^ 10 ≤ 10 ^ 89 := by decide +kernel
    have a40 := hg.a40
    have b30 := hg.b30
    have m1 := mulN (a := o) (b := s2) (lt_big (by omega)) (lt_big (by omega))
    have b1 : o * s2 ≤ 10 ^ 10 * 40 := Nat.mul_le_mul (by omega) a40
    have b2 : 10 ^ 10 * 40 ≤ 10 ^ 44 := by decide +kernel
    have b3 : 30 ≤ 10 ^ 44 := by decide +kernel
    have e := s44F (a := o * s2) (b := s3) (k := o * (Mm / s3) * s2) (by omega) hg.pos (by omega) (by
      rw [Nat.mul_right_comm o (Mm / s3) s2, Nat.mul_assoc (o * s2), Nat.div_mul_cancel hg.dvd])
    refine ⟨_, rfl, m1, e, ?_⟩
    exact Nat.le_trans (Nat.mul_le_mul (Nat.mul_le_mul (Nat.le_trans ho hv) (Nat.le_trans (Nat.div_le_self _ _) Mm_le)) a40) (by decide +kernel)
  have c30 : 10 ^ 28 ≤ 10 ^ 30 := by decide +kernel
  cases todo with
  | nil =>
    obtain ⟨kk, hkk, m1, e44, hkl⟩ := own_le (v - s1) (Nat.sub_le _ _)
    have e45 := s45 (k := a) (j := kk) (by omega) (by omega)
    have hown : ownB v (s1, s2, s3) [] = v - s1 := rfl
    rw [hown] at hN
    simp only at hN
    rw [← hkk] at hN
    have hlast : (pr.length : Int) = (ss.length : Int) - 1 := by rw [hlen]; simp
    have hmn : min (v : Int) (v : Int) = (v : Int) := by omega
    have hmx : max (0 : Int) ((v : Int) - s1) = ((v - s1 : Nat) : Int) := max0
    have hds : oIx (dSt (s1, s2, s3)) (.int 0) = some (.int (s1 : Int)) := rfl
    have hds1 : oIx (dSt (s1, s2, s3)) (.int 1) = some (dPt (s2, s3)) := rfl
    have hdp0 : oIx (dPt (s2, s3)) (.int 0) = some (.int (s2 : Int)) := rfl
    have hdp1 : oIx (dPt (s2, s3)) (.int 1) = some (.int (s3 : Int)) := rfl
    unfold nI at *
    generalize v - s1 = u at *
    generalize u * s2 = p1 at *
    simp -dsimp [c1, e8, e10 x10 v10, e10 _ Vl.val, hix, hmn, hmx, hds, hds1, hdp0, hdp1, atI_0, ← hlast, m1, e44, e45, -gN_eq, -oAdd_list, oAdd_ls]
    exact ⟨by omega, hN _ _ Vl.val Vl.val⟩
  | cons t todo =>
    obtain ⟨t1, t2⟩ := t
    obtain ⟨kk, hkk, m1, e44, hkl⟩ := own_le (min v t1 - s1) (Nat.le_trans (Nat.sub_le _ _) (Nat.min_le_left _ _))
    have e45 := s45 (k := a) (j := kk) (by omega) (by omega)
    have hown : ownB v (s1, s2, s3) ((t1, t2) :: todo) = min v t1 - s1 := rfl
    rw [hown] at hN
    simp only at hN
    rw [← hkk] at hN
    have hlast : ¬ (pr.length : Int) = (ss.length : Int) - 1 := by rw [hlen]; simp; omega
    have hmn : min (v : Int) (t1 : Int) = ((min v t1 : Nat) : Int) := minC
    have hmx : max (0 : Int) (((min v t1 : Nat) : Int) - s1) = ((min v t1 - s1 : Nat) : Int) := max0
    have hds : oIx (dSt (s1, s2, s3)) (.int 0) = some (.int (s1 : Int)) := rfl
    have hds1 : oIx (dSt (s1, s2, s3)) (.int 1) = some (dPt (s2, s3)) := rfl
    have hdp0 : oIx (dPt (s2, s3)) (.int 0) = some (.int (s2 : Int)) := rfl
    have hdp1 : oIx (dPt (s2, s3)) (.int 1) = some (.int (s3 : Int)) := rfl
    have hKl : (todo.map fun s => nI s.1).length ≤ 4 := by rw [List.length_map]; have := hlen; simp at this; omega
    have ec : ((t1, t2) :: todo).map (fun s => nI s.1) = .int (t1 : Int) :: todo.map fun s => nI s.1 := rfl
    rw [ec] at c1
    generalize (todo.map fun s => nI s.1) = K at *
    have hcat : oAdd (.list (.int (t1 : Int) :: K)) (.list [.int (v : Int)]) = some (.list (.int (t1 : Int) :: (K ++ [.int (v : Int)]))) := oAdd_ls (by simp; omega)
    unfold nI at *
    generalize min v t1 = mv at *
    generalize mv - s1 = u at *
    generalize u * s2 = p1 at *
    simp -dsimp [c1, e8, e10 x10 v10, e10 _ Vl.val, hix, hmn, hmx, hds, hds1, hdp0, hdp1, atI_0, hlast, m1, e44, e45, hcat, -gN_eq, -oAdd_list]
    exact ⟨by omega, hN _ _ Vl.val Vl.val⟩
end Wlaw_k02
end NL
end L2
namespace L2
namespace NL
open PySem PySem.Spec PyProof.Rows
namespace Wlaw_k02
theorem stepsLoop {D0 D1 D3 D4 x7 x8 x10 : Option Sl} {rest : NSt} {ss : List (Nat × Nat × Nat)} (h : GSt ss) {v : Nat} (hv : v ≤ 10 ^ 10) (v7 : Vl x7) (v8 : Vl x8) (v10 : Vl x10) {Nx : NSt → Prop} {Rt : PyData → NSt → Prop} {Bk Ct : NSt → Prop}
    (hN : ∀ y7 y8 y10, Nx (D0 :: D1 :: some (.val (nI v)) :: D3 :: D4 :: some (.val (dF (stK Mm v ss))) :: some (.val (.tuple (ss.map dSt))) :: y7 :: y8 :: none :: y10 :: rest)) :
    WpS (sForL (gN 7) dueB (rgD 0 (ss.length : Int)) (D0 :: D1 :: some (.val (nI v)) :: D3 :: D4 :: some (.val (dF 0)) :: some (.val (.tuple (ss.map dSt))) :: x7 :: x8 :: none :: x10 :: rest)) Nx Rt Bk Ct := by
  have hbig : stK Mm v ss ≤ 10 ^ 28 := by
    refine Nat.le_trans (stK_le fun s hs => (h.rt s hs).a40) ?_
    exact Nat.le_trans (Nat.mul_le_mul h.len (Nat.mul_le_mul (Nat.mul_le_mul hv Mm_le) (Nat.le_refl 40))) (by decide +kernel)
  rw [rg_range]
  refine wps_forL (fun rem n => ∃ (pr todo : List (Nat × Nat × Nat)) (a : Nat) (y7 y8 y10 : Option Sl), rem = (List.range' pr.length todo.length).map nI ∧ ss = pr ++ todo ∧ n = (D0 :: D1 :: some (.val (nI v)) :: D3 :: D4 :: some (.val (dF a)) :: some (.val (.tuple (ss.map dSt))) :: y7 :: y8 :: none :: y10 :: rest) ∧ Vl y7 ∧ Vl y8 ∧ Vl y10 ∧ a + stK Mm v todo = stK Mm v ss)
    ?_ ?_ _ _ ⟨[], ss, 0, x7, x8, x10, rfl, rfl, rfl, v7, v8, v10, by omega⟩
  · rintro d rem n ⟨pr, todo, a, y7, y8, y10, hr, hs, rfl, w7, w8, w10, ha⟩
    cases todo with
    | nil => cases hr
    | cons s todo =>
      rw [List.length_cons, List.range'_succ, List.map_cons] at hr
      cases hr
      refine ⟨(D0 :: D1 :: some (.val (nI v)) :: D3 :: D4 :: some (.val (dF a)) :: some (.val (.tuple (ss.map dSt))) :: some (.val (nI pr.length)) :: y8 :: none :: y10 :: rest), gN_vl (x := y7) rfl w7, ?_⟩
      rw [stK_own] at ha
      refine dueB_spec h hs hv (by omega) w8 w10 fun z8 z10 u8 u10 => ?_
      exact ⟨pr ++ [s], todo, _, _, z8, z10, by rw [List.length_append]; rfl, by rw [hs]; simp, rfl, Vl.val, u8, u10, by omega⟩
  · rintro n ⟨pr, todo, a, y7, y8, y10, hr, hs, rfl, w7, w8, w10, ha⟩
    cases todo with
    | cons s todo =>
      rw [List.length_cons, List.range'_succ, List.map_cons] at hr
      cases hr
    | nil =>
      have ha : a + 0 = stK Mm v ss := ha
      have : a = stK Mm v ss := by omega
      rw [this]
      exact hN y7 y8 y10
theorem foldMin {b : Nat} : ∀ {ks : List Nat}, ks.foldl min b = minN (b :: ks)
  | [] => rfl
  | [y] => rfl
  | y :: z :: r => by
    have := foldMin (b := min b y) (ks := z :: r)
    show (z :: r).foldl min (min b y) = min b (min y (minN (z :: r)))
    rw [this]
    show min (min b y) (minN (z :: r)) = _
    omega
theorem foldMax {b : Nat} : ∀ {ks : List Nat}, ks.foldl max b = maxN (b :: ks)
  | [] => rfl
  | [y] => rfl
  | y :: z :: r => by
    have := foldMax (b := max b y) (ks := z :: r)
    show (z :: r).foldl max (max b y) = max b (max y (maxN (z :: r)))
    rw [this]
    show max (max b y) (maxN (z :: r)) = _
    omega
theorem minN_dup {b : Nat} {ks : List Nat} : minN (b :: b :: ks) = minN (b :: ks) := by
  show min b (minN (b :: ks)) = _
  have : minN (b :: ks) ≤ b := by
    cases ks with
    | nil => exact Nat.le_refl _
    | cons y r => exact Nat.min_le_left _ _
  omega
theorem maxN_dup {b : Nat} {ks : List Nat} : maxN (b :: b :: ks) = maxN (b :: ks) := by
  show max b (maxN (b :: ks)) = _
  have : b ≤ maxN (b :: ks) := by
    cases ks with
    | nil => exact Nat.le_refl _
    | cons y r => exact Nat.le_max_left _ _
  omega
abbrev bestB : NStm := sIf (asB (nOp2 oEq (.e (nCall D_43 (aCons (.o 14) (aCons (.o 13) (aNil))))) (.e (nOp2 oEq (.e (nOp2 oIx (.o 0) (.e (nC (.int 0))))) (.e (nC (.str "least"))))))) (sAsg (nV 14) (gN 13)) (sNil)
/-- the best of some -/
theorem bestLoop {X : PyData} {ll : Bool} (hX : (oIx X (.int 0)).bind (fun z => oEq z (.str "least")) = some (.bool ll)) {D1 D2 D3 D4 D5 D6 D7 D8 D9 D10 D11 D12 x14 : Option Sl} {b : Nat} {ks : List Nat} (hb : b ≤ 10 ^ 28) (hk : ∀ k ∈ ks, k ≤ 10 ^ 28) (v14 : Vl x14) {Nx : NSt → Prop} {Rt : PyData → NSt → Prop} {Bk Ct : NSt → Prop}
    (hN : ∀ y14, Nx [some (.val X), D1, D2, D3, D4, D5, D6, D7, D8, D9, D10, D11, D12, some (.val (dF (ks.foldl (if ll then min else max) b))), y14]) :
    WpS (sForL (gN 14) bestB (ks.map dF) [some (.val X), D1, D2, D3, D4, D5, D6, D7, D8, D9, D10, D11, D12, some (.val (dF b)), x14]) Nx Rt Bk Ct := by
  have c30 : 10 ^ 28 ≤ 10 ^ 30 := by decide +kernel
  refine wps_forL (fun rem n => ∃ (js : List Nat) (a : Nat) (y14 : Option Sl), rem = js.map dF ∧ n = [some (.val X), D1, D2, D3, D4, D5, D6, D7, D8, D9, D10, D11, D12, some (.val (dF a)), y14] ∧ Vl y14 ∧ a ≤ 10 ^ 28 ∧ (∀ k ∈ js, k ≤ 10 ^ 28) ∧ js.foldl (if ll then min else max) a = ks.foldl (if ll then min else max) b) ?_ ?_ _ _ ⟨ks, b, x14, rfl, rfl, v14, hb, hk, rfl⟩
  · rintro d rem n ⟨js, a, y14, hr, rfl, w14, ha, hj, hf⟩
    cases js with
    | nil => cases hr
    | cons k js =>
      cases hr
      have hk1 := hj k List.mem_cons_self
      have e48 := s48 (k := k) (j := a) (by omega) (by omega)
      refine ⟨[some (.val X), D1, D2, D3, D4, D5, D6, D7, D8, D9, D10, D11, D12, some (.val (dF a)), some (.val (dF k))], gN_vl (x := y14) rfl w14, ?_⟩
      have hf : js.foldl (if ll then min else max) ((if ll then min else max) a k) = ks.foldl (if ll then min else max) b := hf
      have hj2 : ∀ k ∈ js, k ≤ 10 ^ 28 := fun x hx => hj x (List.mem_cons_of_mem _ hx)
      cases hx : oIx X (.int 0) with
      | none => rw [hx] at hX; cases hX
      | some z =>
        rw [hx] at hX
        have hX : oEq z (.str "least") = some (.bool ll) := hX
        cases ll with
        | true =>
          have hf : js.foldl min (min a k) = ks.foldl min b := hf
          have h1 : decide (k ≤ a) = false → js.foldl min a = ks.foldl min b := fun hc => by
            have h := of_decide_eq_false hc
            rw [Nat.min_eq_left (by omega)] at hf
            exact hf
          have h2 : decide (k ≤ a) = true → js.foldl min k = ks.foldl min b := fun hc => by
            have h := of_decide_eq_true hc
            rw [Nat.min_eq_right h] at hf
            exact hf
          generalize decide (k ≤ a) = c at e48 h1 h2
          cases c with
          | false =>
            simp -dsimp [e48, hx, hX, oEq_bool]
            exact ⟨js, rfl, a, _, ⟨rfl, rfl⟩, Vl.val, ha, hj2, h1 rfl⟩
          | true =>
            simp -dsimp [e48, hx, hX, oEq_bool]
            exact ⟨js, rfl, k, _, ⟨rfl, rfl⟩, Vl.val, hk1, hj2, h2 rfl⟩
        | false =>
          have hf : js.foldl max (max a k) = ks.foldl max b := hf
          have h1 : decide (k ≤ a) = false → js.foldl max k = ks.foldl max b := fun hc => by
            have h := of_decide_eq_false hc
            rw [Nat.max_eq_right (by omega)] at hf
            exact hf
          have h2 : decide (k ≤ a) = true → js.foldl max a = ks.foldl max b := fun hc => by
            have h := of_decide_eq_true hc
            rw [Nat.max_eq_left h] at hf
            exact hf
          generalize decide (k ≤ a) = c at e48 h1 h2
          cases c with
          | false =>
            simp -dsimp [e48, hx, hX, oEq_bool]
            exact ⟨js, rfl, k, _, ⟨rfl, rfl⟩, Vl.val, hk1, hj2, h1 rfl⟩
          | true =>
            simp -dsimp [e48, hx, hX, oEq_bool]
            exact ⟨js, rfl, a, _, ⟨rfl, rfl⟩, Vl.val, ha, hj2, h2 rfl⟩
  · rintro n ⟨js, a, y14, hr, rfl, w14, ha, hj, hf⟩
    cases js with
    | cons k js => cases hr
    | nil =>
      have hf : a = ks.foldl (if ll then min else max) b := hf
      have := hN y14
      rw [← hf] at this
      exact this
end Wlaw_k02
end NL
end L2
namespace L2
namespace NL
open PySem PySem.Spec PyProof.Rows
namespace Wlaw_k02
theorem head_facts {ks : List Nat} (h : ks ≠ []) : ∃ k0, k0 ∈ ks ∧ atI (ks.map dF) 0 = some (dF k0) ∧ ks.foldl min k0 = minN ks ∧ ks.foldl max k0 = maxN ks := by
  cases ks with
  | nil => exact absurd rfl h
  | cons k0 kr =>
    refine ⟨k0, List.mem_cons_self, ?_, ?_, ?_⟩
    · rw [List.map_cons]
      exact atI_0
    · rw [foldMin, minN_dup]
    · rw [foldMax, maxN_dup]
theorem s51 {g : Gd} (hg : GG g) : ∀ (f n : Nat) (d : Duty), GD n d → n ≤ f → n ≤ 5 → D_46 f [some (.val (dD d)), some (.val (dG g))] = .ok (dF (due g n d)) [some (.val (dD d)), some (.val (dG g))]
  | _, 0, _, h, _, _ => h.elim
  | 0, n + 1, _, _, h, _ => by omega
  | f + 1, n + 1, d, h, hn, h5 => by
    have c10 : 10 ^ 10 ≤ 10 ^ 44 := by decide +kernel
    have c89 : 10 ^ 44 ≤ 10 ^ 89 := by decide +kernel
    have c40 : 100000 ≤ 10 ^ 10 := by decide +kernel
    have hv : g.v ≤ 10 ^ 10 := by have := hg.v; omega
    have hp := hg.p
    have hw := hg.w
    have sz := sizeBig
    have z1 : 1 ≤ sizeLine := by omega
    have z2 : 2 ≤ sizeLine := by omega
    have eG : dG g = .tuple [nI g.v, nI g.p, nI g.w] := rfl
    cases d with
    | free =>
      rw [dD_free]
      have ek : due g (n + 1) .free = 0 := rfl
      have e0 : dF 0 = .tuple [.int 0, .int 1] := rfl
      rw [ek, e0]
      apply wp_eq
      show Wp (runD 15 (B_46 (D_46 f)) _) _
      rw [wp_run]
      unfold B_46
      rw [eG]
      simp -dsimp [atI_0, z2]
    | value a b =>
      have h : GRt a b := h
      rw [dD_value]
      have a40 := h.a40
      have b30 := h.b30
      have ek : due g (n + 1) (.value a b) = g.v * a * (Mm / b) := rfl
      rw [ek]
      have m1 := mulN (a := g.v) (b := a) (lt_big (by omega)) (lt_big (by omega))
      have hva : g.v * a ≤ 10 ^ 10 * 40 := Nat.mul_le_mul hv a40
      have hva2 : g.v * a ≤ 10 ^ 44 := Nat.le_trans hva (by decide +kernel)
      have e44 := s44F (a := g.v * a) (b := b) (k := g.v * a * (Mm / b)) hva2 h.pos (by omega) (by rw [Nat.mul_assoc (g.v * a), Nat.div_mul_cancel h.dvd])
      generalize g.v * a * (Mm / b) = k at *
      rw [eG]
      unfold nI
      generalize g.v * a = u at *
      apply wp_eq
      show Wp (runD 15 (B_46 (D_46 f)) _) _
      rw [wp_run]
      unfold B_46
      simp -dsimp [atI_0, atI_1, atI_2, m1, e44]
    | unit w k =>
      have hk : k ≤ 200 := h
      cases w with
      | false =>
        rw [dD_piece]
        have ek : due g (n + 1) (.unit false k) = k * g.p * Mm := by
          show k * Mm * g.p = _
          rw [Nat.mul_right_comm]
        rw [ek]
        have m1 := mulN (a := k) (b := g.p) (lt_big (by omega)) (lt_big (by omega))
        have et := tupN (a := k * g.p) (b := 1) (k := k * g.p * Mm) (by omega) (by rw [Nat.mul_one])
        rw [Nat.gcd_one_right, Nat.div_one, Nat.div_one] at et
        generalize k * g.p * Mm = kk at *
        rw [eG]
        unfold nI
        generalize k * g.p = u at *
        apply wp_eq
        show Wp (runD 15 (B_46 (D_46 f)) _) _
        rw [wp_run]
        unfold B_46
        simp -dsimp [atI_0, atI_1, m1, z2]
        exact et
      | true =>
        rw [dD_weight]
        have ek : due g (n + 1) (.unit true k) = k * g.w * Mm := by
          show k * Mm * g.w = _
          rw [Nat.mul_right_comm]
        rw [ek]
        have m1 := mulN (a := k) (b := g.w) (lt_big (by omega)) (lt_big (by omega))
        have et := tupN (a := k * g.w) (b := 1) (k := k * g.w * Mm) (by omega) (by rw [Nat.mul_one])
        rw [Nat.gcd_one_right, Nat.div_one, Nat.div_one] at et
        generalize k * g.w * Mm = kk at *
        rw [eG]
        unfold nI
        generalize k * g.w = u at *
        apply wp_eq
        show Wp (runD 15 (B_46 (D_46 f)) _) _
        rw [wp_run]
        unfold B_46
        simp -dsimp [atI_0, atI_1, m1, z2]
        exact et
    | steps ss =>
      have h : GSt ss := h
      rw [dD_steps]
      have ek : due g (n + 1) (.steps ss) = stK Mm g.v ss := rfl
      rw [ek]
      have e0 : PyData.tuple [.int 0, .int 1] = dF 0 := rfl
      have hl := h.len
      have hr : rgOk (ss.length : Int) = true := by unfold rgOk; rw [Bool.and_eq_true]; exact ⟨decide_eq_true (by omega), decide_eq_true (by omega)⟩
      rw [eG]
      apply wp_eq
      show Wp (runD 15 (B_46 (D_46 f)) _) _
      rw [wp_run]
      unfold B_46
      simp -dsimp [atI_0, atI_1, z2, hr, e0]
      refine stepsLoop h hv Vl.none Vl.none Vl.none fun y7 y8 y10 => ?_
      simp -dsimp
    | group c ds =>
      obtain ⟨hne, hl, hd⟩ : ds ≠ [] ∧ ds.length ≤ 3 ∧ ∀ d ∈ ds, GD n d := h
      rw [dD_group]
      have ek : due g (n + 1) (.group c ds) = comb c (ds.map (due g n)) := rfl
      rw [ek]
      have c1 := lc_map (fi := iV (nOp2 oIx (.o 0) (.e (nC (.int 1))))) (g := gN 12) (f := nCall (D_46 f) (aCons (.o 12) (aCons (.o 1) (aNil)))) (vs := [12]) (n := [some (.val (.tuple [.str (gS c), .tuple (ds.map dD)])), some (.val (dG g)), some (.val (nI g.v)), some (.val (nI g.p)), some (.val (nI g.w)), none, none, none, none, none, none, none, none, none, none])
        (xs := ds) dD (fun d => dF (due g n d)) (by
          apply wp_eq
          simp -dsimp [atI_1]) rfl (fun d hm => by
          have ih := s51 hg f n d (hd d hm) (by omega) (by omega)
          refine ⟨_, rfl, ?_, rfl⟩
          apply wp_eq
          simp -dsimp [ih]) (by omega) rfl
      rw [show (ds.map fun d => dF (due g n d)) = (ds.map (due g n)).map dF by rw [List.map_map]; rfl] at c1
      have hk : ∀ k ∈ ds.map (due g n), k ≤ 10 ^ 28 := fun k hk => by
        obtain ⟨d, hm, rfl⟩ := List.mem_map.mp hk
        exact due_le hg (by omega) (hd d hm)
      have hkl : (ds.map (due g n)).length ≤ 3 := by rw [List.length_map]; exact hl
      have hkn : ds.map (due g n) ≠ [] := by simpa using hne
      generalize ds.map (due g n) = ks at *
      obtain ⟨k0, hm0, hx0', hmin, hmax⟩ := head_facts hkn
      have e47 := s47 (ks := ks) (by omega) hk
      have hx0 : oIx (.list (ks.map dF)) (.int 0) = some (dF k0) := hx0'
      have hk0 := hk k0 hm0
      generalize hKL : ks.map dF = KL at *
      rw [eG] at c1 ⊢
      obtain ⟨res, hres⟩ : ∃ res, res = dF (comb c ks) := ⟨_, rfl⟩
      rw [← hres]
      apply wp_eq
      show Wp (runD 15 (B_46 (D_46 f)) _) _
      rw [wp_run]
      unfold B_46
      cases c with
      | sum =>
        have gs : gS .sum = "sum" := rfl
        rw [gs] at c1 ⊢
        simp -dsimp [atI_0, atI_1, z2, c1, e47]
        exact hres.symm
      | least =>
        have gs : gS .least = "least" := rfl
        rw [gs] at c1 ⊢
        simp -dsimp [atI_0, atI_1, z2, c1, hx0]
        subst hKL
        refine bestLoop (ll := true) (by
          show (atI [PyData.str "least", .tuple (ds.map dD)] 0).bind _ = _
          rw [atI_0]
          exact q_least_least) hk0 hk Vl.none fun y14 => ?_
        have e : ks.foldl (if true then min else max) k0 = comb .least ks := hmin
        rw [e, ← hres]
        simp -dsimp
      | most =>
        have gs : gS .most = "most" := rfl
        rw [gs] at c1 ⊢
        simp -dsimp [atI_0, atI_1, z2, c1, hx0]
        subst hKL
        refine bestLoop (ll := false) (by
          show (atI [PyData.str "most", .tuple (ds.map dD)] 0).bind _ = _
          rw [atI_0]
          exact q_most_least) hk0 hk Vl.none fun y14 => ?_
        have e : ks.foldl (if false then min else max) k0 = comb .most ks := hmax
        rw [e, ← hres]
        simp -dsimp
end Wlaw_k02
end NL
end L2
namespace L2
namespace NL
open PySem PySem.Spec PyProof.Rows
/-! what is refused -/
theorem call_err {g : NExp} {fs : NSt → R (List AV)} {n n1 a os : NSt} {as : List AV} {x : NX} (h1 : fs n = .ok as n1) (h2 : (ixs as).Nodup) (h3 : resolve n1 as = some a) (h4 : g a = .err x os) (h5 : back n1 as os = n1) : nCall g fs n = .err x n1 := by
  unfold nCall
  rw [h1]
  show (if (ixs as).Nodup then (match resolve n1 as with
    | some a => match g a with
      | .ok d os => R.ok d (back n1 as os)
      | .err x os => .err x (back n1 as os)
      | .bad => .bad
    | none => .bad) else .bad) = _
  rw [if_pos h2, h3]
  dsimp only
  rw [h4]
  dsimp only
  rw [h5]
theorem expr_err {v : NExp} {n m : NSt} {x : NX} (h : v n = .err x m) : sExpr v n = .err x m := by unfold sExpr; rw [h]; rfl
theorem expr_ok {v : NExp} {n m : NSt} {d : PyData} (h : v n = .ok d m) : sExpr v n = .nx m := by unfold sExpr; rw [h]; rfl
theorem ret_err {v : NExp} {n m : NSt} {x : NX} (h : v n = .err x m) : sRet v n = .err x m := by unfold sRet; rw [h]; rfl
theorem seq_err {f g : NStm} {n m : NSt} {x : NX} (h : f n = .err x m) : sSeq f g n = .err x m := by unfold sSeq; rw [h]; rfl
theorem seq_nx {f g : NStm} {n m : NSt} (h : f n = .nx m) : sSeq f g n = g m := by unfold sSeq; rw [h]; rfl
theorem if_t {t : NSt → R Bool} {f g : NStm} {n : NSt} (h : t n = .ok true n) : sIf t f g n = f n := by unfold sIf; rw [h]; rfl
theorem if_f {t : NSt → R Bool} {f g : NStm} {n : NSt} (h : t n = .ok false n) : sIf t f g n = g n := by unfold sIf; rw [h]; rfl
theorem args1 {f : NExp} {n m : NSt} {d : PyData} (h : f n = .ok d m) : aCons (.e f) aNil n = .ok [.v d] m := by
  unfold aCons
  show (((f n).bind _).bind _) = _
  rw [h]
  rfl
theorem run_err {N : Nat} {body : NStm} {a m : NSt} {x : NX} (h : body (a ++ List.replicate (N - a.length) none) = .err x m) : runD N body a = .err x (outs a m) := by unfold runD; rw [h]
theorem run_ret {N : Nat} {body : NStm} {a m : NSt} {d : PyData} (h : body (a ++ List.replicate (N - a.length) none) = .ret d m) : runD N body a = .ok d (outs a m) := by unfold runD; rw [h]
theorem call_ok {g : NExp} {fs : NSt → R (List AV)} {n n1 a os : NSt} {as : List AV} {d : PyData} (h1 : fs n = .ok as n1) (h2 : (ixs as).Nodup) (h3 : resolve n1 as = some a) (h4 : g a = .ok d os) (h5 : back n1 as os = n1) : nCall g fs n = .ok d n1 := by
  unfold nCall
  rw [h1]
  show (if (ixs as).Nodup then (match resolve n1 as with
    | some a => match g a with
      | .ok d os => R.ok d (back n1 as os)
      | .err x os => .err x (back n1 as os)
      | .bad => .bad
    | none => .bad) else .bad) = _
  rw [if_pos h2, h3]
  dsimp only
  rw [h4]
  dsimp only
  rw [h5]
theorem run_nx {N : Nat} {body : NStm} {a m : NSt} (h : body (a ++ List.replicate (N - a.length) none) = .nx m) : runD N body a = .ok .none (outs a m) := by unfold runD; rw [h]
theorem seq_ret {f g : NStm} {n m : NSt} {d : PyData} (h : f n = .ret d m) : sSeq f g n = .ret d m := by unfold sSeq; rw [h]; rfl
theorem ret_ok {v : NExp} {n m : NSt} {d : PyData} (h : v n = .ok d m) : sRet v n = .ret d m := by unfold sRet; rw [h]; rfl
namespace Wlaw_k02
abbrev nr : NX := ⟨"NotRight", none⟩
theorem chk_err {f : NExp} {n : NSt} (e : f n = .ok (.bool false) n) : sExpr (nCall D_8 (aCons (.e f) aNil)) n = .err nr n :=
  expr_err (call_err (args1 e) List.nodup_nil rfl (show D_8 [some (.val (.bool false))] = .err nr [some (.val (.bool false))] from rfl) rfl)
theorem chk_ok {f : NExp} {n : NSt} (e : f n = .ok (.bool true) n) : sExpr (nCall D_8 (aCons (.e f) aNil)) n = .nx n :=
  expr_ok (call_ok (args1 e) List.nodup_nil rfl (show D_8 [some (.val (.bool true))] = .ok .none [some (.val (.bool true))] from rfl) rfl)
def flg : PyData := .list [.bool true, .bool false, .bool false, .bool false, .bool false]
theorem try_err {i : Nat} {f : NStm} {n m : NSt} (h : f n = .err nr m) (hi : i < n.length) : sTryF i subF tblF knownF f n = .ret flg m := by
  unfold sTryF
  rw [h]
  show (if ("NotRight" : Str) ∈ knownF ∧ i < n.length then NR.ret (.list (tblF.map fun y => .bool (subF "NotRight" y))) m else .bad) = _
  rw [if_pos ⟨by decide, hi⟩]
  rfl
theorem try_ret {i : Nat} {f : NStm} {n m : NSt} {d : PyData} (h : f n = .ret d m) : sTryF i subF tblF knownF f n = .ret d m := by
  unfold sTryF
  rw [h]
theorem pick_ok {gs : List NExp} {fi : NExp} {fs : NSt → R (List AV)} {n m : NSt} {i : Int} {g : NExp} {d : PyData} (h1 : fi n = .ok (.int i) n) (h2 : 0 ≤ i) (h3 : gs[i.toNat]? = some g) (h4 : nCall g fs n = .ok d m) : nPick gs fi fs n = .ok d m := by
  unfold nPick
  rw [h1]
  show (if 0 ≤ i then (match gs[i.toNat]? with
    | some g => nCall g fs n
    | none => .bad) else .bad) = _
  rw [if_pos h2, h3]
  exact h4
theorem pick_err {gs : List NExp} {fi : NExp} {fs : NSt → R (List AV)} {n m : NSt} {i : Int} {g : NExp} {x : NX} (h1 : fi n = .ok (.int i) n) (h2 : 0 ≤ i) (h3 : gs[i.toNat]? = some g) (h4 : nCall g fs n = .err x m) : nPick gs fi fs n = .err x m := by
  unfold nPick
  rw [h1]
  show (if 0 ≤ i then (match gs[i.toNat]? with
    | some g => nCall g fs n
    | none => .bad) else .bad) = _
  rw [if_pos h2, h3]
  exact h4
abbrev a1 (a : PyData) : NSt := [some (.val a)]
abbrev a2 (a b : PyData) : NSt := [some (.val a), some (.val b)]
abbrev a3 (a b c : PyData) : NSt := [some (.val a), some (.val b), some (.val c)]
abbrev a4 (i : Int) (a b c : PyData) : NSt := [some (.val (.int i)), some (.val a), some (.val b), some (.val c)]
abbrev s5 (i : Int) (a b c : PyData) : NSt := [some (.val (.int i)), some (.val a), some (.val b), some (.val c), none]
section
variable {i : Int} {g : NExp} {a b c d : PyData}
theorem t_lt (h : i < 5) : asB (nOp2 oLt (.o 0) (.e (nC (.int 5)))) (s5 i a b c) = .ok true (s5 i a b c) := by
  have e : decide (i < 5) = true := decide_eq_true h
  apply wp_eq
  simp -dsimp [e]
end
end Wlaw_k02
end NL
end L2
namespace L2
namespace NL
open PySem PySem.Spec PyProof.Rows
namespace Wlaw_k02
/-! the refused rows -/
def DBad (v : PyData) : Prop := D_19 (a1 v) = .ok (.bool false) (a1 v)
def DOk (v : PyData) : Prop := D_19 (a1 v) = .ok (.bool true) (a1 v)
def GBad (v : PyData) : Prop := D_20 (a1 v) = .ok (.bool false) (a1 v)
def GOk (v : PyData) : Prop := D_20 (a1 v) = .ok (.bool true) (a1 v)
def RBad (v : PyData) : Prop := D_16 (a1 v) = .ok (.bool false) (a1 v)
def lE : NExp := nAnd (nIsi "list" (.o 1)) (nAnd (nOp2 oLe (.e (nCB bLen (aCons (.o 1) (aNil)))) (.e (nC (.int 100)))) (nCB bAll (aCons (.e (nL (nLc (iV (nF 1)) (gN 2) (tYesN) (nCall D_20 (aCons (.o 2) (aNil))) [2]))) (aNil))))
def LBad (l : PyData) : Prop := ∀ X, lE [some (.val X), some (.val l), none] = .ok (.bool false) [some (.val X), some (.val l), none]
def dE : NExp := nAnd (nIsi "list" (.o 0)) (nAnd (nOp2 oGt (.e (nCB bLen (aCons (.o 0) (aNil)))) (.e (nC (.int 0)))) (nCB bAll (aCons (.e (nL (nLc (iV (nF 0)) (gN 2) (tYesN) (nCall D_19 (aCons (.o 2) (aNil))) [2]))) (aNil))))
def MV (l : PyData) (b : Bool) : Prop := ∀ X, dE [some (.val l), some (.val X), none, none, none, none, none] = .ok (.bool b) [some (.val l), some (.val X), none, none, none, none, none]
section
variable {v g l w : PyData}
theorem e22d (h : DBad v) : D_21 (a2 v g) = .err nr (a2 v g) :=
  run_err (m := a2 v g) (seq_err (chk_err (call_ok (as := [.v v]) rfl List.nodup_nil rfl h rfl)))
theorem e22g (h : DOk v) (hg : GBad g) : D_21 (a2 v g) = .err nr (a2 v g) :=
  run_err (m := a2 v g) ((seq_nx (chk_ok (call_ok (as := [.v v]) rfl List.nodup_nil rfl h rfl))).trans (chk_err (call_ok (as := [.v g]) rfl List.nodup_nil rfl hg rfl)))
theorem e28 (h : D_21 (a2 v g) = .err nr (a2 v g)) : D_27 (a2 v g) = .err nr (a2 v g) :=
  run_err (m := a2 v g) (seq_err (expr_err (call_err (as := [.v v, .v g]) rfl List.nodup_nil rfl h rfl)))
end
/-! closed ones -/
def badL : List PyData := [.none, .tuple [.str "value", .int 2, .int 4], .tuple [.str "piece", .int (-1)], .tuple [.str "most", .tuple []], .tuple [.str "steps", .tuple [.tuple [.int 1, .tuple [.int 1, .int 1]]]], .list [.str "free"]]
theorem badAll : ∀ v ∈ badL, DBad v := by
  unfold badL
  simp only [List.forall_mem_cons]
  unfold DBad
  exact ⟨by kernel_rfl, by kernel_rfl, by kernel_rfl, by kernel_rfl, by kernel_rfl, by kernel_rfl, fun _ h => by cases h⟩
def oddL : List PyData := [.none, .tuple [.int 0, .int 0], .tuple [.int (-1), .int 0, .int 0], .tuple [.int 0, .bool true, .int 0], .list [.int 0, .int 0, .int 0]]
theorem oddAll : ∀ v ∈ oddL, GBad v := by
  unfold oddL
  simp only [List.forall_mem_cons]
  unfold GBad
  exact ⟨by kernel_rfl, by kernel_rfl, by kernel_rfl, by kernel_rfl, by kernel_rfl, fun _ h => by cases h⟩
def wanL : List PyData := [.none, .tuple [.int (-1), .int 1], .tuple [.int 2, .int 4], .tuple [.int 1, .int 0], .int 1]
theorem wanAll : ∀ v ∈ wanL, RBad v := by
  unfold wanL
  simp only [List.forall_mem_cons]
  unfold RBad
  exact ⟨by kernel_rfl, by kernel_rfl, by kernel_rfl, by kernel_rfl, by kernel_rfl, fun _ h => by cases h⟩
theorem lb_one {v : PyData} (h : GBad v) : LBad (.list [v]) := fun X => by
  have c1 := lc_map (fi := iV (nF 1)) (g := gN 2) (f := nCall D_20 (aCons (.o 2) (aNil))) (vs := [2]) (n := [some (.val X), some (.val (.list [v])), none]) (xs := [v]) (fun x => x) (fun _ => .bool false) rfl rfl (fun x hx => by
    simp only [List.mem_cons, List.not_mem_nil, or_false] at hx
    subst hx
    have h : D_20 [some (.val x)] = _ := h
    refine ⟨_, rfl, ?_, rfl⟩
    apply wp_eq
    simp -dsimp [h]) (by simp) rfl
  have b1 : bAll [.list [PyData.bool false]] = some (.bool false) := rfl
  have c1 : nLc _ _ _ _ _ _ = R.ok [PyData.bool false] _ := c1
  have ty : isTy "list" (.list [v]) = true := rfl
  apply wp_eq
  unfold lE
  simp -dsimp [ty, c1, b1]
theorem lb_tup {v : PyData} : LBad (.tuple [v]) := fun _ => rfl
theorem lb_many {v : PyData} : LBad (.list (List.replicate 101 v)) := fun X => by
  have ty : isTy "list" (.list (List.replicate 101 v)) = true := rfl
  have hb : bLen [.list (List.replicate 101 v)] = some (.int 101) := by
    show some (PyData.int _) = _
    rw [List.length_replicate]
    rfl
  generalize PyData.list (List.replicate 101 v) = L at *
  apply wp_eq
  unfold lE
  simp -dsimp [ty, hb]
theorem mv_one {v : PyData} {b : Bool} (h : D_19 (a1 v) = .ok (.bool b) (a1 v)) : MV (.list [v]) b := fun X => by
  have c1 := lc_map (fi := iV (nF 0)) (g := gN 2) (f := nCall D_19 (aCons (.o 2) (aNil))) (vs := [2]) (n := [some (.val (.list [v])), some (.val X), none, none, none, none, none]) (xs := [v]) (fun x => x) (fun _ => .bool b) rfl rfl (fun x hx => by
    simp only [List.mem_cons, List.not_mem_nil, or_false] at hx
    subst hx
    refine ⟨_, rfl, ?_, rfl⟩
    apply wp_eq
    simp -dsimp [h]) (by simp) rfl
  have b1 : bAll [.list [PyData.bool b]] = some (.bool b) := by cases b <;> rfl
  have c1 : nLc _ _ _ _ _ _ = R.ok [PyData.bool b] _ := c1
  have ty : isTy "list" (.list [v]) = true := rfl
  apply wp_eq
  unfold dE
  simp -dsimp [ty, c1, b1]
theorem mv_nil : MV (.list []) false := fun X => by
  have ty : isTy "list" (.list []) = true := rfl
  apply wp_eq
  unfold dE
  simp -dsimp [ty]
theorem mv_tup {v : PyData} : MV (.tuple [v]) false := fun _ => rfl
end Wlaw_k02
end NL
end L2
namespace L2
namespace NL
open PySem PySem.Spec PyProof.Rows
namespace Wlaw_k02
/-! what is drawn -/
theorem div30 : ∀ b : Nat, 0 < b → b ≤ 30 → b ∣ Mm := by
  have key : ∀ b : Nat, b < 31 → 0 < b → b ∣ Mm := by decide +kernel
  exact fun b h0 h1 => key b (by omega) h0
theorem grt_of {a b : Nat} (ha : a ≤ 40) (hb0 : 0 < b) (hb : b ≤ 30) : GRt (a / Nat.gcd a b) (b / Nat.gcd a b) := by
  have hg : 0 < Nat.gcd a b := Nat.gcd_pos_of_pos_right _ hb0
  have h1 : 0 < b / Nat.gcd a b := Nat.div_pos (Nat.gcd_le_right _ hb0) hg
  have h2 := Nat.div_le_self b (Nat.gcd a b)
  have h3 := Nat.div_le_self a (Nat.gcd a b)
  exact ⟨Nat.gcd_div_gcd_div_gcd_of_pos_right hb0, h1, div30 _ h1 (by omega), by omega, by omega⟩
theorem nat_of {r : Int} (h : 0 ≤ r) : ∃ k : Nat, r = (k : Int) := ⟨r.toNat, by omega⟩
theorem s49 {l : List PyData} (h : Dr l) {P : PyData → NSt → Prop} (hP : ∀ a b l', Dr l' → GRt a b → P (dPt (a, b)) [some (.lent l')]) : Wp (D_44 [some (.lent l)]) P := by
  have sz := sizeBig
  unfold D_44
  rw [wp_run]
  simp -dsimp [B_44, e40, e41, szn]
  refine take_spec h (by omega) fun r l1 d1 r0 r1 => ?_
  simp -dsimp [e40, e41, szn]
  refine take_spec d1 (by omega) fun q l2 d2 q0 q1 => ?_
  obtain ⟨a, rfl⟩ := nat_of r0
  obtain ⟨b, rfl⟩ := nat_of q0
  have e44 := s44 (a := a) (b := b + 1) (Nat.le_trans (show a ≤ 40 by omega) (by decide +kernel)) (by omega) (Nat.le_trans (show b + 1 ≤ 30 by omega) (by decide +kernel))
  have hb : (1 : Int) + (b : Int) = ((b + 1 : Nat) : Int) := by omega
  have hgr := grt_of (a := a) (b := b + 1) (by omega) (by omega) (by omega)
  rw [← hb] at e44
  generalize a / Nat.gcd a (b + 1) = a' at *
  generalize (b + 1) / Nat.gcd a (b + 1) = b' at *
  simp -dsimp [e44, szn, e41]
  refine pick_spec d2 (by simp) fun m l3 d3 hm => ?_
  have hm' : ∃ x y : Nat, m = dPt (x, y) ∧ GRt x y := by
    simp only [List.mem_cons, List.not_mem_nil, or_false] at hm
    rcases hm with rfl | rfl | rfl | rfl | rfl
    · exact ⟨0, 1, rfl, by decide, by decide, div30 1 (by omega) (by omega), by omega, by omega⟩
    · exact ⟨1, 1, rfl, by decide, by decide, div30 1 (by omega) (by omega), by omega, by omega⟩
    · exact ⟨1, 10, rfl, by decide, by decide, div30 10 (by omega) (by omega), by omega, by omega⟩
    · exact ⟨1, 2, rfl, by decide, by decide, div30 2 (by omega) (by omega), by omega, by omega⟩
    · exact ⟨a', b', rfl, hgr⟩
  obtain ⟨x, y, rfl, hxy⟩ := hm'
  simp -dsimp
  exact hP x y l3 d3 hxy
theorem s53 {l : List PyData} (h : Dr l) {P : PyData → NSt → Prop} (hP : ∀ (v p w : Nat) l', Dr l' → v ≤ 65521 → p ≤ 20 → w ≤ 20 → P (dG ⟨v, p, w⟩) [some (.lent l')]) : Wp (D_47 [some (.lent l)]) P := by
  have sz := sizeBig
  unfold D_47
  rw [wp_run]
  simp -dsimp [B_47, e40, e41, szn]
  refine take_spec h (by omega) fun r l1 d1 r0 r1 => ?_
  simp -dsimp [e40, e41, szn]
  refine take_spec d1 (by omega) fun q l2 d2 q0 q1 => ?_
  simp -dsimp [e40, e41, szn]
  refine pick_spec d2 (by simp) fun m l3 d3 hm => ?_
  have hm' : ∃ v : Nat, m = .int (v : Int) ∧ v ≤ 65521 := by
    simp only [List.mem_cons, List.not_mem_nil, or_false] at hm
    rcases hm with rfl | rfl | rfl | rfl | rfl
    · exact ⟨0, rfl, by omega⟩
    · exact ⟨1, rfl, by omega⟩
    · exact ⟨100, rfl, by omega⟩
    · obtain ⟨k, rfl⟩ := nat_of r0
      exact ⟨k, rfl, by omega⟩
    · obtain ⟨k, rfl⟩ := nat_of q0
      exact ⟨k, rfl, by omega⟩
  obtain ⟨v, rfl, hv⟩ := hm'
  simp -dsimp [e40]
  refine take_spec d3 (by omega) fun p l4 d4 p0 p1 => ?_
  simp -dsimp [e40]
  refine take_spec d4 (by omega) fun w l5 d5 w0 w1 => ?_
  obtain ⟨p, rfl⟩ := nat_of p0
  obtain ⟨w, rfl⟩ := nat_of w0
  simp -dsimp
  exact ⟨by omega, hP v p w l5 d5 hv (by omega) (by omega)⟩
end Wlaw_k02
end NL
end L2
namespace L2
namespace NL
open PySem PySem.Spec PyProof.Rows
namespace Wlaw_k02
/-! drawn duties -/
structure PS (ss : List (Nat × Nat × Nat)) (m : Nat) : Prop where
  rt : ∀ s ∈ ss, GRt s.2.1 s.2.2
  lt : ∀ s ∈ ss, s.1 < m
  zero : ss = [] → m = 0
  head : ss ≠ [] → (ss.map (·.1)).head? = some 0
  asc : ss.Pairwise fun s t => s.1 < t.1
  mb : m ≤ 61 * ss.length
theorem PS.snoc {ss : List (Nat × Nat × Nat)} {m k a b : Nat} (h : PS ss m) (hr : GRt a b) (hk : m < k) (hk2 : k ≤ m + 61) : PS (ss ++ [(m, a, b)]) k := by
  refine ⟨fun s hs => ?_, fun s hs => ?_, fun hz => ?_, fun _ => ?_, ?_, by have := h.mb; simp; omega⟩
  · rcases List.mem_append.mp hs with hs | hs
    · exact h.rt s hs
    · simp only [List.mem_cons, List.not_mem_nil, or_false] at hs
      subst hs
      exact hr
  · rcases List.mem_append.mp hs with hs | hs
    · have := h.lt s hs; omega
    · simp only [List.mem_cons, List.not_mem_nil, or_false] at hs
      subst hs
      exact hk
  · simp at hz
  · cases ss with
    | nil =>
      have := h.zero rfl
      subst this
      rfl
    | cons s r =>
      have := h.head (by simp)
      simpa using this
  · rw [List.pairwise_append]
    refine ⟨h.asc, by simp, fun s hs t ht => ?_⟩
    simp only [List.mem_cons, List.not_mem_nil, or_false] at ht
    subst ht
    exact h.lt s hs
abbrev stB : NStm := sSeq (sExpr (nAppend 3 (nTup (aCons (.e (nV 4)) (aCons (.e (nCall D_44 (aCons (.o 0) (aNil)))) (aNil))))))
  (sAsg (nOp2 oAdd (.e (nOp2 oAdd (.o 4) (.e (nC (.int 1))))) (.e (nCall D_35 (aCons (.o 0) (aCons (.e (nC (.int 60))) (aNil)))))) (gN 4))
theorem stLoop {l : List PyData} {A B x5 : Option Sl} {cnt : Int} (hd : Dr l) (hc : cnt ≤ 4) (v5 : Vl x5) {Nx : NSt → Prop} {Rt : PyData → NSt → Prop} {Bk Ct : NSt → Prop}
    (hN : ∀ (l' : List PyData) (ss : List (Nat × Nat × Nat)) (m : Nat) (y5 : Option Sl), Dr l' → PS ss m → ss.length = (cnt - 0).toNat → Nx [some (.lent l'), A, B, some (.own (ss.map dSt)), some (.val (nI m)), y5]) :
    WpS (sForL (gN 5) stB (rgD 0 cnt) [some (.lent l), A, B, some (.own []), some (.val (.int 0)), x5]) Nx Rt Bk Ct := by
  have sz := sizeBig
  have z2 : 2 ≤ sizeLine := by omega
  refine wps_forL (fun rem n => ∃ (l' : List PyData) (ss : List (Nat × Nat × Nat)) (m : Nat) (y5 : Option Sl), n = [some (.lent l'), A, B, some (.own (ss.map dSt)), some (.val (nI m)), y5] ∧ Vl y5 ∧ Dr l' ∧ PS ss m ∧ ss.length + rem.length = (cnt - 0).toNat) ?_ ?_ _ _
    ⟨l, [], 0, x5, rfl, v5, hd, ⟨(fun _ h => by cases h), (fun _ h => by cases h), (fun _ => rfl), (fun h => absurd rfl h), List.Pairwise.nil, by simp⟩, by rw [rgD_len]; simp⟩
  · rintro d rem n ⟨l', ss, m, y5, rfl, w5, d', hp, hl⟩
    have hl : ss.length + (rem.length + 1) = (cnt - 0).toNat := hl
    refine ⟨_, gN_vl (x := y5) rfl w5, ?_⟩
    unfold nI
    simp -dsimp
    refine s49 d' fun a b l2 d2 hr => ?_
    simp -dsimp [e40, z2]
    refine ⟨by omega, ?_⟩
    refine take_spec d2 (by omega) fun r l3 d3 r0 r1 => ?_
    obtain ⟨k, rfl⟩ := nat_of r0
    simp -dsimp
    exact ⟨l3, ss ++ [(m, a, b)], m + 1 + k, _, ⟨rfl, by simp [dSt, dPt, nI], by omega, rfl⟩, Vl.val, d3, hp.snoc hr (by omega) (by omega), by simp; omega⟩
  · rintro n ⟨l', ss, m, y5, rfl, w5, d', hp, hl⟩
    exact hN l' ss m y5 d' hp hl
theorem rgOk_le {j : Int} (h0 : 0 ≤ j) (h1 : j ≤ 10000) : rgOk j = true := by
  unfold rgOk
  rw [Bool.and_eq_true]
  exact ⟨decide_eq_true (by omega), decide_eq_true (by omega)⟩
def stS : NStm := sSeq (sPar 3 4 (evO (nLstO (aNil))) (evV (nC (.int 0))))
  (sSeq (sFor (iRg1 (aCons (.e (nOp2 oAdd (.e (nC (.int 1))) (.e (nCall D_35 (aCons (.o 0) (aCons (.e (nC (.int 4))) (aNil))))))) (aNil))) (gN 5) stB)
  (sRet (nTup (aCons (.e (nC (.str "steps"))) (aCons (.e (nCB bTuple (aCons (.o 3) (aNil)))) (aNil))))))
theorem stS_spec {l : List PyData} {X Y : PyData} (hd : Dr l) {Nx : NSt → Prop} {Rt : PyData → NSt → Prop} {Bk Ct : NSt → Prop}
    (hR : ∀ ss l' rest, Dr l' → (∀ n, GD (n + 1) (.steps ss)) → Rt (.tuple [.str "steps", .tuple (ss.map dSt)]) (some (.lent l') :: some (.val X) :: rest)) : WpS (stS [some (.lent l), some (.val X), some (.val Y), none, none, none]) Nx Rt Bk Ct := by
  have sz := sizeBig
  have z2 : 2 ≤ sizeLine := by omega
  unfold stS
  simp -dsimp [e40]
  refine take_spec hd (by omega) fun q l2 d2 q0 q1 => ?_
  obtain ⟨q, rfl⟩ := nat_of q0
  simp -dsimp
  refine ⟨rgOk_le (by omega) (by omega), ?_⟩
  refine stLoop d2 (by omega) (.inl rfl) fun l3 ss m y5 d3 hp hl => ?_
  have hb : bTuple [.list (ss.map dSt)] = some (.tuple (ss.map dSt)) := rfl
  have hss : ss ≠ [] := fun z => by rw [z] at hl; simp at hl; omega
  have hg : ∀ n, GD (n + 1) (.steps ss) := fun n => ⟨hss, by omega, hp.rt, hp.head hss, hp.asc, fun s hs => by have := hp.lt s hs; have := hp.mb; omega⟩
  simp -dsimp [hb, z2]
  exact hR ss l3 _ d3 hg
theorem s50 : ∀ (f n : Nat) {l : List PyData} {P : PyData → NSt → Prop}, 1 ≤ n → n ≤ f → n ≤ 5 → Dr l → (∀ d l', Dr l' → GD n d → P (dD d) [some (.lent l'), some (.val (nI n))]) → Wp (D_45 f [some (.lent l), some (.val (nI n))]) P
  | _, 0, _, _, h, _, _, _, _ => by omega
  | 0, n + 1, _, _, _, h, _, _, _ => by omega
  | f + 1, n + 1, l, P, h1, hf, h5, hd, hP => by
    have sz := sizeBig
    have z1 : 1 ≤ sizeLine := by omega
    have z2 : 2 ≤ sizeLine := by omega
    have z3 : 3 ≤ sizeLine := by omega
    have ih : n ≠ 0 → ∀ {l : List PyData} {P : PyData → NSt → Prop}, Dr l → (∀ d l', Dr l' → GD n d → P (dD d) [some (.lent l'), some (.val (nI n))]) → Wp (D_45 f [some (.lent l), some (.val (nI n))]) P := fun hn l P hd hP => s50 f n (by omega) (by omega) (by omega) hd hP
    have hP' : ∀ d v l', Dr l' → GD (n + 1) d → dD d = v → P v [some (.lent l'), some (.val (.int ((n : Int) + 1)))] := fun d v l' a b c => c ▸ hP d l' a b
    clear hP
    show Wp (runD 6 (B_45 (D_45 f)) _) _
    rw [wp_run]
    have hn1 : nI (n + 1) = .int ((n : Int) + 1) := rfl
    rw [hn1]
    generalize hD : D_45 f = DD at *
    have hB : B_45 DD = sSeq _ (sSeq _ (sSeq _ (sSeq _ (sSeq (sIf _ stS _) _)))) := rfl
    rw [hB]
    have hst : ∀ {Y : PyData} {l1 : List PyData} {Nx : NSt → Prop} {Bk Ct : NSt → Prop}, Dr l1 → WpS (stS [some (.lent l1), some (.val (.int ((n : Int) + 1))), some (.val Y), none, none, none]) Nx (fun d n' => P d (outs [some (.lent l), some (.val (.int ((n : Int) + 1)))] n')) Bk Ct := fun d1 => stS_spec d1 fun ss l' rest d' hg => hP' (.steps ss) _ l' d' (hg n) dD_steps
    generalize stS = ST at *
    refine wps_sq ?_
    simp -dsimp [e40]
    refine take_spec hd (by omega) fun r l1 d1 r0 r1 => ?_
    simp -dsimp
    generalize hc0 : decide (r = 0) = c0
    cases c0 with
    | true =>
      simp -dsimp [z1]
      exact hP' .free _ l1 d1 trivial dD_free
    | false =>
    simp -dsimp
    generalize hc3 : decide (r < 3) = c3
    cases c3 with
    | true =>
      simp -dsimp [z1]
      refine s49 d1 fun a b l2 d2 hr => ?_
      simp -dsimp [dPt, z3]
      exact hP' (.value a b) _ l2 d2 hr dD_value
    | false =>
    simp -dsimp
    generalize hc4 : decide (r = 3) = c4
    cases c4 with
    | true =>
      simp -dsimp [z2, e41]
      refine pick_spec d1 (by simp) fun m l2 d2 hm => ?_
      simp -dsimp
      refine take_spec d2 (by omega) fun k l3 d3 k0 k1 => ?_
      obtain ⟨k, rfl⟩ := nat_of k0
      have hk : k ≤ 200 := by omega
      simp only [List.mem_cons, List.not_mem_nil, or_false] at hm
      rcases hm with rfl | rfl
      · simp -dsimp
        exact ⟨z2, hP' (.unit false k) _ l3 d3 hk dD_piece⟩
      · simp -dsimp
        exact ⟨z2, hP' (.unit true k) _ l3 d3 hk dD_weight⟩
    | false =>
    simp -dsimp
    generalize hc5 : decide (r = 4) = c5
    cases c5 with
    | true =>
      simp -dsimp
      exact hst d1
    | false =>
    simp -dsimp
    generalize hc6 : decide ((n : Int) + 1 = 1) = c6
    cases c6 with
    | true =>
      simp -dsimp
      exact hst d1
    | false =>
    have hn0 : n ≠ 0 := fun z => by subst z; simp at hc6
    have ih := @ih hn0
    clear hB
    simp -dsimp [e41, szn]
    refine pick_spec d1 (by simp) fun m l2 d2 hm => ?_
    have hm' : ∃ c : Grp, m = .str (gS c) := by
      simp only [List.mem_cons, List.not_mem_nil, or_false] at hm
      rcases hm with rfl | rfl | rfl
      · exact ⟨.most, rfl⟩
      · exact ⟨.least, rfl⟩
      · exact ⟨.sum, rfl⟩
    obtain ⟨c, rfl⟩ := hm'
    simp -dsimp [e40]
    rw [wp_lc]
    simp -dsimp [e40]
    refine take_spec d2 (by omega) fun q l3 d3 q0 q1 => ?_
    obtain ⟨q, rfl⟩ := nat_of q0
    simp -dsimp
    refine ⟨rgOk_le (by omega) (by omega), rfl, ?_⟩
    refine wp_lcL (fun rem acc n' => ∃ (l' : List PyData) (ds : List Duty), n' = [some (.lent l'), some (.val (.int ((n : Int) + 1))), some (.val (.int r)), none, none, none] ∧ Dr l' ∧ acc = ds.map dD ∧ (∀ d ∈ ds, GD n d) ∧ ds.length + rem.length = 1 + q) ?_ ?_ _ _ _ ⟨l3, [], rfl, d3, rfl, (fun _ h => by cases h), ?_⟩
    · rintro d rem acc n' ⟨l', ds, rfl, d', rfl, hg, hl⟩
      have hl : ds.length + (rem.length + 1) = 1 + q := hl
      refine ⟨_, rfl, ?_⟩
      have hn : ((n : Int) + 1 - 1) = (n : Int) := by omega
      simp -dsimp [hn]
      refine ih d' fun d l4 d4 hd4 => ?_
      simp -dsimp
      refine ⟨by omega, d4, ds ++ [d], by simp, fun x hx => ?_, by simp; omega⟩
      rcases List.mem_append.mp hx with hx | hx
      · exact hg x hx
      · simp only [List.mem_cons, List.not_mem_nil, or_false] at hx
        subst hx
        exact hd4
    · rintro acc n' ⟨l', ds, rfl, d', rfl, hg, hl⟩
      have hl : ds.length = 1 + q := by simpa using hl
      have hb : bTuple [.list (ds.map dD)] = some (.tuple (ds.map dD)) := rfl
      have hne : ds ≠ [] := fun z => by rw [z] at hl; simp at hl; omega
      simp -dsimp [hb]
      exact ⟨z2, hP' (.group c ds) _ l' d' ⟨hne, by omega, hg⟩ dD_group⟩
    · rw [rgD_len]; simp; omega
end Wlaw_k02
end NL
end L2
namespace L2
namespace NL
open PySem PySem.Spec PyProof.Rows
namespace Wlaw_k02
/-! simplified duties -/
def nfree : Duty → Bool
  | .free => false
  | _ => true
def isSum : Grp → Bool
  | .sum => true
  | _ => false
def flt (c : Grp) (l : List Duty) : List Duty := if isSum c = true then l.filter nfree else l
def fin : Grp → List Duty → Duty
  | _, [] => .free
  | _, [x] => x
  | c, l => .group c l
def sp : Nat → Duty → Duty
  | 0, d => d
  | n + 1, .group c ds => fin c (flt c (ds.map (sp n)))
  | _ + 1, d => d
theorem flt_len {c : Grp} {l : List Duty} : (flt c l).length ≤ l.length := by
  unfold flt
  split
  · exact List.length_filter_le _ _
  · exact Nat.le_refl _
theorem flt_mem {c : Grp} {l : List Duty} {x : Duty} (h : x ∈ flt c l) : x ∈ l := by
  unfold flt at h
  split at h
  · exact (List.mem_filter.mp h).1
  · exact h
theorem fin_GD {n : Nat} {c : Grp} {l : List Duty} (hl : l.length ≤ 3) (h : ∀ d ∈ l, GD n d) : GD (n + 1) (fin c l) := by
  match l with
  | [] => exact True.intro
  | [x] => exact GD.mono (Nat.le_succ n) (h x List.mem_cons_self)
  | x :: y :: r => exact ⟨by simp, hl, h⟩
theorem sp_GD : ∀ {n : Nat} {d : Duty}, GD n d → GD n (sp n d)
  | 0, _, h => h.elim
  | n + 1, d, h => by
    cases d with
    | group c ds =>
      refine fin_GD (Nat.le_trans flt_len (by rw [List.length_map]; exact h.2.1)) fun x hx => ?_
      obtain ⟨d, hd, rfl⟩ := List.mem_map.mp (flt_mem hx)
      exact sp_GD (h.2.2 d hd)
    | _ => exact h
theorem sp_fuel : ∀ {n m : Nat} {d : Duty}, GD n d → n ≤ m → sp m d = sp n d
  | 0, _, _, h, _ => h.elim
  | n + 1, 0, _, _, hm => by omega
  | n + 1, m + 1, d, h, hm => by
    cases d with
    | group c ds =>
      show fin c (flt c (ds.map (sp m))) = fin c (flt c (ds.map (sp n)))
      congr 2
      exact List.map_congr_left fun d hd => sp_fuel (h.2.2 d hd) (by omega)
    | _ => rfl
theorem flt_flt {c : Grp} {l : List Duty} : flt c (flt c l) = flt c l := by
  unfold flt
  split
  · rw [List.filter_filter]
    congr 1
    funext x
    cases nfree x <;> rfl
  · rfl
theorem fin_group {c : Grp} {l : List Duty} (h : 2 ≤ l.length) : fin c l = .group c l := by
  match l with
  | [] => simp at h
  | [x] => simp at h
  | x :: y :: r => rfl
/-- once more changes nothing -/
theorem sp_sp : ∀ {n : Nat} {d : Duty}, GD n d → sp n (sp n d) = sp n d
  | 0, _, h => h.elim
  | n + 1, d, h => by
    cases d with
    | group c ds =>
      have hx : ∀ x ∈ flt c (ds.map (sp n)), GD n x ∧ sp n x = x := fun x hx => by
        obtain ⟨d, hd, rfl⟩ := List.mem_map.mp (flt_mem hx)
        exact ⟨sp_GD (h.2.2 d hd), sp_sp (h.2.2 d hd)⟩
      have hf := @flt_flt c (ds.map (sp n))
      show sp (n + 1) (fin c (flt c (ds.map (sp n)))) = fin c (flt c (ds.map (sp n)))
      generalize flt c (ds.map (sp n)) = l at *
      match l, hx, hf with
      | [], _, _ => rfl
      | [x], hx, _ =>
        obtain ⟨g, e⟩ := hx x List.mem_cons_self
        show sp (n + 1) x = x
        rw [sp_fuel g (Nat.le_succ n), e]
      | x :: y :: r, hx, hf =>
        show fin c (flt c ((x :: y :: r).map (sp n))) = fin c (x :: y :: r)
        have e : (x :: y :: r).map (sp n) = x :: y :: r := by
          refine (List.map_congr_left fun z hz => (hx z hz).2).trans ?_
          exact List.map_id _
        rw [e, hf]
    | _ => rfl
/-- what is due stays -/
theorem kd_fin {W : Nat} {g : Gd} {n : Nat} {c : Grp} {l : List Duty} (h : ∀ d ∈ l, GD n d) (hz : isSum c = true ∨ l ≠ []) : kd W g (n + 1) (fin c l) = comb c (l.map (kd W g n)) := by
  match l, h, hz with
  | [], _, hz =>
    cases c with
    | sum => rfl
    | most => rcases hz with hz | hz; cases hz; exact absurd rfl hz
    | least => rcases hz with hz | hz; cases hz; exact absurd rfl hz
  | [x], h, _ =>
    have e := kd_fuel (W := W) (g := g) (h x List.mem_cons_self) (Nat.le_succ n)
    show kd W g (n + 1) x = _
    rw [e]
    cases c with
    | sum => show _ = [kd W g n x].sum; simp
    | most => rfl
    | least => rfl
  | x :: y :: r, _, _ => rfl
theorem sum_flt {f : Duty → Nat} (hf : f .free = 0) : ∀ l : List Duty, ((l.filter nfree).map f).sum = (l.map f).sum
  | [] => rfl
  | x :: l => by
    cases x with
    | free =>
      rw [List.filter_cons_of_neg (by simp [nfree]), sum_flt hf l, List.map_cons, List.sum_cons, hf]
      omega
    | _ => rw [List.filter_cons_of_pos (by simp [nfree]), List.map_cons, List.sum_cons, List.map_cons, List.sum_cons, sum_flt hf l]
theorem sp_kd {W : Nat} {g : Gd} : ∀ {n : Nat} {d : Duty}, GD n d → kd W g n (sp n d) = kd W g n d
  | 0, _, h => h.elim
  | n + 1, d, h => by
    cases d with
    | group c ds =>
      have hm : ∀ x ∈ ds.map (sp n), GD n x := fun x hx => by
        obtain ⟨d, hd, rfl⟩ := List.mem_map.mp hx
        exact sp_GD (h.2.2 d hd)
      have hmm : (ds.map (sp n)).map (kd W g n) = ds.map (kd W g n) := by
        rw [List.map_map]
        exact List.map_congr_left fun d hd => sp_kd (h.2.2 d hd)
      have f0 : kd W g n .free = 0 := by cases n <;> rfl
      show kd W g (n + 1) (fin c (flt c (ds.map (sp n)))) = comb c (ds.map (kd W g n))
      rw [kd_fin (fun d hd => hm d (flt_mem hd)) (by
        cases c with
        | sum => exact .inl rfl
        | most => exact .inr (by have := h.1; simpa [flt, isSum] using this)
        | least => exact .inr (by have := h.1; simpa [flt, isSum] using this)), ← hmm]
      cases c with
      | sum => exact sum_flt f0 _
      | most => rfl
      | least => rfl
    | _ => rfl
end Wlaw_k02
end NL
end L2
namespace L2
namespace NL
open PySem PySem.Spec PyProof.Rows
namespace Wlaw_k02
abbrev GT3 : PyData := .tuple [.str "most", .str "least", .str "sum"]
abbrev GL3 : PyData := .list [.str "most", .str "least", .str "sum"]
def headS : Duty → Str
  | .free => "free"
  | .value _ _ => "value"
  | .unit false _ => "piece"
  | .unit true _ => "weight"
  | .steps _ => "steps"
  | .group c _ => gS c
def isGrp : Duty → Bool
  | .group _ _ => true
  | _ => false
theorem head_ix (d : Duty) : oIx (dD d) (.int 0) = some (.str (headS d)) := by
  cases d with
  | free => rw [dD_free]; rfl
  | value a b => rw [dD_value]; rfl
  | unit w k => cases w <;> first | (rw [dD_piece]; rfl) | (rw [dD_weight]; rfl)
  | steps ss => rw [dD_steps]; rfl
  | group c ds => rw [dD_group]; rfl
theorem notin_T (d : Duty) : oNotIn (.str (headS d)) GT3 = some (.bool (!isGrp d)) := by
  cases d with
  | unit w k => cases w <;> kernel_rfl
  | group c ds => cases c <;> kernel_rfl
  | _ => kernel_rfl
theorem notin_L (d : Duty) : oNotIn (.str (headS d)) GL3 = some (.bool (!isGrp d)) := by
  cases d with
  | unit w k => cases w <;> kernel_rfl
  | group c ds => cases c <;> kernel_rfl
  | _ => kernel_rfl
theorem eq_sum (c : Grp) : oEq (.str (gS c)) (.str "sum") = some (.bool (isSum c)) := by cases c <;> kernel_rfl
theorem dD_tup (d : Duty) : ∃ xs, dD d = .tuple xs := by
  cases d with
  | free => exact ⟨_, dD_free⟩
  | value a b => exact ⟨_, dD_value⟩
  | unit w k => cases w <;> first | exact ⟨_, dD_piece⟩ | exact ⟨_, dD_weight⟩
  | steps ss => exact ⟨_, dD_steps⟩
  | group c ds => exact ⟨_, dD_group⟩
theorem neFree {n : Nat} {d : Duty} (h : GD n d) (hn : n ≤ 20) : oNe (dD d) (.tuple [.str "free"]) = some (.bool (nfree d)) := by
  have s1 := (shp_dD h).shaped (by omega)
  have s2 : SeqAt.shaped (.tuple [.str "free"]) = true := by kernel_rfl
  have s3 : PyData.eqv (dD d) (.tuple [.str "free"]) = !nfree d := by
    cases d with
    | free => rw [dD_free]; kernel_rfl
    | value a b => rw [dD_value, ne2]; rfl
    | unit w k => cases w <;> first | (rw [dD_piece, ne2]; rfl) | (rw [dD_weight, ne2]; rfl)
    | steps ss => rw [dD_steps, ne2]; rfl
    | group c ds => rw [dD_group, ne2]; rfl
  obtain ⟨xs, hx⟩ := dD_tup d
  rw [hx] at s1 s3 ⊢
  have e : oNe (.tuple xs) (.tuple [.str "free"]) = if (SeqAt.shaped (.tuple xs) && SeqAt.shaped (.tuple [.str "free"])) = true then some (.bool (!PyData.eqv (.tuple xs) (.tuple [.str "free"]))) else none := id rfl
  rw [e, s1, s2, s3, Bool.not_not]
  rfl
theorem sp_leaf {n : Nat} {d : Duty} (h : isGrp d = false) : sp n d = d := by
  cases n with
  | zero => rfl
  | succ n => cases d <;> first | rfl | cases h
theorem fin_dD {c : Grp} {l : List Duty} : dD (fin c l) = match l with
    | [] => .tuple [.str "free"]
    | [x] => dD x
    | l => .tuple [.str (gS c), .tuple (l.map dD)] := by
  match l with
  | [] => exact dD_free
  | [x] => rfl
  | x :: y :: r => exact dD_group
theorem u28 : ∀ (f n : Nat) (d : Duty), GD n d → n ≤ f → n ≤ 20 → D_28 f [some (.val (dD d))] = .ok (dD (sp n d)) [some (.val (dD d))]
  | _, 0, _, h, _, _ => h.elim
  | 0, n + 1, _, _, h, _ => by omega
  | f + 1, n + 1, d, h, hf, hn => by
    have sz := sizeBig
    have z1 : 1 ≤ sizeLine := by omega
    have z2 : 2 ≤ sizeLine := by omega
    have hi := head_ix d
    have hni := notin_T d
    cases hgr : isGrp d with
    | false =>
      rw [sp_leaf hgr]
      rw [hgr] at hni
      show runD 3 (B_28 (D_28 f)) _ = _
      generalize D_28 f = DD
      generalize dD d = X at *
      apply wp_eq
      rw [wp_run]
      unfold B_28
      simp -dsimp [hi, hni]
    | true =>
      cases d with
      | group c ds =>
        rw [hgr] at hni
        have ih : ∀ x ∈ ds, D_28 f [some (.val (dD x))] = .ok (dD (sp n x)) [some (.val (dD x))] := fun x hx => u28 f n x (h.2.2 x hx) (by omega) (by omega)
        have c1 := lc_map (fi := iV (nOp2 oIx (.o 0) (.e (nC (.int 1))))) (g := gN 2) (f := nCall (D_28 f) (aCons (.o 2) (aNil))) (vs := [2]) (n := [some (.val (dD (.group c ds))), none, none]) (xs := ds) dD (fun x => dD (sp n x)) (by
          rw [dD_group]
          apply wp_eq
          simp -dsimp [atI_1]) rfl (fun x hx => by
          have e := ih x hx
          refine ⟨_, rfl, ?_, rfl⟩
          generalize dD (.group c ds) = Y at *
          generalize dD x = X at *
          apply wp_eq
          simp -dsimp [e]) (by have := h.2.1; omega) rfl
        have cm : (ds.map fun x => dD (sp n x)) = (ds.map (sp n)).map dD := by rw [List.map_map]; rfl
        rw [cm] at c1
        have hg : ∀ x ∈ ds.map (sp n), GD n x := fun x hx => by
          obtain ⟨d, hd, rfl⟩ := List.mem_map.mp hx
          exact sp_GD (h.2.2 d hd)
        have hl : (ds.map (sp n)).length ≤ 3 := by rw [List.length_map]; exact h.2.1
        show runD 3 (B_28 (D_28 f)) _ = .ok (dD (fin c (flt c (ds.map (sp n))))) _
        generalize D_28 f = DD at *
        generalize ds.map (sp n) = l at *
        have c2 := lc_mapF (fi := iV (nV 1)) (g := gN 2) (t := asB (nOp2 oNe (.o 2) (.e (nTup (aCons (.e (nC (.str "free"))) (aNil)))))) (f := nV 2) (vs := [2]) (n := [some (.val (dD (.group c ds))), some (.val (.tuple (l.map dD))), none]) (xs := l) dD dD nfree rfl rfl (fun x hx => by
          have e := neFree (hg x hx) (by omega)
          refine ⟨_, rfl, ?_, fun _ => rfl, rfl⟩
          generalize dD (.group c ds) = Y at *
          generalize dD x = X at *
          apply wp_eq
          simp -dsimp [e, z1]) (by omega) rfl
        have hb1 : bTuple [.list (l.map dD)] = some (.tuple (l.map dD)) := rfl
        have hb2 : bTuple [.list ((l.filter nfree).map dD)] = some (.tuple ((l.filter nfree).map dD)) := rfl
        have es := eq_sum c
        have hlf : (flt c l).length ≤ 3 := Nat.le_trans flt_len hl
        have hfl : flt c l = if isSum c = true then l.filter nfree else l := rfl
        have hhs : headS (.group c ds) = gS c := rfl
        rw [hhs] at hi hni
        -- behind the look at sums
        have last : ∀ Y1 : Option Sl, Wp (runD 3 (B_28 DD) [some (.val (dD (.group c ds)))]) (fun b m => b = dD (fin c (flt c l)) ∧ m = [some (.val (dD (.group c ds)))]) := fun _ => by
          rw [fin_dD]
          rw [wp_run]
          unfold B_28
          generalize dD (.group c ds) = Y at *
          generalize hcs : isSum c = b at *
          cases b with
          | true =>
            rw [if_pos rfl] at hfl
            rw [hfl] at hlf ⊢
            generalize l.filter nfree = k at *
            generalize PyData.tuple (l.map dD) = L1 at *
            simp -dsimp [hi, hni, c1, hb1, es, c2, hb2, z1, z2]
            match k with
            | [] => simp -dsimp [z1]
            | [x] => simp -dsimp [atI_0]
            | x :: y :: r =>
              have h0 : decide ((r.length : Int) + 1 + 1 = 0) = false := decide_eq_false (by omega)
              have h1 : decide ((r.length : Int) + 1 + 1 = 1) = false := decide_eq_false (by omega)
              simp -dsimp [h0, h1, hi, z2]
          | false =>
            rw [if_neg (by simp)] at hfl
            rw [hfl] at hlf ⊢
            simp -dsimp [hi, hni, c1, hb1, es, z1, z2]
            match l with
            | [] => simp -dsimp [z1]
            | [x] => simp -dsimp [atI_0]
            | x :: y :: r =>
              have h0 : decide ((r.length : Int) + 1 + 1 = 0) = false := decide_eq_false (by omega)
              have h1 : decide ((r.length : Int) + 1 + 1 = 1) = false := decide_eq_false (by omega)
              simp -dsimp [h0, h1, hi, z2]
        exact wp_eq (last none)
      | _ => cases hgr
end Wlaw_k02
end NL
end L2
namespace L2
namespace NL
open PySem PySem.Spec PyProof.Rows
namespace Wlaw_k02
theorem bInt_b {b : Bool} : bInt [.bool b] = some (.int (if b = true then 1 else 0)) := by cases b <;> rfl
theorem u48 : ∀ (f n : Nat) (d : Duty), GD n d → n ≤ f → n ≤ 20 → D_48 f [some (.val (dD d))] = .ok (dD (sp n d)) [some (.val (dD d))]
  | _, 0, _, h, _, _ => h.elim
  | 0, n + 1, _, _, h, _ => by omega
  | f + 1, n + 1, d, h, hf, hn => by
    have sz := sizeBig
    have z1 : 1 ≤ sizeLine := by omega
    have z2 : 2 ≤ sizeLine := by omega
    have hi := head_ix d
    have hni := notin_L d
    cases hgr : isGrp d with
    | false =>
      rw [sp_leaf hgr]
      rw [hgr] at hni
      show runD 3 (B_48 (D_48 f)) _ = _
      generalize D_48 f = DD
      generalize dD d = X at *
      apply wp_eq
      rw [wp_run]
      unfold B_48
      simp -dsimp [hi, hni, szn]
    | true =>
      cases d with
      | group c ds =>
        rw [hgr] at hni
        have ih : ∀ x ∈ ds, D_48 f [some (.val (dD x))] = .ok (dD (sp n x)) [some (.val (dD x))] := fun x hx => u48 f n x (h.2.2 x hx) (by omega) (by omega)
        have c1 := lc_map (fi := iV (nOp2 oIx (.o 0) (.e (nC (.int 1))))) (g := gN 2) (f := nCall (D_48 f) (aCons (.o 2) (aNil))) (vs := [2]) (n := [some (.val (dD (.group c ds))), none, none]) (xs := ds) dD (fun x => dD (sp n x)) (by
          rw [dD_group]
          apply wp_eq
          simp -dsimp [atI_1]) rfl (fun x hx => by
          have e := ih x hx
          refine ⟨_, rfl, ?_, rfl⟩
          generalize dD (.group c ds) = Y at *
          generalize dD x = X at *
          apply wp_eq
          simp -dsimp [e]) (by have := h.2.1; omega) rfl
        have cm : (ds.map fun x => dD (sp n x)) = (ds.map (sp n)).map dD := by rw [List.map_map]; rfl
        rw [cm] at c1
        have hg : ∀ x ∈ ds.map (sp n), GD n x := fun x hx => by
          obtain ⟨d, hd, rfl⟩ := List.mem_map.mp hx
          exact sp_GD (h.2.2 d hd)
        have hl : (ds.map (sp n)).length ≤ 3 := by rw [List.length_map]; exact h.2.1
        show runD 3 (B_48 (D_48 f)) _ = .ok (dD (fin c (flt c (ds.map (sp n))))) _
        generalize D_48 f = DD at *
        generalize ds.map (sp n) = l at *
        have c2 := lc_mapF (fi := iV (nV 1)) (g := gN 2) (t := asB (nOp2 oNe (.o 2) (.e (nTup (aCons (.e (nC (.str "free"))) (aNil)))))) (f := nV 2) (vs := [2]) (n := [some (.val (dD (.group c ds))), some (.val (.list (l.map dD))), none]) (xs := l) dD dD nfree rfl rfl (fun x hx => by
          have e := neFree (hg x hx) (by omega)
          refine ⟨_, rfl, ?_, fun _ => rfl, rfl⟩
          generalize dD (.group c ds) = Y at *
          generalize dD x = X at *
          apply wp_eq
          simp -dsimp [e, z1]) (by omega) rfl
        have es := eq_sum c
        have hlf : (flt c l).length ≤ 3 := Nat.le_trans flt_len hl
        have hfl : flt c l = if isSum c = true then l.filter nfree else l := rfl
        have hhs : headS (.group c ds) = gS c := rfl
        rw [hhs] at hi hni
        have eqn : oEq (.list ((flt c l).map dD)) (.list []) = some (.bool ((flt c l).map dD).isEmpty) := oEq_nil (k := 2 * n + 4) (fun x hx => by
          obtain ⟨d, hd, rfl⟩ := List.mem_map.mp hx
          exact shp_dD (hg d (flt_mem hd))) (by omega)
        have hbt : ∀ k : List PyData, bTuple [.list k] = some (.tuple k) := fun k => rfl
        have last : Wp (runD 3 (B_48 DD) [some (.val (dD (.group c ds)))]) (fun b m => b = dD (fin c (flt c l)) ∧ m = [some (.val (dD (.group c ds)))]) := by
          rw [fin_dD]
          rw [wp_run]
          unfold B_48
          generalize dD (.group c ds) = Y at *
          generalize hcs : isSum c = b at *
          cases b with
          | true =>
            rw [if_pos rfl] at hfl
            rw [hfl] at hlf eqn ⊢
            generalize l.filter nfree = k at *
            simp -dsimp [hi, hni, c1, es, c2, eqn, z1, z2, szn]
            match k with
            | [] => simp -dsimp [z1]
            | [x] => simp -dsimp [atI_0, atI_1, hi, bInt_b, szn, z2, hbt]
            | x :: y :: r =>
              have h1 : decide ((r.length : Int) + 1 + 1 = 1) = false := decide_eq_false (by omega)
              simp -dsimp [h1, hi, z2, szn, atI_0, bInt_b, hbt]
          | false =>
            rw [if_neg (by simp)] at hfl
            rw [hfl] at hlf eqn ⊢
            simp -dsimp [hi, hni, c1, es, eqn, z1, z2, szn]
            match l with
            | [] => simp -dsimp [z1]
            | [x] => simp -dsimp [atI_0, atI_1, hi, bInt_b, szn, z2, hbt]
            | x :: y :: r =>
              have h1 : decide ((r.length : Int) + 1 + 1 = 1) = false := decide_eq_false (by omega)
              simp -dsimp [h1, hi, z2, szn, atI_0, bInt_b, hbt]
        exact wp_eq last
      | _ => cases hgr
theorem u29 {n : Nat} (hn : n ≤ 5) {d : Duty} (h : GD n d) : D_29 [some (.val (dD d))] = .ok (dD (sp n d)) [some (.val (dD d))] := by
  have e1 := s20 hn h
  have e2 := u28 12 n d h (by omega) (by omega)
  have s8 := s8
  generalize dD d = X at *
  apply wp_eq
  unfold D_29
  rw [wp_run]
  unfold B_29
  simp -dsimp [e1, s8, e2]
end Wlaw_k02
end NL
end L2
/-! M12: texts, plain words. -/
namespace L2
namespace NL
open PySem PySem.Spec PyProof.Rows
def onS (d : PyData) (k : Str → Prop) (_ : Tg k := .mk) : Prop := match d with
  | .str x => k x
  | _ => False
@[simp] theorem onS_str {x : Str} {k : Str → Prop} : onS (.str x) k = k x := id rfl
theorem onS_congr {o o' : PyData} {k : Str → Prop} (h : o = o') : onS o k = onS o' k := by rw [h]
section
variable {n : NSt} {P : PyData → NSt → Prop} {Pd : List PyData → NSt → Prop} {f : NExp} {q : Opd} {g : Str → NExp} {acc : Str}
@[simp ↓] theorem wp_sm1 {o : Str → PyData → Option PyData} : Wp (nSm1 o f q n) P = Wp (f n) fun d n1 => onS d fun x => Wp (q.run n1) fun b n2 => onO (b.get n2) fun y => onO (o x y) fun z => P z n2 := by
  unfold nSm1
  rw [wp_bind]
  refine wp_ext fun d n1 => ?_
  cases d with
  | str x =>
    rw [onS_str]
    dsimp only
    rw [wp_bind]
    refine wp_ext fun b n2 => ?_
    cases b.get n2 with
    | none => exact wp_C
    | some y =>
      rw [onO_some]
      exact wp_lift
  | _ => exact wp_C
def fmtO (d : PyData) : Option Str := match d with
  | .str y => if y.length ≤ sizeLine then some y else none
  | .int i => if i.natAbs.log2 < 1920 then some (toString i : String) else none
  | _ => none
@[simp ↓] theorem wp_fmt : Wp (nFmt f n) P = Wp (f n) fun d n1 => onO (fmtO d) fun y => P (.str y) n1 := by
  unfold nFmt
  rw [wp_bind]
  refine wp_ext fun d n1 => ?_
  unfold fmtO
  cases d with
  | str y => by_cases h : y.length ≤ sizeLine <;> simp -dsimp [h]
  | int i => by_cases h : i.natAbs.log2 < 1920 <;> simp -dsimp [h]
  | _ => exact wp_C
@[simp ↓] theorem wp_jNil : Wp (jNil acc n) P = P (.str acc) n := wp_C
@[simp ↓] theorem wp_jCons : Wp (jCons f g acc n) P = Wp (f n) fun d n1 => onS d fun y => (acc ++ y).length ≤ sizeLine ∧ Wp (g (acc ++ y) n1) P := by
  unfold jCons
  rw [wp_bind]
  refine wp_ext fun d n1 => ?_
  cases d with
  | str y =>
    rw [onS_str]
    dsimp only
    by_cases h : (acc ++ y).length ≤ sizeLine <;> simp -dsimp [h]
  | _ => exact wp_C
@[simp ↓] theorem wp_lstRg : Wp (nLstRg f n) Pd = Wp (f n) fun d n' => onI d fun j => (0 ≤ j ∧ j ≤ 100000) ∧ Pd (rgD 0 j) n' := by
  unfold nLstRg
  rw [wp_bind]
  refine wp_ext fun d n' => ?_
  cases d with
  | int j =>
    rw [onI_int]
    dsimp only
    by_cases h : 0 ≤ j ∧ j ≤ 100000
    · rw [if_pos h]; simp -dsimp [h]
    · rw [if_neg h]; simp -dsimp [h]
  | _ => exact wp_C
def rg3 (as : List AV) : Option (List PyData) := match as with
  | [.v (.int i), .v (.int j), .v (.int c)] => if rg3Ok i j c = true then some (rgD3 i j c) else none
  | _ => none
@[simp] theorem rg3_int {i j c : Int} : rg3 [.v (.int i), .v (.int j), .v (.int c)] = if rg3Ok i j c = true then some (rgD3 i j c) else none := id rfl
@[simp ↓] theorem wp_iRg3 {fs : NSt → R (List AV)} {P : List PyData → NSt → Prop} : Wp (iRg3 fs n) P = Wp (fs n) fun as n' => onO (rg3 as) fun xs => P xs n' := by
  unfold iRg3
  rw [wp_bind]
  refine wp_ext fun as n' => ?_
  unfold rg3
  split
  · rename_i i j c
    by_cases h : rg3Ok i j c = true <;> simp -dsimp [h]
  · simp -dsimp
end
/-! texts -/
theorem str_nil {a : Str} : Str.empty ++ a = a := by
  show (⟨#[] ++ a.cps⟩ : Str) = _
  rw [Array.empty_append]
/-- the text of a number -/
def ts (k : Nat) : Str := Str.ofString (toString (k : Int))
theorem ts_lenB {k j : Nat} (hj : 0 < j) (h : k < 10 ^ j) : (ts k).length ≤ j := by
  have e : (ts k).length = (Nat.repr k).length := by
    unfold ts
    rw [Str.ofString_eq_toList]
    show ((toString (k : Int)).toList.map Char.toNat).toArray.size = _
    rw [List.size_toArray, List.length_map]
    rfl
  rw [e]
  exact (Nat.length_repr_le_iff hj).mpr h
theorem ts_len {k : Nat} (h : k ≤ 1000) : (ts k).length ≤ 4 := ts_lenB (by omega) (by omega)
theorem ts_len5 {k : Nat} (h : k ≤ 10000) : (ts k).length ≤ 5 := ts_lenB (by omega) (by omega)
theorem log_sm {k : Nat} (h : k ≤ 10 ^ 89) : (k : Int).natAbs.log2 < 1920 := by
  rw [Int.natAbs_natCast]
  by_cases hz : k = 0
  · subst hz; decide
  · rw [Nat.log2_lt hz]
    exact Nat.lt_of_le_of_lt h (by decide +kernel)
theorem bStr_n {k : Nat} (h : k ≤ 10 ^ 89) : bStr [.int (k : Int)] = some (.str (ts k)) := by
  show (if _ then _ else _) = _
  rw [if_pos (log_sm h)]
  rfl
theorem fmt_n {k : Nat} (h : k ≤ 10 ^ 89) : fmtO (.int (k : Int)) = some (ts k) := by
  show (if _ then _ else _) = _
  rw [if_pos (log_sm h)]
  rfl
theorem fmt_s {x : Str} (h : x.length ≤ 1000000) : fmtO (.str x) = some x := by
  show (if _ then _ else _) = _
  rw [if_pos (by rw [sizeLine_eq]; omega)]
theorem add_s {a b : Str} (h : a.length + b.length ≤ 1000000) : oAdd (.str a) (.str b) = some (.str (a ++ b)) := by
  show (if a.length + b.length ≤ sizeLine then some (PyData.str (a ++ b)) else none) = _
  rw [if_pos (by rw [sizeLine_eq]; omega)]
theorem strL_map {α : Type} (f : α → Str) : ∀ xs : List α, strL (xs.map fun x => .str (f x)) = some (xs.map f)
  | [] => rfl
  | x :: xs => by
    show (strL (xs.map fun x => .str (f x))).map (f x :: ·) = _
    rw [strL_map f xs]
    rfl
theorem join_s {α : Type} {f : α → Str} {xs : List α} {a : Str} (h : (xs.map fun x => (f x).length).sum + xs.length * a.length ≤ 1000000) : oJoin a (.list (xs.map fun x => .str (f x))) = some (.str (Txt.join a (xs.map f))) := by
  show (strL (xs.map fun x => .str (f x))).bind _ = _
  rw [strL_map]
  show (if ((xs.map f).map (·.length)).sum + (xs.map f).length * a.length ≤ 16777216 then _ else _) = _
  rw [List.map_map, List.length_map, if_pos]
  have e : ((fun x : Str => x.length) ∘ f) = fun x => (f x).length := rfl
  rw [e]
  omega
theorem join_len {α : Type} {f : α → Str} {xs : List α} {a : Str} : (Txt.join a (xs.map f)).length ≤ (xs.map fun x => (f x).length).sum + xs.length * a.length := by
  rw [show Txt.join a (xs.map f) = Str.join a (xs.map f) from StrLaws.glued_eq_join a (xs.map f)]
  have := StrLaws.join_length_le a (xs.map f)
  rw [List.map_map, List.length_map] at this
  exact this
theorem sum_le' {α : Type} {f : α → Nat} {B : Nat} : ∀ {xs : List α}, (∀ x ∈ xs, f x ≤ B) → (xs.map f).sum ≤ xs.length * B
  | [], _ => by simp
  | x :: xs, h => by
    have h1 := h x List.mem_cons_self
    have h2 := sum_le' (xs := xs) fun y hy => h y (List.mem_cons_of_mem _ hy)
    rw [List.map_cons, List.sum_cons, List.length_cons, Nat.add_mul]
    omega
end NL
end L2
namespace L2
namespace NL
open PySem PySem.Spec PyProof.Rows
namespace Wlaw_k02
/-! texts of duties -/
def unS (w : Bool) : Str := if w = true then "weight" else "piece"
def stS' (s : Nat × Nat × Nat) : Str := ts s.1 ++ " " ++ ts s.2.1 ++ "/" ++ ts s.2.2
def tx : Nat → Duty → Str
  | 0, _ => Str.empty
  | _ + 1, .free => "free"
  | _ + 1, .value a b => ts a ++ "/" ++ ts b ++ " of value"
  | _ + 1, .unit w k => ts k ++ " a " ++ unS w
  | _ + 1, .steps ss => "steps " ++ Txt.join ", " (ss.map stS')
  | n + 1, .group c ds => "the " ++ gS c ++ " of (" ++ Txt.join "; " (ds.map (tx n)) ++ ")"
def LN : Nat → Nat
  | 0 => 0
  | n + 1 => 3 * LN n + 100
theorem l_free : ("free" : Str).length = 4 := by decide +kernel
theorem l_sl : ("/" : Str).length = 1 := by decide +kernel
theorem l_ov : (" of value" : Str).length = 9 := by decide +kernel
theorem l_a : (" a " : Str).length = 3 := by decide +kernel
theorem l_w : ("weight" : Str).length = 6 := by decide +kernel
theorem l_p : ("piece" : Str).length = 5 := by decide +kernel
theorem l_st : ("steps " : Str).length = 6 := by decide +kernel
theorem l_sp : (" " : Str).length = 1 := by decide +kernel
theorem l_co : (", " : Str).length = 2 := by decide +kernel
theorem l_se : ("; " : Str).length = 2 := by decide +kernel
theorem l_the : ("the " : Str).length = 4 := by decide +kernel
theorem l_of : (" of (" : Str).length = 5 := by decide +kernel
theorem l_cl : (")" : Str).length = 1 := by decide +kernel
theorem l_gS {c : Grp} : (gS c).length ≤ 5 := by cases c <;> decide +kernel
theorem l_unS {w : Bool} : (unS w).length ≤ 6 := by cases w <;> decide +kernel
theorem l_em : Str.empty.length = 0 := rfl
theorem len_step {s : Nat × Nat × Nat} (h1 : s.1 ≤ 10000) (h2 : s.2.1 ≤ 1000) (h3 : s.2.2 ≤ 1000) : (stS' s).length ≤ 15 := by
  have := ts_len5 h1
  have := ts_len h2
  have := ts_len h3
  unfold stS'
  rw [Str.length_append, Str.length_append, Str.length_append, Str.length_append, l_sp, l_sl]
  omega
theorem len_steps {ss : List (Nat × Nat × Nat)} (h : GSt ss) : (ss.map fun s => (stS' s).length).sum ≤ 60 := by
  have := sum_le' (B := 15) (f := fun s => (stS' s).length) (xs := ss) fun s hs => by
    have r := h.rt s hs
    exact len_step (h.bd s hs) (by have := r.a40; omega) (by have := r.b30; omega)
  have := h.len
  omega
theorem len_tx : ∀ {n : Nat} {d : Duty}, GD n d → (tx n d).length ≤ LN n
  | 0, _, h => h.elim
  | n + 1, d, h => by
    show (tx (n + 1) d).length ≤ 3 * LN n + 100
    cases d with
    | free => show ("free" : Str).length ≤ _; rw [l_free]; omega
    | value a b =>
      have h : GRt a b := h
      have := ts_len (k := a) (by have := h.a40; omega)
      have := ts_len (k := b) (by have := h.b30; omega)
      show (ts a ++ "/" ++ ts b ++ " of value").length ≤ _
      rw [Str.length_append, Str.length_append, Str.length_append, l_sl, l_ov]
      omega
    | unit w k =>
      have h : k ≤ 200 := h
      have := ts_len (k := k) (by omega)
      have := @l_unS w
      show (ts k ++ " a " ++ unS w).length ≤ _
      rw [Str.length_append, Str.length_append, l_a]
      omega
    | steps ss =>
      have h : GSt ss := h
      have h1 := len_steps h
      have h2 := join_len (f := stS') (xs := ss) (a := ", ")
      have := h.len
      show ("steps " ++ Txt.join ", " (ss.map stS')).length ≤ _
      rw [Str.length_append, l_st]
      rw [l_co] at h2
      omega
    | group c ds =>
      have h1 : (ds.map fun d => (tx n d).length).sum ≤ ds.length * LN n := sum_le' fun d hd => len_tx (h.2.2 d hd)
      have h2 := join_len (f := tx n) (xs := ds) (a := "; ")
      have h3 := Nat.mul_le_mul_right (LN n) h.2.1
      have h4 := @l_gS c
      have := h.2.1
      show ("the " ++ gS c ++ " of (" ++ Txt.join "; " (ds.map (tx n)) ++ ")").length ≤ _
      rw [Str.length_append, Str.length_append, Str.length_append, Str.length_append, l_the, l_of, l_cl]
      rw [l_se] at h2
      omega
theorem LN_le : ∀ {n : Nat}, n ≤ 5 → LN n ≤ 12100
  | 0, _ => by decide
  | 1, _ => by decide
  | 2, _ => by decide
  | 3, _ => by decide
  | 4, _ => by decide
  | 5, _ => by decide
  | n + 6, h => by omega
abbrev PW : PyData := .tuple [.str "piece", .str "weight"]
abbrev PWL : PyData := .list [.str "piece", .str "weight"]
theorem q_ff : oEq (.str "free") (.str "free") = some (.bool true) := by kernel_rfl
theorem q_vf : oEq (.str "value") (.str "free") = some (.bool false) := by kernel_rfl
theorem q_vv : oEq (.str "value") (.str "value") = some (.bool true) := by kernel_rfl
theorem q_sf : oEq (.str "steps") (.str "free") = some (.bool false) := by kernel_rfl
theorem q_sv : oEq (.str "steps") (.str "value") = some (.bool false) := by kernel_rfl
theorem q_ss : oEq (.str "steps") (.str "steps") = some (.bool true) := by kernel_rfl
theorem q_si : oIn (.str "steps") PW = some (.bool false) := by kernel_rfl
theorem q_sil : oIn (.str "steps") PWL = some (.bool false) := by kernel_rfl
theorem q_uf {w : Bool} : oEq (.str (unS w)) (.str "free") = some (.bool false) := by cases w <;> kernel_rfl
theorem q_uv {w : Bool} : oEq (.str (unS w)) (.str "value") = some (.bool false) := by cases w <;> kernel_rfl
theorem q_ui {w : Bool} : oIn (.str (unS w)) PW = some (.bool true) := by cases w <;> kernel_rfl
theorem q_uil {w : Bool} : oIn (.str (unS w)) PWL = some (.bool true) := by cases w <;> kernel_rfl
theorem q_gf {c : Grp} : oEq (.str (gS c)) (.str "free") = some (.bool false) := by cases c <;> kernel_rfl
theorem q_gv {c : Grp} : oEq (.str (gS c)) (.str "value") = some (.bool false) := by cases c <;> kernel_rfl
theorem q_gs {c : Grp} : oEq (.str (gS c)) (.str "steps") = some (.bool false) := by cases c <;> kernel_rfl
theorem q_gi {c : Grp} : oIn (.str (gS c)) PW = some (.bool false) := by cases c <;> kernel_rfl
theorem q_gil {c : Grp} : oIn (.str (gS c)) PWL = some (.bool false) := by cases c <;> kernel_rfl
theorem dD_unit {w : Bool} {n : Nat} : dD (.unit w n) = .tuple [.str (unS w), .int (n : Int)] := by
  cases w
  · exact dD_piece
  · exact dD_weight
theorem c89 {k : Nat} (h : k ≤ 10000) : k ≤ 10 ^ 89 := Nat.le_trans h (by decide +kernel)
theorem le89 {a : Str} {B : Nat} (h : a.length ≤ B) (hB : B ≤ 1000000) : a.length ≤ sizeLine := by rw [sizeLine_eq]; omega
end Wlaw_k02
end NL
end L2
namespace L2
namespace NL
open PySem PySem.Spec PyProof.Rows
namespace Wlaw_k02
theorem u30 : ∀ (f n : Nat) (d : Duty), GD n d → n ≤ f → n ≤ 5 → D_30 f [some (.val (dD d))] = .ok (.str (tx n d)) [some (.val (dD d))]
  | _, 0, _, h, _, _ => h.elim
  | 0, n + 1, _, _, h, _ => by omega
  | f + 1, n + 1, d, h, hf, hn => by
    have sz := sizeBig
    have z2 : 2 ≤ sizeLine := by omega
    have hlen := Nat.le_trans (len_tx h) (LN_le hn)
    have szl : sizeLine = 16777216 := sizeLine_eq
    show runD 5 (B_30 (D_30 f)) _ = _
    cases d with
    | free =>
      have hi := head_ix .free
      have hi : oIx (dD .free) (.int 0) = some (.str "free") := hi
      have q := q_ff
      show _ = R.ok (PyData.str "free") _
      generalize dD .free = X at *
      apply wp_eq
      rw [wp_run]
      unfold B_30
      simp -dsimp [hi, q]
    | value a b =>
      have h : GRt a b := h
      have ha := h.a40
      have hb := h.b30
      have fa := fmt_n (k := a) (c89 (by omega))
      have fb := fmt_n (k := b) (c89 (by omega))
      have q1 := q_vf
      have q2 := q_vv
      have la := ts_len (k := a) (by omega)
      have lb := ts_len (k := b) (by omega)
      have hs := l_sl
      have ho := l_ov
      show _ = R.ok (PyData.str (ts a ++ "/" ++ ts b ++ " of value")) _
      rw [dD_value]
      apply wp_eq
      rw [wp_run]
      unfold B_30
      simp -dsimp [atI_0, atI_1, atI_2, q1, q2, fa, fb, str_nil, Str.length_append, hs, ho]
      omega
    | unit w k =>
      have h : k ≤ 200 := h
      have fa := fmt_n (k := k) (c89 (by omega))
      have la := ts_len (k := k) (by omega)
      have lw := @l_unS w
      have fw := fmt_s (x := unS w) (by omega)
      have q1 := @q_uf w
      have q2 := @q_uv w
      have q3 := @q_ui w
      have hs := l_a
      show _ = R.ok (PyData.str (ts k ++ " a " ++ unS w)) _
      rw [dD_unit]
      generalize unS w = u at *
      apply wp_eq
      rw [wp_run]
      unfold B_30
      simp -dsimp [atI_0, atI_1, q1, q2, q3, fa, fw, str_nil, Str.length_append, hs, z2]
      omega
    | steps ss =>
      have h : GSt ss := h
      have c1 := lc_map (fi := iV (nOp2 oIx (.o 0) (.e (nC (.int 1))))) (g := gT (gCons' (gN 1) (gCons' (gT (gCons' (gN 2) (gCons' (gN 3) (gNil')))) (gNil')))) (f := (jCons (nFmt (nV 1)) (jCons (nC (.str " ")) (jCons (nFmt (nV 2)) (jCons (nC (.str "/")) (jCons (nFmt (nV 3)) (jNil)))))) Str.empty) (vs := [1, 2, 3]) (n := [some (.val (dD (.steps ss))), none, none, none, none]) (xs := ss) dSt (fun s => .str (stS' s)) (by
        rw [dD_steps]
        apply wp_eq
        simp -dsimp [atI_1]) rfl (fun s hs => by
        have r := h.rt s hs
        have ha := r.a40
        have hb := r.b30
        have hc := h.bd s hs
        have f1 := fmt_n (k := s.1) (c89 (by omega))
        have f2 := fmt_n (k := s.2.1) (c89 (by omega))
        have f3 := fmt_n (k := s.2.2) (c89 (by omega))
        have l1 := ts_len5 (k := s.1) (by omega)
        have l2 := ts_len (k := s.2.1) (by omega)
        have l3 := ts_len (k := s.2.2) (by omega)
        have hs := l_sl
        have ho := l_sp
        refine ⟨[some (.val (dD (.steps ss))), some (.val (.int (s.1 : Int))), some (.val (.int (s.2.1 : Int))), some (.val (.int (s.2.2 : Int))), none], rfl, ?_, rfl⟩
        show _ = R.ok (PyData.str (ts s.1 ++ " " ++ ts s.2.1 ++ "/" ++ ts s.2.2)) _
        generalize dD (.steps ss) = Y at *
        apply wp_eq
        simp -dsimp [f1, f2, f3, str_nil, Str.length_append, hs, ho]
        omega) (by have := h.len; omega) rfl
      have hsum := len_steps h
      have hl4 := h.len
      have jn := join_s (f := stS') (xs := ss) (a := ", ") (by rw [l_co]; omega)
      have jl := join_len (f := stS') (xs := ss) (a := ", ")
      rw [l_co] at jl
      have ad := add_s (a := "steps ") (b := Txt.join ", " (ss.map stS')) (by rw [l_st]; omega)
      have hi : oIx (dD (.steps ss)) (.int 0) = some (.str "steps") := head_ix (.steps ss)
      have q1 := q_sf
      have q2 := q_sv
      have q3 := q_si
      have q4 := q_ss
      show _ = R.ok (PyData.str ("steps " ++ Txt.join ", " (ss.map stS'))) _
      generalize Txt.join ", " (ss.map stS') = J at *
      generalize (ss.map fun s => PyData.str (stS' s)) = K at *
      generalize dD (.steps ss) = X at *
      apply wp_eq
      rw [wp_run]
      unfold B_30
      simp -dsimp [hi, q1, q2, q3, q4, z2, c1, jn, ad]
    | group c ds =>
      have ih : ∀ x ∈ ds, D_30 f [some (.val (dD x))] = .ok (.str (tx n x)) [some (.val (dD x))] := fun x hx => u30 f n x (h.2.2 x hx) (by omega) (by omega)
      have c1 := lc_map (fi := iV (nOp2 oIx (.o 0) (.e (nC (.int 1))))) (g := gN 4) (f := nCall (D_30 f) (aCons (.o 4) (aNil))) (vs := [4]) (n := [some (.val (dD (.group c ds))), none, none, none, none]) (xs := ds) dD (fun x => .str (tx n x)) (by
        rw [dD_group]
        apply wp_eq
        simp -dsimp [atI_1]) rfl (fun x hx => by
        have e := ih x hx
        refine ⟨_, rfl, ?_, rfl⟩
        generalize dD (.group c ds) = Y at *
        generalize dD x = X at *
        apply wp_eq
        simp -dsimp [e]) (by have := h.2.1; omega) rfl
      have h1 : (ds.map fun d => (tx n d).length).sum ≤ ds.length * LN n := sum_le' fun d hd => len_tx (h.2.2 d hd)
      have h2 := LN_le (n := n) (by omega)
      have h3 := Nat.mul_le_mul h.2.1 h2
      have h4 := h.2.1
      have jn := join_s (f := tx n) (xs := ds) (a := "; ") (by rw [l_se]; omega)
      have jl := join_len (f := tx n) (xs := ds) (a := "; ")
      rw [l_se] at jl
      have lg := @l_gS c
      have fg := fmt_s (x := gS c) (by omega)
      have lt := l_the
      have lo := l_of
      have lc := l_cl
      have ad1 := add_s (a := "the " ++ gS c ++ " of (") (b := Txt.join "; " (ds.map (tx n))) (by rw [Str.length_append, Str.length_append, l_the, l_of]; omega)
      have ad2 := add_s (a := "the " ++ gS c ++ " of (" ++ Txt.join "; " (ds.map (tx n))) (b := ")") (by rw [Str.length_append, Str.length_append, Str.length_append, l_the, l_of, l_cl]; omega)
      have hi : oIx (dD (.group c ds)) (.int 0) = some (.str (gS c)) := head_ix (.group c ds)
      have q1 := @q_gf c
      have q2 := @q_gv c
      have q3 := @q_gi c
      have q4 := @q_gs c
      show _ = R.ok (PyData.str ("the " ++ gS c ++ " of (" ++ Txt.join "; " (ds.map (tx n)) ++ ")")) _
      generalize Txt.join "; " (ds.map (tx n)) = J at *
      generalize (ds.map fun s => PyData.str (tx n s)) = K at *
      generalize dD (.group c ds) = X at *
      generalize D_30 f = DD at *
      generalize gS c = G at *
      apply wp_eq
      rw [wp_run]
      unfold B_30
      simp -dsimp [hi, q1, q2, q3, q4, z2, c1, jn, fg, str_nil, Str.length_append, lt, lo, ad1, ad2]
      omega
end Wlaw_k02
end NL
end L2
namespace L2
namespace NL
open PySem PySem.Spec PyProof.Rows
namespace Wlaw_k02
theorem u49 : ∀ (f n : Nat) (d : Duty), GD n d → n ≤ f → n ≤ 5 → D_49 f [some (.val (dD d))] = .ok (.str (tx n d)) [some (.val (dD d))]
  | _, 0, _, h, _, _ => h.elim
  | 0, n + 1, _, _, h, _ => by omega
  | f + 1, n + 1, d, h, hf, hn => by
    have sz := sizeBig
    have z2 : 2 ≤ sizeLine := by omega
    have hlen := Nat.le_trans (len_tx h) (LN_le hn)
    have szl : sizeLine = 16777216 := sizeLine_eq
    show runD 3 (B_49 (D_49 f)) _ = _
    cases d with
    | free =>
      have hi := head_ix .free
      have hi : oIx (dD .free) (.int 0) = some (.str "free") := hi
      have q := q_ff
      show _ = R.ok (PyData.str "free") _
      generalize dD .free = X at *
      apply wp_eq
      rw [wp_run]
      unfold B_49
      simp -dsimp [hi, q]
    | value a b =>
      have h : GRt a b := h
      have ha := h.a40
      have hb := h.b30
      have fa := bStr_n (k := a) (c89 (by omega))
      have fb := bStr_n (k := b) (c89 (by omega))
      have q1 := q_vf
      have q2 := q_vv
      have la := ts_len (k := a) (by omega)
      have lb := ts_len (k := b) (by omega)
      have a1 := add_s (a := ts a) (b := "/") (by rw [l_sl]; omega)
      have a2 := add_s (a := ts a ++ "/") (b := ts b) (by rw [Str.length_append, l_sl]; omega)
      have a3 := add_s (a := ts a ++ "/" ++ ts b) (b := " of value") (by rw [Str.length_append, Str.length_append, l_sl, l_ov]; omega)
      show _ = R.ok (PyData.str (ts a ++ "/" ++ ts b ++ " of value")) _
      rw [dD_value]
      apply wp_eq
      rw [wp_run]
      unfold B_49
      simp -dsimp [atI_0, atI_1, atI_2, q1, q2, fa, fb, a1, a2, a3]
    | unit w k =>
      have h : k ≤ 200 := h
      have fa := bStr_n (k := k) (c89 (by omega))
      have la := ts_len (k := k) (by omega)
      have lw := @l_unS w
      have q1 := @q_uf w
      have q2 := @q_uv w
      have q3 := @q_uil w
      have a1 := add_s (a := ts k) (b := " a ") (by rw [l_a]; omega)
      have a2 := add_s (a := ts k ++ " a ") (b := unS w) (by rw [Str.length_append, l_a]; omega)
      show _ = R.ok (PyData.str (ts k ++ " a " ++ unS w)) _
      rw [dD_unit]
      generalize unS w = u at *
      apply wp_eq
      rw [wp_run]
      unfold B_49
      simp -dsimp [atI_0, atI_1, q1, q2, q3, fa, a1, a2, szn]
    | steps ss =>
      have h : GSt ss := h
      have c1 := lc_map (fi := iV (nOp2 oIx (.o 0) (.e (nC (.int 1))))) (g := gN 1) (f := nOp2 oAdd (.e (nOp2 oAdd (.e (nOp2 oAdd (.e (nOp2 oAdd (.e (nCB bStr (aCons (.e (nOp2 oIx (.o 1) (.e (nC (.int 0))))) (aNil)))) (.e (nC (.str " "))))) (.e (nCB bStr (aCons (.e (nOp2 oIx (.e (nOp2 oIx (.o 1) (.e (nC (.int 1))))) (.e (nC (.int 0))))) (aNil)))))) (.e (nC (.str "/"))))) (.e (nCB bStr (aCons (.e (nOp2 oIx (.e (nOp2 oIx (.o 1) (.e (nC (.int 1))))) (.e (nC (.int 1))))) (aNil))))) (vs := [1]) (n := [some (.val (dD (.steps ss))), none, none]) (xs := ss) dSt (fun s => .str (stS' s)) (by
        rw [dD_steps]
        apply wp_eq
        simp -dsimp [atI_1]) rfl (fun s hs => by
        have r := h.rt s hs
        have ha := r.a40
        have hb := r.b30
        have hc := h.bd s hs
        have f1 := bStr_n (k := s.1) (c89 (by omega))
        have f2 := bStr_n (k := s.2.1) (c89 (by omega))
        have f3 := bStr_n (k := s.2.2) (c89 (by omega))
        have l1 := ts_len5 (k := s.1) (by omega)
        have l2 := ts_len (k := s.2.1) (by omega)
        have l3 := ts_len (k := s.2.2) (by omega)
        have a1 := add_s (a := ts s.1) (b := " ") (by rw [l_sp]; omega)
        have a2 := add_s (a := ts s.1 ++ " ") (b := ts s.2.1) (by rw [Str.length_append, l_sp]; omega)
        have a3 := add_s (a := ts s.1 ++ " " ++ ts s.2.1) (b := "/") (by rw [Str.length_append, Str.length_append, l_sp, l_sl]; omega)
        have a4 := add_s (a := ts s.1 ++ " " ++ ts s.2.1 ++ "/") (b := ts s.2.2) (by rw [Str.length_append, Str.length_append, Str.length_append, l_sp, l_sl]; omega)
        have i0 : oIx (dSt s) (.int 0) = some (.int (s.1 : Int)) := rfl
        have i1 : oIx (dSt s) (.int 1) = some (dPt s.2) := rfl
        have j0 : oIx (dPt s.2) (.int 0) = some (.int (s.2.1 : Int)) := rfl
        have j1 : oIx (dPt s.2) (.int 1) = some (.int (s.2.2 : Int)) := rfl
        refine ⟨_, rfl, ?_, rfl⟩
        show _ = R.ok (PyData.str (ts s.1 ++ " " ++ ts s.2.1 ++ "/" ++ ts s.2.2)) _
        generalize dD (.steps ss) = Y at *
        generalize dSt s = Z at *
        generalize dPt s.2 = U at *
        apply wp_eq
        simp -dsimp [i0, i1, j0, j1, f1, f2, f3, a1, a2, a3, a4]) (by have := h.len; omega) rfl
      have hsum := len_steps h
      have hl4 := h.len
      have jn := join_s (f := stS') (xs := ss) (a := ", ") (by rw [l_co]; omega)
      have jl := join_len (f := stS') (xs := ss) (a := ", ")
      rw [l_co] at jl
      have ad := add_s (a := "steps ") (b := Txt.join ", " (ss.map stS')) (by rw [l_st]; omega)
      have hi : oIx (dD (.steps ss)) (.int 0) = some (.str "steps") := head_ix (.steps ss)
      have q1 := q_sf
      have q2 := q_sv
      have q3 := q_sil
      have q4 := q_ss
      show _ = R.ok (PyData.str ("steps " ++ Txt.join ", " (ss.map stS'))) _
      generalize Txt.join ", " (ss.map stS') = J at *
      generalize (ss.map fun s => PyData.str (stS' s)) = K at *
      generalize dD (.steps ss) = X at *
      apply wp_eq
      rw [wp_run]
      unfold B_49
      simp -dsimp [hi, q1, q2, q3, q4, szn, c1, jn, ad]
    | group c ds =>
      have ih : ∀ x ∈ ds, D_49 f [some (.val (dD x))] = .ok (.str (tx n x)) [some (.val (dD x))] := fun x hx => u49 f n x (h.2.2 x hx) (by omega) (by omega)
      have c1 := lc_map (fi := iV (nOp2 oIx (.o 0) (.e (nC (.int 1))))) (g := gN 2) (f := nCall (D_49 f) (aCons (.o 2) (aNil))) (vs := [2]) (n := [some (.val (dD (.group c ds))), none, none]) (xs := ds) dD (fun x => .str (tx n x)) (by
        rw [dD_group]
        apply wp_eq
        simp -dsimp [atI_1]) rfl (fun x hx => by
        have e := ih x hx
        refine ⟨_, rfl, ?_, rfl⟩
        generalize dD (.group c ds) = Y at *
        generalize dD x = X at *
        apply wp_eq
        simp -dsimp [e]) (by have := h.2.1; omega) rfl
      have h1 : (ds.map fun d => (tx n d).length).sum ≤ ds.length * LN n := sum_le' fun d hd => len_tx (h.2.2 d hd)
      have h2 := LN_le (n := n) (by omega)
      have h3 := Nat.mul_le_mul h.2.1 h2
      have h4 := h.2.1
      have jn := join_s (f := tx n) (xs := ds) (a := "; ") (by rw [l_se]; omega)
      have jl := join_len (f := tx n) (xs := ds) (a := "; ")
      rw [l_se] at jl
      have lg := @l_gS c
      have ad01 := add_s (a := "the ") (b := gS c) (by rw [l_the]; omega)
      have ad02 := add_s (a := "the " ++ gS c) (b := " of (") (by rw [Str.length_append, l_the, l_of]; omega)
      have ad1 := add_s (a := "the " ++ gS c ++ " of (") (b := Txt.join "; " (ds.map (tx n))) (by rw [Str.length_append, Str.length_append, l_the, l_of]; omega)
      have ad2 := add_s (a := "the " ++ gS c ++ " of (" ++ Txt.join "; " (ds.map (tx n))) (b := ")") (by rw [Str.length_append, Str.length_append, Str.length_append, l_the, l_of, l_cl]; omega)
      have hi : oIx (dD (.group c ds)) (.int 0) = some (.str (gS c)) := head_ix (.group c ds)
      have q1 := @q_gf c
      have q2 := @q_gv c
      have q3 := @q_gil c
      have q4 := @q_gs c
      show _ = R.ok (PyData.str ("the " ++ gS c ++ " of (" ++ Txt.join "; " (ds.map (tx n)) ++ ")")) _
      generalize Txt.join "; " (ds.map (tx n)) = J at *
      generalize (ds.map fun s => PyData.str (tx n s)) = K at *
      generalize dD (.group c ds) = X at *
      generalize D_49 f = DD at *
      generalize gS c = G at *
      apply wp_eq
      rw [wp_run]
      unfold B_49
      simp -dsimp [hi, q1, q2, q3, q4, szn, c1, jn, ad01, ad02, ad1, ad2]
theorem u31 {n : Nat} (hn : n ≤ 5) {d : Duty} (h : GD n d) : D_31 [some (.val (dD d))] = .ok (.str (tx n d)) [some (.val (dD d))] := by
  have e1 := s20 hn h
  have e2 := u30 12 n d h (by omega) hn
  have s8 := s8
  generalize dD d = X at *
  apply wp_eq
  unfold D_31
  rw [wp_run]
  unfold B_31
  simp -dsimp [e1, s8, e2]
end Wlaw_k02
end NL
end L2
namespace L2
namespace NL
open PySem PySem.Spec PyProof.Rows
namespace Wlaw_k02
/-! where duties cross -/
def at_ (g : Gd) (x : Nat) : Gd := ⟨x, g.p, g.w⟩
theorem GG.at {g : Gd} (h : GG g) {x : Nat} (hx : x ≤ 2 * 10 ^ 9) : GG (at_ g x) := ⟨hx, h.p, h.w⟩
theorem kdW {g : Gd} {n c W : Nat} {d : Duty} (h : GD n d) (hW : W = c * whole n d) : kd W g n d * Mm = due g n d * W := by
  have e1 := kd_scale (c := c) (W := whole n d) (g := g) h whole_all
  obtain ⟨_, e2⟩ := due_eq (g := g) h
  rw [hW, e1, Nat.mul_assoc, e2, Nat.mul_left_comm]
theorem lt_cross {g : Gd} {n : Nat} {p o : Duty} (hp : GD n p) (ho : GD n o) : decide (kd (whole n p * whole n o) g n o < kd (whole n p * whole n o) g n p) = decide (due g n o < due g n p) := by
  have e1 := kdW (g := g) (c := whole n p) (W := whole n p * whole n o) ho rfl
  have e2 := kdW (g := g) (c := whole n o) (W := whole n p * whole n o) hp (Nat.mul_comm _ _)
  have hM := Mm_pos
  have hW : 0 < whole n p * whole n o := Nat.mul_pos (whole_pos hp) (whole_pos ho)
  generalize whole n p * whole n o = W at *
  generalize kd W g n o = a at *
  generalize kd W g n p = b at *
  generalize due g n o = x at *
  generalize due g n p = y at *
  rw [Bool.eq_iff_iff, decide_eq_true_iff, decide_eq_true_iff]
  constructor
  · intro h
    have := Nat.mul_lt_mul_of_pos_right h hM
    rw [e1, e2] at this
    exact Nat.lt_of_mul_lt_mul_right this
  · intro h
    have := Nat.mul_lt_mul_of_pos_right h hW
    rw [← e1, ← e2] at this
    exact Nat.lt_of_mul_lt_mul_right this
abbrev crB : NStm := sSeq (sAsg (nTup (aCons (.e (nV 4)) (aStar (.e (nSl (.o 2) (pSome (nC (.int 1))) (pNone))) (aNil)))) (gN 5))
  (sIf (asB (nOp2 oLt (.e (nCall (D_25 12) (aCons (.o 1) (aCons (.o 5) (aCons (.o 3) (aNil)))))) (.e (nCall (D_25 12) (aCons (.o 0) (aCons (.o 5) (aCons (.o 3) (aNil)))))))) (sRet (nV 4)) (sNil))
/-- what crosses first -/
def Cr (pr ot : Nat → Nat) (v : PyData) : Prop := (∃ k, k ≤ 10000 ∧ v = nI k ∧ ot k < pr k ∧ ∀ u, u < k → pr u ≤ ot u) ∨ (v = .none ∧ ∀ u, u ≤ 10000 → pr u ≤ ot u)
theorem crB_spec {g : Gd} (hg : GG g) {n : Nat} (hn : n ≤ 5) {p o : Duty} (hp : GD n p) (ho : GD n o) {k : Nat} (hk : k ≤ 10000) {x5 : Option Sl} (v5 : Vl x5) {Nx : NSt → Prop} {Rt : PyData → NSt → Prop} {Bk Ct : NSt → Prop}
    (h1 : due (at_ g k) n o < due (at_ g k) n p → ∀ y5, Rt (nI k) [some (.val (dD p)), some (.val (dD o)), some (.val (dG g)), some (.val (nI (whole n p * whole n o))), some (.val (nI k)), y5])
    (h2 : due (at_ g k) n p ≤ due (at_ g k) n o → ∀ y5, Vl y5 → Nx [some (.val (dD p)), some (.val (dD o)), some (.val (dG g)), some (.val (nI (whole n p * whole n o))), some (.val (nI k)), y5]) :
    WpS (crB [some (.val (dD p)), some (.val (dD o)), some (.val (dG g)), some (.val (nI (whole n p * whole n o))), some (.val (nI k)), x5]) Nx Rt Bk Ct := by
  have sz := sizeBig
  have z3 : 3 ≤ sizeLine := by omega
  have hW : whole n p * whole n o ≤ 10 ^ 26 := Nat.le_trans (Nat.mul_le_mul (whole_le hp) (whole_le ho)) (by decide +kernel)
  have e1 := s26' (hg.at (x := k) (by omega)) hn hp hW
  have e2 := s26' (hg.at (x := k) (by omega)) hn ho hW
  have hlt := lt_cross (g := at_ g k) hp ho
  have eG : dG g = .tuple [nI g.v, nI g.p, nI g.w] := rfl
  have eA : dG (at_ g k) = .tuple [nI k, nI g.p, nI g.w] := rfl
  have hc : cutP [nI g.v, nI g.p, nI g.w] (some 1) none = [nI g.p, nI g.w] := rfl
  have hsq : seqA (some (PyData.tuple [nI g.p, nI g.w])) = some [nI g.p, nI g.w] := rfl
  have e5 : ∀ b : PyData, gN 5 b [some (.val (dD p)), some (.val (dD o)), some (.val (dG g)), some (.val (nI (whole n p * whole n o))), some (.val (nI k)), x5] = some [some (.val (dD p)), some (.val (dD o)), some (.val (dG g)), some (.val (nI (whole n p * whole n o))), some (.val (nI k)), some (.val b)] := fun b => gN_vl (x := x5) rfl v5
  have t1 : decide (due (at_ g k) n o < due (at_ g k) n p) = true → due (at_ g k) n o < due (at_ g k) n p := of_decide_eq_true
  have t2 : decide (due (at_ g k) n o < due (at_ g k) n p) = false → due (at_ g k) n p ≤ due (at_ g k) n o := fun h => by have := of_decide_eq_false h; omega
  rw [eA] at e1 e2
  rw [eG] at e5 h1 h2 ⊢
  have olt : oLt (nI (kd (whole n p * whole n o) (at_ g k) n o)) (nI (kd (whole n p * whole n o) (at_ g k) n p)) = some (.bool (decide (kd (whole n p * whole n o) (at_ g k) n o < kd (whole n p * whole n o) (at_ g k) n p))) := by
    unfold nI
    simp -dsimp
  rw [hlt] at olt
  generalize decide (due (at_ g k) n o < due (at_ g k) n p) = c at *
  generalize nI (kd (whole n p * whole n o) (at_ g k) n o) = A at *
  generalize nI (kd (whole n p * whole n o) (at_ g k) n p) = B at *
  generalize nI (whole n p * whole n o) = W at *
  generalize dD p = P at *
  generalize dD o = O at *
  generalize nI k = K at *
  generalize nI g.v = gv at *
  generalize nI g.p = gp at *
  generalize nI g.w = gw at *
  cases c with
  | true =>
    simp -dsimp [hc, hsq, z3, e5, e1, e2, olt, -gN_eq]
    exact h1 (t1 rfl) _
  | false =>
    simp -dsimp [hc, hsq, z3, e5, e1, e2, olt, -gN_eq]
    exact h2 (t2 rfl) _ Vl.val
end Wlaw_k02
end NL
end L2
namespace L2
namespace NL
open PySem PySem.Spec PyProof.Rows
namespace Wlaw_k02
theorem rg_from {k n : Nat} : (List.range' k (n + 1)).map nI = nI k :: (List.range' (k + 1) n).map nI := by
  rw [List.range'_succ]
  rfl
theorem crLoop {g : Gd} (hg : GG g) {n : Nat} (hn : n ≤ 5) {p o : Duty} (hp : GD n p) (ho : GD n o) {Nx : NSt → Prop} {Rt : PyData → NSt → Prop} {Bk Ct : NSt → Prop}
    (h1 : ∀ k y, k ≤ 10000 → due (at_ g k) n o < due (at_ g k) n p → (∀ u, u < k → due (at_ g u) n p ≤ due (at_ g u) n o) → Rt (nI k) [some (.val (dD p)), some (.val (dD o)), some (.val (dG g)), some (.val (nI (whole n p * whole n o))), some (.val (nI k)), y])
    (h2 : (∀ u, u ≤ 10000 → due (at_ g u) n p ≤ due (at_ g u) n o) → ∀ y4 y5, Nx [some (.val (dD p)), some (.val (dD o)), some (.val (dG g)), some (.val (nI (whole n p * whole n o))), y4, y5]) :
    WpS (sForL (gN 4) crB (rgD 0 ((10001 : Nat) : Int)) [some (.val (dD p)), some (.val (dD o)), some (.val (dG g)), some (.val (nI (whole n p * whole n o))), none, none]) Nx Rt Bk Ct := by
  rw [rg_range]
  refine wps_forL (fun rem m => ∃ (k : Nat) (y4 y5 : Option Sl), rem = (List.range' k (10001 - k)).map nI ∧ k ≤ 10001 ∧ m = [some (.val (dD p)), some (.val (dD o)), some (.val (dG g)), some (.val (nI (whole n p * whole n o))), y4, y5] ∧ Vl y4 ∧ Vl y5 ∧ ∀ u, u < k → due (at_ g u) n p ≤ due (at_ g u) n o) ?_ ?_ _ _ ⟨0, none, none, rfl, by omega, rfl, Vl.none, Vl.none, fun u h => by omega⟩
  · rintro d rem m ⟨k, y4, y5, hr, hk, rfl, w4, w5, hu⟩
    have hk' : k ≤ 10000 := by
      rcases Nat.lt_or_ge k 10001 with h | h
      · omega
      · rw [show 10001 - k = 0 by omega] at hr
        cases hr
    rw [show 10001 - k = (10000 - k) + 1 by omega, rg_from] at hr
    cases hr
    refine ⟨_, gN_vl (x := y4) rfl w4, ?_⟩
    refine crB_spec hg hn hp ho hk' w5 (fun hlt y => h1 k y hk' hlt hu) (fun hle z5 u5 => ⟨k + 1, _, z5, by rw [show 10001 - (k + 1) = 10000 - k by omega], by omega, rfl, Vl.val, u5, fun u hu' => ?_⟩)
    rcases Nat.lt_or_ge u k with h | h
    · exact hu u h
    · rw [show u = k by omega]
      exact hle
  · rintro m ⟨k, y4, y5, hr, hk, rfl, w4, w5, hu⟩
    have hk' : k = 10001 := by
      rcases Nat.lt_or_ge k 10001 with h | h
      · rw [show 10001 - k = (10000 - k) + 1 by omega, rg_from] at hr
        cases hr
      · omega
    subst hk'
    exact h2 (fun u h => hu u (by omega)) _ _
theorem u32 {g : Gd} (hg : GG g) {n : Nat} (hn : n ≤ 5) {p o : Duty} (hp : GD n p) (ho : GD n o) :
    ∃ v, Cr (fun u => due (at_ g u) n p) (fun u => due (at_ g u) n o) v ∧ D_32 [some (.val (dD p)), some (.val (dD o)), some (.val (dG g))] = .ok v [some (.val (dD p)), some (.val (dD o)), some (.val (dG g))] := by
  have sz := sizeBig
  have e20 := s20 hn hp
  have e22 := s22 hn ho g
  have e24 := s24 hn hp
  have e24o := s24 hn ho
  have s8 := s8
  have c89 : 10 ^ 13 ≤ 10 ^ 89 := by decide +kernel
  have m1 : oMul (nI (whole n p)) (nI (whole n o)) = some (nI (whole n p * whole n o)) := mulN (lt_big (Nat.le_trans (whole_le hp) c89)) (lt_big (Nat.le_trans (whole_le ho) c89))
  have lp := fun {Nx : NSt → Prop} {Rt : PyData → NSt → Prop} {Bk Ct : NSt → Prop} => @crLoop g hg n hn p o hp ho Nx Rt Bk Ct
  have key : Wp (D_32 [some (.val (dD p)), some (.val (dD o)), some (.val (dG g))]) fun v n' => Cr (fun u => due (at_ g u) n p) (fun u => due (at_ g u) n o) v ∧ n' = [some (.val (dD p)), some (.val (dD o)), some (.val (dG g))] := by
    unfold D_32
    rw [wp_run]
    have hB : B_32 = sSeq _ (sSeq _ (sSeq _ (sSeq (sFor _ _ crB) _))) := rfl
    rw [hB]
    generalize crB = CB at *
    generalize dG g = G at *
    generalize dD p = P at *
    generalize dD o = O at *
    have ro : rgOk 10001 = true := by decide
    simp -dsimp [e20, e22, s8, e24, e24o, m1, ro]
    refine lp (fun k y hk hlt hu => ?_) (fun hu y4 y5 => ?_)
    · exact ⟨.inl ⟨k, hk, rfl, hlt, hu⟩, rfl⟩
    · simp -dsimp
      exact .inr ⟨rfl, hu⟩
  obtain ⟨v, n', e, h, rfl⟩ := wp_get key
  exact ⟨v, h, e⟩
end Wlaw_k02
end NL
end L2
namespace L2
namespace NL
open PySem PySem.Spec PyProof.Rows
namespace Wlaw_k02
def gs2 : List NExp := [D_29, D_31]
section
variable {i : Int} {g : NExp} {a b c d : PyData}
theorem t_lt2 (h : i < 2) : asB (nOp2 oLt (.o 0) (.e (nC (.int 2)))) (s5 i a b c) = .ok true (s5 i a b c) := by
  have e : decide (i < 2) = true := decide_eq_true h
  apply wp_eq
  simp -dsimp [e]
theorem told_ok (h2 : 0 ≤ i) (h5 : i < 2) (h3 : gs2[i.toNat]? = some g) (h : g (a1 a) = .ok d (a1 a)) : D_50 (a4 i a b c) = .ok d (a4 i a b c) :=
  run_ret (m := s5 i a b c) (try_ret (seq_ret ((if_t (t_lt2 h5)).trans (ret_ok (pick_ok (i := i) rfl h2 h3 (call_ok (as := [.v a]) rfl List.nodup_nil rfl h rfl))))))
theorem told_nr (h2 : 0 ≤ i) (h5 : i < 2) (h3 : gs2[i.toNat]? = some g) (h : g (a1 a) = .err nr (a1 a)) : D_50 (a4 i a b c) = .ok flg (a4 i a b c) :=
  run_ret (m := s5 i a b c) (try_err (seq_err ((if_t (t_lt2 h5)).trans (ret_err (pick_err (i := i) rfl h2 h3 (call_err (as := [.v a]) rfl List.nodup_nil rfl h rfl))))) (Nat.lt_succ_self 4))
theorem told2_ok (h : D_32 (a3 a b c) = .ok d (a3 a b c)) : D_50 (a4 2 a b c) = .ok d (a4 2 a b c) :=
  run_ret (m := s5 2 a b c) (try_ret ((seq_nx (if_f rfl)).trans (ret_ok (call_ok (as := [.v a, .v b, .v c]) rfl List.nodup_nil rfl h rfl))))
theorem told2_nr (h : D_32 (a3 a b c) = .err nr (a3 a b c)) : D_50 (a4 2 a b c) = .ok flg (a4 2 a b c) :=
  run_ret (m := s5 2 a b c) (try_err ((seq_nx (if_f rfl)).trans (ret_err (call_err (as := [.v a, .v b, .v c]) rfl List.nodup_nil rfl h rfl))) (Nat.lt_succ_self 4))
end
theorem rg_nat {a b : Nat} : rgD (a : Int) (b : Int) = (List.range' a (b - a)).map nI := by
  unfold rgD nI
  have e : ((b : Int) - (a : Int)).toNat = b - a := by omega
  rw [e, List.range'_eq_map_range, List.map_map]
  refine List.map_congr_left fun k _ => ?_
  show PyData.int _ = PyData.int _
  congr 1
theorem fitsL {x : Int} (h0 : 0 ≤ x) (h1 : x < 2 ^ 62) : Builtin.Range.rangeFitsLong x = true := by
  unfold Builtin.Range.rangeFitsLong
  rw [Bool.and_eq_true]
  exact ⟨decide_eq_true (by omega), decide_eq_true (by omega)⟩
theorem rg3_nat {N : Nat} (hN : N ≤ 10001) : rg3Ok 120 (N : Int) 97 = true ∧ ∃ xs : List Nat, rgD3 120 (N : Int) 97 = xs.map nI ∧ xs.length ≤ 110 ∧ ∀ x ∈ xs, x < N := by
  have key : Builtin.Range.rangeSize 120 (N : Int) 97 = if (120 : Int) < N then ((N : Int) - 120 - 1) / 97 + 1 else 0 := by
    unfold Builtin.Range.rangeSize
    rw [if_pos (by decide)]
  have h0 : 0 ≤ Builtin.Range.rangeSize 120 (N : Int) 97 ∧ Builtin.Range.rangeSize 120 (N : Int) 97 ≤ 110 := by
    rw [key]
    split
    · omega
    · omega
  refine ⟨?_, (List.range (Builtin.Range.rangeSize 120 (N : Int) 97).toNat).map (fun k => 120 + k * 97), ?_, ?_, fun x hx => ?_⟩
  · unfold rg3Ok
    rw [decide_eq_true h0.1]
    have hs : Builtin.Range.small 120 (N : Int) 97 = true := by
      unfold Builtin.Range.small
      rw [fitsL (x := 120) (by omega) (by omega), fitsL (x := (N : Int)) (by omega) (by omega), fitsL (x := 97) (by omega) (by omega), fitsL h0.1 (by omega), if_pos (by decide), fitsL (x := (N : Int) + (97 - 1)) (by omega) (by omega)]
      simp
    rw [hs]
    rfl
  · unfold rgD3
    rw [List.map_map]
    refine List.map_congr_left fun k _ => ?_
    show PyData.int _ = PyData.int _
    congr 1
  · rw [List.length_map, List.length_range]
    omega
  · obtain ⟨k, hk, rfl⟩ := List.mem_map.mp hx
    rw [List.mem_range, key] at hk
    omega
end Wlaw_k02
end NL
end L2
namespace L2
namespace NL
open PySem PySem.Spec PyProof.Rows
namespace Wlaw_k02
theorem s51c {g : Gd} (hg : GG g) {n : Nat} (hn : n ≤ 5) {d : Duty} (h : GD n d) : D_46 12 [some (.val (dD d)), some (.val (dG g))] = .ok (dF (due g n d)) [some (.val (dD d)), some (.val (dG g))] := s51 hg 12 n d h (by omega) hn
theorem goodsAdd {g : Gd} {x : Nat} : oAdd (.tuple [nI x]) (.tuple [nI g.p, nI g.w]) = some (dG (at_ g x)) := by
  rw [oAdd_tup (by simp)]
  rfl
theorem oEqNil0 : oEq (.list []) (.list []) = some (.bool true) := by kernel_rfl
theorem addL {xs ys : List Nat} (h : xs.length + ys.length ≤ 1000) : oAdd (.list (xs.map nI)) (.list (ys.map nI)) = some (.list ((xs ++ ys).map nI)) := by
  rw [oAdd_ls (by rw [List.length_map, List.length_map]; exact h), List.map_append]
theorem lookP {g : Gd} (hg : GG g) {n : Nat} (hn : n ≤ 5) {p o : Duty} (hp : GD n p) (ho : GD n o) {N : Nat} (hN : N ≤ 10001) (hle : ∀ u, u < N → due (at_ g u) n p ≤ due (at_ g u) n o) {xs : List Nat} (hx : ∀ x ∈ xs, x < N) (hl : xs.length ≤ 1000) {x3 x4 : Option Sl} :
    nLc (iV (nV 5)) (gN 6) (tNot' (asT (.e (nCall D_43 (aCons (.e (nCall (D_46 12) (aCons (.o 0) (aCons (.e (nOp2 oAdd (.e (nTup (aCons (.e (nV 6)) (aNil)))) (.e (nSl (.o 2) (pSome (nC (.int 1))) (pNone))))) (aNil))))) (aCons (.e (nCall (D_46 12) (aCons (.o 1) (aCons (.e (nOp2 oAdd (.e (nTup (aCons (.e (nV 6)) (aNil)))) (.e (nSl (.o 2) (pSome (nC (.int 1))) (pNone))))) (aNil))))) (aNil))))))) (nV 6) [6] [some (.val (dD p)), some (.val (dD o)), some (.val (dG g)), x3, x4, some (.val (.list (xs.map nI))), none] = .ok [] [some (.val (dD p)), some (.val (dD o)), some (.val (dG g)), x3, x4, some (.val (.list (xs.map nI))), none] := by
  have sz := sizeBig
  have z1 : 1 ≤ sizeLine := by omega
  have c := lc_mapF (fi := iV (nV 5)) (g := gN 6) (t := tNot' (asT (.e (nCall D_43 (aCons (.e (nCall (D_46 12) (aCons (.o 0) (aCons (.e (nOp2 oAdd (.e (nTup (aCons (.e (nV 6)) (aNil)))) (.e (nSl (.o 2) (pSome (nC (.int 1))) (pNone))))) (aNil))))) (aCons (.e (nCall (D_46 12) (aCons (.o 1) (aCons (.e (nOp2 oAdd (.e (nTup (aCons (.e (nV 6)) (aNil)))) (.e (nSl (.o 2) (pSome (nC (.int 1))) (pNone))))) (aNil))))) (aNil))))))) (f := nV 6) (vs := [6]) (n := [some (.val (dD p)), some (.val (dD o)), some (.val (dG g)), x3, x4, some (.val (.list (xs.map nI))), none]) (xs := xs) nI nI (fun _ => false) rfl rfl (fun x hxm => by
    have hxN := hx x hxm
    have e1 := s51c (hg.at (x := x) (by omega)) hn hp
    have e2 := s51c (hg.at (x := x) (by omega)) hn ho
    have le := s48 (k := due (at_ g x) n p) (j := due (at_ g x) n o) (Nat.le_trans (due_le (hg.at (by omega)) hn hp) (by decide +kernel)) (Nat.le_trans (due_le (hg.at (by omega)) hn ho) (by decide +kernel))
    rw [decide_eq_true (hle x hxN)] at le
    have ga := goodsAdd (g := g) (x := x)
    have eG : dG g = .tuple [nI g.v, nI g.p, nI g.w] := rfl
    have gc : cutP [nI g.v, nI g.p, nI g.w] (some 1) none = [nI g.p, nI g.w] := rfl
    rw [eG]
    generalize xs.map nI = XS at *
    refine ⟨_, rfl, ?_, fun h => (by cases h), rfl⟩
    generalize dD p = P at *
    generalize dD o = O at *
    generalize dG (at_ g x) = A at *
    generalize dF (due (at_ g x) n p) = F1' at *
    generalize dF (due (at_ g x) n o) = F2' at *
    generalize nI x = X at *
    generalize nI g.v = gv at *
    generalize nI g.p = gp at *
    generalize nI g.w = gw at *
    apply wp_eq
    simp -dsimp [gc, ga, z1, e1, e2, le]) hl rfl
  rw [c]
  congr 1
  rw [List.filter_eq_nil_iff.mpr fun _ _ => by simp]
  rfl
end Wlaw_k02
end NL
end L2
namespace L2
namespace NL
open PySem PySem.Spec PyProof.Rows
namespace Wlaw_k02
theorem rgOk_le' {j : Int} (h0 : 0 ≤ j) (h1 : j ≤ 10001) : rgOk j = true := by
  unfold rgOk
  rw [Bool.and_eq_true]
  exact ⟨decide_eq_true (by omega), decide_eq_true (by omega)⟩
def endB : NStm := sSeq (sAsg (nOp2 oAdd (.e (nOp2 oAdd (.e (nL (nLstRg (nCB bMin (aCons (.o 4) (aCons (.e (nC (.int 120))) (aNil))))))) (.e (nL (nLc (iRg3 (aCons (.e (nC (.int 120))) (aCons (.o 4) (aCons (.e (nC (.int 97))) (aNil))))) (gN 6) (tYesN) (nV 6) [6]))))) (.e (nL (nLc (iRg2 (aCons (.e (nCB bMax (aCons (.e (nC (.int 0))) (aCons (.e (nOp2 oSub (.o 4) (.e (nC (.int 5))))) (aNil))))) (aCons (.o 4) (aNil)))) (gN 6) (tYesN) (nV 6) [6])))) (gN 5))
  (sRet (nOp2 oEq (.e (nL (nLc (iV (nV 5)) (gN 6) (tNot' (asT (.e (nCall D_43 (aCons (.e (nCall (D_46 12) (aCons (.o 0) (aCons (.e (nOp2 oAdd (.e (nTup (aCons (.e (nV 6)) (aNil)))) (.e (nSl (.o 2) (pSome (nC (.int 1))) (pNone))))) (aNil))))) (aCons (.e (nCall (D_46 12) (aCons (.o 1) (aCons (.e (nOp2 oAdd (.e (nTup (aCons (.e (nV 6)) (aNil)))) (.e (nSl (.o 2) (pSome (nC (.int 1))) (pNone))))) (aNil))))) (aNil))))))) (nV 6) [6]))) (.e (nL (nLstO (aNil))))))
theorem endB_spec {g : Gd} (hg : GG g) {n : Nat} (hn : n ≤ 5) {p o : Duty} (hp : GD n p) (ho : GD n o) {N : Nat} (hN : N ≤ 10001) (hle : ∀ u, u < N → due (at_ g u) n p ≤ due (at_ g u) n o) {x3 : Option Sl} {Nx : NSt → Prop} {Rt : PyData → NSt → Prop} {Bk Ct : NSt → Prop}
    (hR : ∀ y5, Rt (.bool true) [some (.val (dD p)), some (.val (dD o)), some (.val (dG g)), x3, some (.val (nI N)), y5, none]) :
    WpS (endB [some (.val (dD p)), some (.val (dD o)), some (.val (dG g)), x3, some (.val (nI N)), none, none]) Nx Rt Bk Ct := by
  have sz := sizeBig
  obtain ⟨h3, xs3, e3, l3, m3⟩ := rg3_nat hN
  have hr1 : rgD 0 ((min N 120 : Nat) : Int) = (List.range' 0 (min N 120)).map nI := rg_range
  have hr2 : rgD ((N - 5 : Nat) : Int) (N : Int) = (List.range' (N - 5) (N - (N - 5))).map nI := rg_nat
  have c3 := lc_map (fi := iRg3 (aCons (.e (nC (.int 120))) (aCons (.o 4) (aCons (.e (nC (.int 97))) (aNil))))) (g := gN 6) (f := nV 6) (vs := [6]) (n := [some (.val (dD p)), some (.val (dD o)), some (.val (dG g)), x3, some (.val (nI N)), none, none]) (xs := xs3) nI nI (by
    rw [← e3]
    unfold nI
    apply wp_eq
    simp -dsimp [h3]) rfl (fun x hx => ⟨_, rfl, rfl, rfl⟩) (by omega) rfl
  have rk : rgOk ((N - 5 : Nat) : Int) = true ∧ rgOk (N : Int) = true := ⟨rgOk_le (by omega) (by omega), rgOk_le' (by omega) (by omega)⟩
  have hm : max (0 : Int) ((N : Int) - 5) = ((N - 5 : Nat) : Int) := by omega
  have c2 := lc_map (fi := iRg2 (aCons (.e (nCB bMax (aCons (.e (nC (.int 0))) (aCons (.e (nOp2 oSub (.o 4) (.e (nC (.int 5))))) (aNil))))) (aCons (.o 4) (aNil)))) (g := gN 6) (f := nV 6) (vs := [6]) (n := [some (.val (dD p)), some (.val (dD o)), some (.val (dG g)), x3, some (.val (nI N)), none, none]) (xs := List.range' (N - 5) (N - (N - 5))) nI nI (by
    rw [← hr2]
    unfold nI
    apply wp_eq
    simp -dsimp [hm, rk.1, rk.2]) rfl (fun x hx => ⟨_, rfl, rfl, rfl⟩) (by rw [List.length_range']; omega) rfl
  have hmin : min (N : Int) 120 = ((min N 120 : Nat) : Int) := by omega
  have lall : (List.range' 0 (min N 120)).length + xs3.length ≤ 1000 := by rw [List.length_range']; omega
  have a1 := addL lall
  have lall2 : (List.range' 0 (min N 120) ++ xs3).length + (List.range' (N - 5) (N - (N - 5))).length ≤ 1000 := by rw [List.length_append, List.length_range', List.length_range']; omega
  have a2 := addL lall2
  have look := fun {x4 : Option Sl} => lookP hg hn hp ho hN hle (xs := List.range' 0 (min N 120) ++ xs3 ++ List.range' (N - 5) (N - (N - 5))) (fun x hx => by
    rcases List.mem_append.mp hx with hx | hx
    · rcases List.mem_append.mp hx with hx | hx
      · have := List.mem_range'_1.mp hx; omega
      · exact m3 x hx
    · have := List.mem_range'_1.mp hx; omega) (by rw [List.length_append]; exact lall2) (x3 := x3) (x4 := x4)
  have ob : (0 : Int) ≤ ((min N 120 : Nat) : Int) ∧ ((min N 120 : Nat) : Int) ≤ 100000 := by omega
  have bm : bMin [nI N, .int 120] = some (.int ((min N 120 : Nat) : Int)) := by
    unfold nI
    rw [bMin_two, hmin]
  generalize (List.range' 0 (min N 120) ++ xs3 ++ List.range' (N - 5) (N - (N - 5))).map nI = L at *
  generalize (List.range' 0 (min N 120) ++ xs3).map nI = L12 at *
  generalize (List.range' 0 (min N 120)).map nI = L1 at *
  generalize (List.range' (N - 5) (N - (N - 5))).map nI = L3 at *
  generalize xs3.map nI = L2 at *
  generalize ((min N 120 : Nat) : Int) = mn at *
  have en := oEqNil0
  unfold endB
  generalize nLc (iV (nV 5)) (gN 6) _ (nV 6) [6] = LK at *
  generalize dD p = P at *
  generalize dD o = O at *
  generalize dG g = G at *
  simp -dsimp [bm, ob, hr1, c3, c2, a1, a2, look, en, szn, -oAdd_list]
  exact hR _
end Wlaw_k02
end NL
end L2
namespace L2
namespace NL
open PySem PySem.Spec PyProof.Rows
namespace Wlaw_k02
theorem u51 {g : Gd} (hg : GG g) {n : Nat} (hn : n ≤ 5) {p o : Duty} (hp : GD n p) (ho : GD n o) : D_51 [some (.val (dD p)), some (.val (dD o)), some (.val (dG g))] = .ok (.bool true) [some (.val (dD p)), some (.val (dD o)), some (.val (dG g))] := by
  have sz := sizeBig
  have z1 : 1 ≤ sizeLine := by omega
  obtain ⟨v, hv, e32⟩ := u32 hg hn hp ho
  have t := told2_ok e32
  have hB : B_51 = sSeq _ (sSeq _ (sSeq _ (sSeq _ endB))) := rfl
  have en := fun {N : Nat} (hN : N ≤ 10001) (hle : ∀ u, u < N → due (at_ g u) n p ≤ due (at_ g u) n o) {x3 : Option Sl} {Nx : NSt → Prop} {Rt : PyData → NSt → Prop} {Bk Ct : NSt → Prop} => endB_spec hg hn hp ho hN hle (x3 := x3) (Nx := Nx) (Rt := Rt) (Bk := Bk) (Ct := Ct)
  generalize endB = EB at *
  apply wp_eq
  unfold D_51
  rw [wp_run, hB]
  clear hB
  rcases hv with ⟨k, hk, rfl, hlt, hu⟩ | ⟨rfl, hu⟩
  · have s1 := s51c (hg.at (x := k) (by omega)) hn hp
    have s2 := s51c (hg.at (x := k) (by omega)) hn ho
    have le := s48 (k := due (at_ g k) n p) (j := due (at_ g k) n o) (Nat.le_trans (due_le (hg.at (by omega)) hn hp) (by decide +kernel)) (Nat.le_trans (due_le (hg.at (by omega)) hn ho) (by decide +kernel))
    have hlt : due (at_ g k) n o < due (at_ g k) n p := hlt
    rw [decide_eq_false (by omega)] at le
    have en := @en k (by omega) hu
    have eG : dG g = .tuple [nI g.v, nI g.p, nI g.w] := rfl
    have gc : cutP [nI g.v, nI g.p, nI g.w] (some 1) none = [nI g.p, nI g.w] := rfl
    have ga := goodsAdd (g := g) (x := k)
    have i1 : isTy "int" (nI k) = true := rfl
    have i2 : isTy "bool" (nI k) = false := rfl
    have i3 : oIsNot (nI k) .none = some (.bool true) := rfl
    have i4 : oLe (.int 0) (nI k) = some (.bool true) := by
      unfold nI
      simp -dsimp
    have i5 : oLe (nI k) (.int 10000) = some (.bool true) := by
      unfold nI
      simp -dsimp
      omega
    rw [eG] at t en ⊢
    generalize dD p = P at *
    generalize dD o = O at *
    generalize dG (at_ g k) = A at *
    generalize dF (due (at_ g k) n p) = F1' at *
    generalize dF (due (at_ g k) n o) = F2' at *
    generalize nI k = K at *
    generalize nI g.v = gv at *
    generalize nI g.p = gp at *
    generalize nI g.w = gw at *
    simp -dsimp [t, i1, i2, i3, i4, i5, gc, ga, z1, s1, s2, le]
    exact en fun y5 => ⟨rfl, rfl⟩
  · have en := @en 10001 (by omega) (fun u h => hu u (by omega))
    have hN : nI 10001 = .int 10001 := rfl
    rw [hN] at en
    have i3 : oIsNot .none .none = some (.bool false) := rfl
    generalize dD p = P at *
    generalize dD o = O at *
    generalize dG g = G at *
    simp -dsimp [t, i3]
    exact en fun y5 => ⟨rfl, rfl⟩
end Wlaw_k02
end NL
end L2
namespace L2
namespace NL
open PySem PySem.Spec PyProof.Rows
theorem wps_whileS {t : NSt → R Bool} {body : NStm} {k : Nat} {n : NSt} {Nx : NSt → Prop} {Rt : PyData → NSt → Prop} {Bk Ct : NSt → Prop} :
    WpS (sWhile (k + 1) t body n) Nx Rt Bk Ct = Wp (t n) fun b n1 => Br b (WpS (body n1) (fun n2 => WpS (sWhile k t body n2) Nx Rt Bk Ct) Rt Nx (fun n2 => WpS (sWhile k t body n2) Nx Rt Bk Ct)) (Nx n1) := by
  show WpS ((t n).st fun b n1 => if b = true then (match body n1 with
      | .nx n2 => sWhile k t body n2
      | .ct n2 => sWhile k t body n2
      | .brk n2 => .nx n2
      | r => r) else .nx n1) Nx Rt Bk Ct = _
  rw [wps_st]
  refine wp_ext fun b n1 => ?_
  cases b with
  | true =>
    rw [Br_true, if_pos rfl]
    cases body n1 <;> simp -dsimp only [wps_C, WpSC]
  | false =>
    rw [Br_false, if_neg (by simp)]
    exact wps_nx
namespace Wlaw_k02
theorem badS18 {d : Duty} (h : GD 5 d) : D_18 [some (.val (.tuple [.str "sum", .tuple [dD d, .int 1]]))] = .ok (.list [dD d, .int 1]) [some (.val (.tuple [.str "sum", .tuple [dD d, .int 1]]))] := by
  have sz := sizeBig
  have z1 : 1 ≤ sizeLine := by omega
  have z2 : 2 ≤ sizeLine := by omega
  have sh : Shp 20 (.tuple [.str "sum", .tuple [dD d, .int 1]]) := shp_tup (by omega) fun x hx => by
    simp only [List.mem_cons, List.not_mem_nil, or_false] at hx
    rcases hx with rfl | rfl
    · exact shp_str (by omega) (by decide +kernel)
    · refine shp_tup (by omega) fun y hy => ?_
      simp only [List.mem_cons, List.not_mem_nil, or_false] at hy
      rcases hy with rfl | rfl
      · have := shp_dD h
        exact ⟨this.1, Nat.le_trans this.2 (by omega)⟩
      · exact shp_int (by omega)
  have q := eqFree (x := .none) sh (by omega) ne2
  generalize dD d = X at *
  have ty : isTy "tuple" (.tuple [PyData.str "sum", .tuple [X, .int 1]]) = true := rfl
  have ty2 : isTy "tuple" (.tuple [X, .int 1]) = true := rfl
  have hb : bLen [.tuple [X, .int 1]] = some (.int 2) := rfl
  have hsq : seqA (some (PyData.tuple [X, .int 1])) = some [X, .int 1] := rfl
  have qv : oEq (.str "sum") (.str "value") = some (.bool false) := by kernel_rfl
  have qs : oEq (.str "sum") (.str "steps") = some (.bool false) := by kernel_rfl
  have qi : oIn (.str "sum") PW = some (.bool false) := by kernel_rfl
  have qg : oIn (.str "sum") GT3 = some (.bool true) := by kernel_rfl
  apply wp_eq
  unfold D_18
  rw [wp_run]
  unfold B_18
  simp -dsimp [ty, ty2, q, atI_0, atI_1, z1, z2, hb, hsq, qv, qs, qi, qg]
theorem bad18 : D_18 [some (.val (.int 1))] = .ok .none [some (.val (.int 1))] := by kernel_rfl
theorem mExt {T K2 : List PyData} (h : T.length + K2.length ≤ sizeLine) : mExtend T (.list K2) = some (T ++ K2, .none) := by
  show (if T.length + K2.length ≤ sizeLine then _ else _) = _
  rw [if_pos h]
theorem badSum {d : Duty} (h : GD 5 d) : DBad (.tuple [.str "sum", .tuple [dD d, .int 1]]) := by
  have sz := sizeBig
  have z1 : 1 ≤ sizeLine := by omega
  have z2 : 2 ≤ sizeLine := by omega
  have e1 := badS18 h
  have e2 := bad18
  unfold DBad
  generalize dD d = X at *
  apply wp_eq
  unfold D_19
  rw [wp_run]
  unfold B_19
  simp -dsimp [z1, z2]
  rw [show (400 : Nat) = 398 + 1 + 1 from rfl, wps_whileS]
  have hx : mExtend [] (.list [.tuple [X, .int 2], .tuple [.int 1, .int 2]]) = some ([.tuple [X, .int 2], .tuple [.int 1, .int 2]], .none) := mExt (T := []) (K2 := [.tuple [X, .int 2], .tuple [.int 1, .int 2]]) (by show 0 + 2 ≤ sizeLine; omega)
  have c1 := lc_map (fi := iV (nV 4)) (g := gN 5) (f := nTup (aCons (.e (nV 5)) (aCons (.e (nOp2 oAdd (.o 3) (.e (nC (.int 1))))) (aNil)))) (vs := [5]) (n := [some (.val (.tuple [.str "sum", .tuple [X, .int 1]])), some (.own []), some (.val (.tuple [.str "sum", .tuple [X, .int 1]])), some (.val (.int 1)), some (.val (.list [X, .int 1])), none]) (xs := [X, .int 1]) (fun x => x) (fun x => .tuple [x, .int 2]) rfl rfl (fun x hx => by
    refine ⟨_, rfl, ?_, rfl⟩
    apply wp_eq
    simp -dsimp [z2]) (by simp) rfl
  have c1 : nLc _ _ _ _ _ _ = R.ok [.tuple [X, .int 2], .tuple [.int 1, .int 2]] _ := c1
  generalize hS : (PyData.tuple [.str "sum", .tuple [X, .int 1]]) = S at *
  simp -dsimp [e1, c1, hx]
  rw [wps_whileS]
  simp -dsimp [e2]
theorem badAll2 {d : Duty} (h : GD 5 d) : ∀ v ∈ [PyData.none, .tuple [.str "value", .int 2, .int 4], .tuple [.str "piece", .int (-1)], .tuple [.str "most", .tuple []], .list [.str "free"], .tuple [.str "sum", .tuple [dD d, .int 1]]], DBad v := by
  simp only [List.forall_mem_cons]
  refine ⟨?_, ?_, ?_, ?_, ?_, badSum h, fun _ h => by cases h⟩ <;> (unfold DBad; kernel_rfl)
theorem oddAll2 : ∀ v ∈ [PyData.none, .tuple [.int 0, .int 0], .tuple [.int (-1), .int 0, .int 0], .list [.int 0, .int 0, .int 0]], GBad v := by
  simp only [List.forall_mem_cons]
  refine ⟨?_, ?_, ?_, ?_, fun _ h => by cases h⟩ <;> (unfold GBad; kernel_rfl)
end Wlaw_k02
end NL
end L2
namespace L2
namespace NL
open PySem PySem.Spec PyProof.Rows
namespace Wlaw_k02
-- ZZ 14 0=S;;1=some (.own l);;2=some (.val flg)
/-! the law's text, cut -/
def lw1 : NStm := sOwn 1 (nCallO D_34 (aCons (.o 0) (aNil)))
def lw2 : NStm := sAsg (nL (nLstO (aCons (.e (nC (.bool true))) (aCons (.e (nC (.bool false))) (aCons (.e (nC (.bool false))) (aCons (.e (nC (.bool false))) (aCons (.e (nC (.bool false))) (aNil)))))))) (gN 2)
def lw3 : NStm := sPar 4 5 (evV (nCall (D_45 12) (aCons (.o 1) (aCons (.e (nOp2 oAdd (.e (nC (.int 1))) (.e (nCall D_35 (aCons (.o 1) (aCons (.e (nC (.int 5))) (aNil))))))) (aNil))))) (evV (nCall D_47 (aCons (.o 1) (aNil))))
def lw4 : NStm := sAsg (nCall (D_48 12) (aCons (.o 4) (aNil))) (gN 6)
def lw5 : NStm := sIf (tNot' (asT (.e (nCall (D_37 20) (aCons (.e (nL (nLstO (aCons (.e (nCall D_50 (aCons (.e (nC (.int 0))) (aCons (.o 4) (aCons (.e (nC (.int 0))) (aCons (.e (nC (.int 0))) (aNil))))))) (aCons (.e (nCall D_50 (aCons (.e (nC (.int 1))) (aCons (.o 4) (aCons (.e (nC (.int 0))) (aCons (.e (nC (.int 0))) (aNil))))))) (aCons (.e (nCall D_50 (aCons (.e (nC (.int 0))) (aCons (.o 6) (aCons (.e (nC (.int 0))) (aCons (.e (nC (.int 0))) (aNil))))))) (aCons (.e (nCall D_50 (aCons (.e (nC (.int 1))) (aCons (.o 6) (aCons (.e (nC (.int 0))) (aCons (.e (nC (.int 0))) (aNil))))))) (aNil)))))))) (aCons (.e (nL (nLstO (aCons (.e (nV 6)) (aCons (.e (nCall (D_49 12) (aCons (.o 4) (aNil)))) (aCons (.e (nV 6)) (aCons (.e (nCall (D_49 12) (aCons (.o 6) (aNil)))) (aNil)))))))) (aNil))))))) (sRet (nC (.bool false))) (sNil)
def lw6 : NStm := sDrop [6] (sIf (tNot' (asT (.e (nCall (D_37 20) (aCons (.e (nCall D_27 (aCons (.o 6) (aCons (.o 5) (aNil))))) (aCons (.e (nCall (D_46 12) (aCons (.o 4) (aCons (.o 5) (aNil))))) (aNil))))))) (sRet (nC (.bool false))) (sNil))
def lw7 : NStm := sAsg (nCall D_36 (aCons (.o 1) (aCons (.e (nL (nLstO (aCons (.e (nC .none)) (aCons (.e (nTup (aCons (.e (nC (.str "value"))) (aCons (.e (nC (.int 2))) (aCons (.e (nC (.int 4))) (aNil)))))) (aCons (.e (nTup (aCons (.e (nC (.str "piece"))) (aCons (.e (nNeg (nC (.int 1)))) (aNil))))) (aCons (.e (nTup (aCons (.e (nC (.str "most"))) (aCons (.e (nTup (aNil))) (aNil))))) (aCons (.e (nL (nLstO (aCons (.e (nC (.str "free"))) (aNil))))) (aCons (.e (nTup (aCons (.e (nC (.str "sum"))) (aCons (.e (nTup (aCons (.e (nV 4)) (aCons (.e (nC (.int 1))) (aNil))))) (aNil))))) (aNil)))))))))) (aNil)))) (gN 7)
def lw8 : NStm := sAsg (nCall D_36 (aCons (.o 1) (aCons (.e (nL (nLstO (aCons (.e (nC .none)) (aCons (.e (nTup (aCons (.e (nC (.int 0))) (aCons (.e (nC (.int 0))) (aNil))))) (aCons (.e (nTup (aCons (.e (nNeg (nC (.int 1)))) (aCons (.e (nC (.int 0))) (aCons (.e (nC (.int 0))) (aNil)))))) (aCons (.e (nL (nLstO (aCons (.e (nC (.int 0))) (aCons (.e (nC (.int 0))) (aCons (.e (nC (.int 0))) (aNil))))))) (aNil)))))))) (aNil)))) (gN 8)
def lw9 : NStm := sDrop [7, 4, 5, 8] (sAsg (nL (nLstO (aCons (.e (nCall D_50 (aCons (.e (nC (.int 0))) (aCons (.o 7) (aCons (.e (nC (.int 0))) (aCons (.e (nC (.int 0))) (aNil))))))) (aCons (.e (nCall D_50 (aCons (.e (nC (.int 1))) (aCons (.o 7) (aCons (.e (nC (.int 0))) (aCons (.e (nC (.int 0))) (aNil))))))) (aCons (.e (nCall D_50 (aCons (.e (nC (.int 2))) (aCons (.o 7) (aCons (.o 4) (aCons (.o 5) (aNil))))))) (aCons (.e (nCall D_50 (aCons (.e (nC (.int 2))) (aCons (.o 4) (aCons (.o 7) (aCons (.o 5) (aNil))))))) (aCons (.e (nCall D_50 (aCons (.e (nC (.int 2))) (aCons (.o 4) (aCons (.o 4) (aCons (.o 8) (aNil))))))) (aNil)))))))) (gN 9))
def lw10 : NStm := sDrop [9] (sIf (tNot' (asT (.e (nCall (D_37 20) (aCons (.o 9) (aCons (.e (nOp2 oMul (.e (nL (nLstO (aCons (.e (nV 2)) (aNil))))) (.e (nC (.int 5))))) (aNil))))))) (sRet (nC (.bool false))) (sNil))
def lwB11 : NStm := sSeq lw3 (sSeq lw4 (sSeq lw5 (sSeq lw6 (sSeq lw7 (sSeq lw8 (sSeq lw9 lw10))))))
def lw12 : NStm := sDrop [7, 4, 5, 8, 6, 2, 9, 3] (sFor (iRg1 (aCons (.e (nC (.int 6))) (aNil))) (gN 3) (sDrop [3] (lwB11)))
def lw13 : NStm := sAsg (nCall D_47 (aCons (.o 1) (aNil))) (gN 5)
def lw14 : NStm := sAsg (nL (nLstO (aCons (.e (nTup (aCons (.e (nOp2 oAdd (.e (nTup (aCons (.e (nC (.str "value"))) (aNil)))) (.e (nCall D_44 (aCons (.o 1) (aNil)))))) (aCons (.e (nTup (aCons (.e (nC (.str "piece"))) (aCons (.e (nCall D_35 (aCons (.o 1) (aCons (.e (nC (.int 200))) (aNil))))) (aNil))))) (aNil))))) (aCons (.e (nTup (aCons (.e (nCall (D_45 12) (aCons (.o 1) (aCons (.e (nC (.int 2))) (aNil))))) (aCons (.e (nCall (D_45 12) (aCons (.o 1) (aCons (.e (nC (.int 2))) (aNil))))) (aNil))))) (aNil))))) (gN 10)
def lw15 : NStm := sDrop [1] (sAsg (nOp2 oAdd (.o 10) (.e (nL (nLstO (aCons (.e (nTup (aCons (.e (nTup (aCons (.e (nC (.str "steps"))) (aCons (.e (nTup (aCons (.e (nTup (aCons (.e (nC (.int 0))) (aCons (.e (nTup (aCons (.e (nC (.int 0))) (aCons (.e (nC (.int 1))) (aNil))))) (aNil))))) (aCons (.e (nTup (aCons (.e (nOp2 oAdd (.e (nC (.int 50))) (.e (nCall D_35 (aCons (.o 1) (aCons (.e (nC (.int 9000))) (aNil))))))) (aCons (.e (nTup (aCons (.e (nC (.int 1))) (aCons (.e (nC (.int 3))) (aNil))))) (aNil))))) (aNil))))) (aNil))))) (aCons (.e (nTup (aCons (.e (nC (.str "weight"))) (aCons (.e (nC (.int 1))) (aNil))))) (aNil))))) (aNil)))))) (gN 10))
def lw16 : NStm := sDrop [5, 11, 12, 10] (sFor (iV (nV 10)) (gT (gCons' (gN 11) (gCons' (gN 12) (gNil')))) (sDrop [11, 12] (sDrop [11, 12] (sIf (tNot' (asT (.e (nCall D_51 (aCons (.o 11) (aCons (.o 12) (aCons (.o 5) (aNil)))))))) (sRet (nC (.bool false))) (sNil)))))
def lw17 : NStm := sAsg (nL (nLstO (aCons (.e (nCall D_29 (aCons (.e (nTup (aCons (.e (nC (.str "sum"))) (aCons (.e (nTup (aCons (.e (nTup (aCons (.e (nC (.str "free"))) (aNil)))) (aCons (.e (nTup (aCons (.e (nC (.str "piece"))) (aCons (.e (nC (.int 1))) (aNil))))) (aNil))))) (aNil))))) (aNil)))) (aCons (.e (nCall D_29 (aCons (.e (nTup (aCons (.e (nC (.str "sum"))) (aCons (.e (nTup (aCons (.e (nTup (aCons (.e (nC (.str "free"))) (aNil)))) (aNil)))) (aNil))))) (aNil)))) (aCons (.e (nCall D_29 (aCons (.e (nTup (aCons (.e (nC (.str "most"))) (aCons (.e (nTup (aCons (.e (nTup (aCons (.e (nC (.str "sum"))) (aCons (.e (nTup (aCons (.e (nTup (aCons (.e (nC (.str "free"))) (aNil)))) (aCons (.e (nTup (aCons (.e (nC (.str "free"))) (aNil)))) (aNil))))) (aNil))))) (aNil)))) (aNil))))) (aNil)))) (aNil)))))) (gN 13)
def lw18 : NStm := sAsg (nOp2 oAdd (.o 13) (.e (nL (nLstO (aCons (.e (nCall D_32 (aCons (.e (nTup (aCons (.e (nC (.str "value"))) (aCons (.e (nC (.int 1))) (aCons (.e (nC (.int 2))) (aNil)))))) (aCons (.e (nTup (aCons (.e (nC (.str "piece"))) (aCons (.e (nC (.int 4))) (aNil))))) (aCons (.e (nTup (aCons (.e (nC (.int 0))) (aCons (.e (nC (.int 1))) (aCons (.e (nC (.int 0))) (aNil)))))) (aNil)))))) (aCons (.e (nCall D_32 (aCons (.e (nTup (aCons (.e (nC (.str "free"))) (aNil)))) (aCons (.e (nTup (aCons (.e (nC (.str "free"))) (aNil)))) (aCons (.e (nTup (aCons (.e (nC (.int 0))) (aCons (.e (nC (.int 0))) (aCons (.e (nC (.int 0))) (aNil)))))) (aNil)))))) (aNil))))))) (gN 13)
def lw19 : NStm := sRet (nCall (D_37 20) (aCons (.o 13) (aCons (.e (nL (nLstO (aCons (.e (nTup (aCons (.e (nC (.str "piece"))) (aCons (.e (nC (.int 1))) (aNil))))) (aCons (.e (nTup (aCons (.e (nC (.str "free"))) (aNil)))) (aCons (.e (nTup (aCons (.e (nC (.str "free"))) (aNil)))) (aCons (.e (nC (.int 9))) (aCons (.e (nC .none)) (aNil))))))))) (aNil))))
def lwAll : NStm := sSeq lw1 (sSeq lw2 (sSeq lw12 (sSeq lw13 (sSeq lw14 (sSeq lw15 (sSeq lw16 (sSeq lw17 (sSeq lw18 lw19))))))))
theorem B_52_eq : B_52 = lwAll := rfl
variable {S : Option Sl} {l : List PyData} {X : PyData}
/-- drawn goods -/
structure GS (g : Gd) : Prop where
  v : g.v ≤ 65521
  p : g.p ≤ 20
  w : g.w ≤ 20
theorem GS.gg {g : Gd} (h : GS g) : GG g := ⟨by have := h.v; omega, by have := h.p; omega, by have := h.w; omega⟩
theorem s53' {l : List PyData} (h : Dr l) {P : PyData → NSt → Prop} (hP : ∀ g l', Dr l' → GS g → P (dG g) [some (.lent l')]) : Wp (D_47 [some (.lent l)]) P :=
  s53 h fun v p w l' d hv hp hw => hP ⟨v, p, w⟩ l' d ⟨hv, hp, hw⟩
theorem s50d (n : Nat) {l : List PyData} {P : PyData → NSt → Prop} (h1 : 1 ≤ n) (h5 : n ≤ 5) (hd : Dr l) (hP : ∀ d l', Dr l' → GD 5 d → P (dD d) [some (.lent l'), some (.val (.int (n : Int)))]) : Wp (D_45 12 [some (.lent l), some (.val (.int (n : Int)))]) P :=
  s50 12 n h1 (by omega) h5 hd fun d l' d' g => hP d l' d' (GD.mono h5 g)
theorem lw3_spec (hd : Dr l) {Nx : NSt → Prop} {Rt : PyData → NSt → Prop} {Bk Ct : NSt → Prop}
    (hN : ∀ l d g, Dr l → GD 5 d → GS g → Nx [S, some (.own l), some (.val flg), some (.val X), some (.val (dD d)), some (.val (dG g)), none, none, none, none, none, none, none, none]) : WpS (lw3 [S, some (.own l), some (.val flg), some (.val X), none, none, none, none, none, none, none, none, none, none]) Nx Rt Bk Ct := by
  have sz := sizeBig
  have z2 : 2 ≤ sizeLine := by omega
  unfold lw3
  simp -dsimp [e40]
  refine take_spec hd (by omega) fun r l1 d1 r0 r1 => ?_
  obtain ⟨k, rfl⟩ := nat_of r0
  have hk : (1 : Int) + (k : Int) = ((k + 1 : Nat) : Int) := by omega
  simp -dsimp [hk]
  refine s50d (k + 1) (by omega) (by omega) d1 fun d l2 d2 gd => ?_
  simp -dsimp
  refine s53' d2 fun g l3 d3 gs => ?_
  simp -dsimp
  exact hN l3 d g d3 gd gs
theorem lw4_spec {d : Duty} {G : PyData} (gd : GD 5 d) {Nx : NSt → Prop} {Rt : PyData → NSt → Prop} {Bk Ct : NSt → Prop}
    (hN : Nx [S, some (.own l), some (.val flg), some (.val X), some (.val (dD d)), some (.val G), some (.val (dD (sp 5 d))), none, none, none, none, none, none, none]) : WpS (lw4 [S, some (.own l), some (.val flg), some (.val X), some (.val (dD d)), some (.val G), none, none, none, none, none, none, none, none]) Nx Rt Bk Ct := by
  have e := u48 12 5 d gd (by omega) (by omega)
  unfold lw4
  simp -dsimp [e]
  exact hN
theorem sOk_dD : ∀ {n : Nat} {d : Duty}, GD n d → sOk (2 * n + 4) (dD d)
  | 0, _, h => h.elim
  | n + 1, d, h => by
    have i1 : ∀ {k : Nat} {i : Int}, sOk (k + 1) (.int i) := True.intro
    have s1 : ∀ {k : Nat} {i : Str}, sOk (k + 1) (.str i) := True.intro
    have pt : ∀ {k : Nat} {p : Nat × Nat}, sOk (k + 2) (dPt p) := sOk_tuple (by simp) fun x hx => by
      simp only [List.mem_cons, List.not_mem_nil, or_false] at hx
      rcases hx with rfl | rfl <;> exact True.intro
    cases d with
    | free =>
      rw [dD_free]
      refine sOk_tuple (by simp) fun x hx => ?_
      simp only [List.mem_cons, List.not_mem_nil, or_false] at hx
      subst hx
      exact s1
    | value a b =>
      rw [dD_value]
      refine sOk_tuple (by simp) fun x hx => ?_
      simp only [List.mem_cons, List.not_mem_nil, or_false] at hx
      rcases hx with rfl | rfl | rfl
      · exact s1
      · exact i1
      · exact i1
    | unit w k =>
      rw [dD_unit]
      refine sOk_tuple (by simp) fun x hx => ?_
      simp only [List.mem_cons, List.not_mem_nil, or_false] at hx
      rcases hx with rfl | rfl
      · exact s1
      · exact i1
    | steps ss =>
      have h : GSt ss := h
      rw [dD_steps]
      refine sOk_tuple (by simp) fun x hx => ?_
      simp only [List.mem_cons, List.not_mem_nil, or_false] at hx
      rcases hx with rfl | rfl
      · exact s1
      · refine sOk_tuple (by rw [List.length_map]; have := h.len; omega) fun y hy => ?_
        obtain ⟨s, _, rfl⟩ := List.mem_map.mp hy
        refine sOk_tuple (by simp) fun z hz => ?_
        simp only [List.mem_cons, List.not_mem_nil, or_false] at hz
        rcases hz with rfl | rfl
        · exact i1
        · exact pt
    | group c ds =>
      rw [dD_group]
      refine sOk_tuple (by simp) fun x hx => ?_
      simp only [List.mem_cons, List.not_mem_nil, or_false] at hx
      rcases hx with rfl | rfl
      · exact s1
      · refine sOk_tuple (by rw [List.length_map]; have := h.2.1; omega) fun y hy => ?_
        obtain ⟨d, hd, rfl⟩ := List.mem_map.mp hy
        exact sOk.mono (j := 2 * n + 4) (by omega) (sOk_dD (h.2.2 d hd))
end Wlaw_k02
end NL
end L2
namespace L2
namespace NL
open PySem PySem.Spec PyProof.Rows
namespace Wlaw_k02
-- ZZ 14 0=S;;1=some (.own l);;2=some (.val flg)
variable {S : Option Sl} {l : List PyData} {X : PyData}
theorem e42' : D_37 = Same := e42
theorem nI_sOk {k n : Nat} : sOk (k + 1) (nI n) := True.intro
theorem dF_sOk {k n : Nat} : sOk (k + 2) (dF n) := sOk_tuple (by simp) fun x hx => by
  simp only [List.mem_cons, List.not_mem_nil, or_false] at hx
  rcases hx with rfl | rfl <;> exact True.intro
theorem told4s {d e : Duty} {a b : Str} (hd : GD 5 d) : sOk 20 (.list [dD d, .str a, dD d, .str b]) := sOk_list (by simp) fun x hx => by
  simp only [List.mem_cons, List.not_mem_nil, or_false] at hx
  have h := sOk.mono (j := 14) (k := 19) (by omega) (sOk_dD hd)
  rcases hx with rfl | rfl | rfl | rfl
  · exact h
  · exact True.intro
  · exact h
  · exact True.intro
theorem told0 {d : Duty} (gd : GD 5 d) {b c : PyData} : D_50 (a4 0 (dD d) b c) = .ok (dD (sp 5 d)) (a4 0 (dD d) b c) := told_ok (g := D_29) (by omega) (by omega) rfl (u29 (by omega) gd)
theorem told1 {d : Duty} (gd : GD 5 d) {b c : PyData} : D_50 (a4 1 (dD d) b c) = .ok (.str (tx 5 d)) (a4 1 (dD d) b c) := told_ok (g := D_31) (by omega) (by omega) rfl (u31 (by omega) gd)
theorem lw56_spec {d : Duty} {g : Gd} (gd : GD 5 d) (gg : GS g) {Nx : NSt → Prop} {Rt : PyData → NSt → Prop} {Bk Ct : NSt → Prop}
    (hN : Nx [S, some (.own l), some (.val flg), some (.val X), some (.val (dD d)), some (.val (dG g)), none, none, none, none, none, none, none, none]) :
    WpS (sSeq lw5 lw6 [S, some (.own l), some (.val flg), some (.val X), some (.val (dD d)), some (.val (dG g)), some (.val (dD (sp 5 d))), none, none, none, none, none, none, none]) Nx Rt Bk Ct := by
  have sz := sizeBig
  have gs := sp_GD gd
  have t0 := told0 gd (b := .int 0) (c := .int 0)
  have t1 := told1 gd (b := .int 0) (c := .int 0)
  have t2 := told0 gs (b := .int 0) (c := .int 0)
  have t3 := told1 gs (b := .int 0) (c := .int 0)
  rw [sp_sp gd] at t2
  have x0 := u49 12 5 d gd (by omega) (by omega)
  have x1 := u49 12 5 (sp 5 d) gs (by omega) (by omega)
  have sr := same_refl 20 _ (told4s (e := d) (a := tx 5 d) (b := tx 5 (sp 5 d)) gs)
  have e27 := s28 gg.gg (n := 5) (by omega) gs
  have ed : due g 5 (sp 5 d) = due g 5 d := sp_kd gd
  rw [ed] at e27
  have e46 := s51c gg.gg (n := 5) (by omega) gd
  have sr2 := same_refl 20 _ (dF_sOk (k := 18) (n := due g 5 d))
  generalize dF (due g 5 d) = U at *
  generalize dD (sp 5 d) = P at *
  generalize dD d = D at *
  generalize dG g = G at *
  generalize tx 5 d = T1 at *
  generalize tx 5 (sp 5 d) = T2 at *
  refine wps_sq ?_
  unfold lw5
  simp -dsimp [t0, t1, t2, t3, x0, x1, szn, e42', sr]
  unfold lw6
  simp -dsimp [e27, e46, e42', sr2]
  exact hN
theorem e29 {v : PyData} (h : DBad v) : D_29 (a1 v) = .err nr (a1 v) :=
  run_err (m := a1 v) (seq_err (chk_err (call_ok (as := [.v v]) rfl List.nodup_nil rfl h rfl)))
theorem e31 {v : PyData} (h : DBad v) : D_31 (a1 v) = .err nr (a1 v) :=
  run_err (m := a1 v) (seq_err (chk_err (call_ok (as := [.v v]) rfl List.nodup_nil rfl h rfl)))
abbrev s6 (a b c : PyData) : NSt := [some (.val a), some (.val b), some (.val c), none, none, none]
theorem e32a {v b c : PyData} (h : DBad v) : D_32 (a3 v b c) = .err nr (a3 v b c) :=
  run_err (m := s6 v b c) (seq_err (chk_err (call_ok (as := [.v v]) rfl List.nodup_nil rfl h rfl)))
theorem e32b {v b c : PyData} (h : DOk v) (h2 : D_21 (a2 b c) = .err nr (a2 b c)) : D_32 (a3 v b c) = .err nr (a3 v b c) :=
  run_err (m := s6 v b c) ((seq_nx (chk_ok (call_ok (as := [.v v]) rfl List.nodup_nil rfl h rfl))).trans (seq_err (expr_err (call_err (as := [.v b, .v c]) rfl List.nodup_nil rfl h2 rfl))))
theorem flg5 : sOk 20 (.list [flg, flg, flg, flg, flg]) := sOk_list (by simp) fun x hx => by
  simp only [List.mem_cons, List.not_mem_nil, or_false, or_self] at hx
  subst hx
  refine sOk_list (by simp) fun y hy => ?_
  simp only [List.mem_cons, List.not_mem_nil, or_false] at hy
  rcases hy with rfl | rfl | rfl | rfl | rfl <;> exact True.intro
theorem m5 : oMul (.list [flg]) (.int 5) = some (.list [flg, flg, flg, flg, flg]) := oMul_rep (k := 5) (by omega)
theorem lw710_spec {d : Duty} {g : Gd} (hd : Dr l) (gd : GD 5 d) {Nx : NSt → Prop} {Rt : PyData → NSt → Prop} {Bk Ct : NSt → Prop}
    (hN : ∀ l, Dr l → Nx [S, some (.own l), some (.val flg), some (.val X), none, none, none, none, none, none, none, none, none, none]) :
    WpS (sSeq lw7 (sSeq lw8 (sSeq lw9 lw10)) [S, some (.own l), some (.val flg), some (.val X), some (.val (dD d)), some (.val (dG g)), none, none, none, none, none, none, none, none]) Nx Rt Bk Ct := by
  have sz := sizeBig
  have z2 : 2 ≤ sizeLine := by omega
  have bad2 := badAll2 gd
  have dok : DOk (dD d) := s20 (n0 := 5) (by omega) gd
  generalize dG g = G at *
  generalize dD d = D at *
  refine wps_sq ?_
  unfold lw7
  simp -dsimp [e41, szn]
  refine pick_spec hd (by simp) fun bad l1 d1 hb => ?_
  have hb : DBad bad := bad2 bad hb
  simp -dsimp
  unfold lw8
  simp -dsimp [e41, szn]
  refine pick_spec d1 (by simp) fun odd l2 d2 ho => ?_
  have ho : GBad odd := oddAll2 odd ho
  have t0 := told_nr (i := 0) (g := D_29) (a := bad) (b := .int 0) (c := .int 0) (by omega) (by omega) rfl (e29 hb)
  have t1 := told_nr (i := 1) (g := D_31) (a := bad) (b := .int 0) (c := .int 0) (by omega) (by omega) rfl (e31 hb)
  have t2 := told2_nr (e32a (b := D) (c := G) hb)
  have t3 := told2_nr (e32b dok (e22d (g := G) hb))
  have t4 := told2_nr (e32b dok (e22g dok ho))
  have hm := m5
  have sr := same_refl 20 _ flg5
  generalize flg = FL at *
  simp -dsimp
  unfold lw9
  simp -dsimp [t0, t1, t2, t3, t4, szn]
  unfold lw10
  simp -dsimp [szn, hm, e42', sr]
  exact hN l2 d2
theorem turn_spec (hd : Dr l) {Nx : NSt → Prop} {Rt : PyData → NSt → Prop} {Bk Ct : NSt → Prop} (hN : ∀ l, Dr l → Nx [S, some (.own l), some (.val flg), some (.val X), none, none, none, none, none, none, none, none, none, none]) : WpS (lwB11 [S, some (.own l), some (.val flg), some (.val X), none, none, none, none, none, none, none, none, none, none]) Nx Rt Bk Ct := by
  unfold lwB11
  refine wps_sq (lw3_spec hd fun l1 d g d1 gd gs => ?_)
  refine wps_sq (lw4_spec gd ?_)
  refine wps_cut2 (lw56_spec gd gs ?_)
  exact lw710_spec d1 gd hN
theorem loop_spec (hd : Dr l) {Nx : NSt → Prop} {Rt : PyData → NSt → Prop} {Bk Ct : NSt → Prop} (hN : ∀ l, Dr l → Nx [S, some (.own l), none, none, none, none, none, none, none, none, none, none, none, none]) : WpS (lw12 [S, some (.own l), some (.val flg), none, none, none, none, none, none, none, none, none, none, none]) Nx Rt Bk Ct := by
  unfold lw12
  refine wps_dr ?_
  rw [wps_for]
  simp -dsimp only [wp_iRg1, wp_aCons, wp_oe, wp_nC, wp_aNil, rg1_at (show rgOk 6 = true by decide), onO_some]
  refine wps_forL (fun _ n => ∃ l, n = [S, some (.own l), some (.val flg), none, none, none, none, none, none, none, none, none, none, none] ∧ Dr l) ?_ ?_ _ _ ⟨l, rfl, hd⟩
  · rintro d ds n ⟨l', rfl, d'⟩
    refine ⟨_, rfl, wps_dr ?_⟩
    refine turn_spec d' fun l2 d2 => ⟨l2, ?_, d2⟩
    simp -dsimp
  · rintro n ⟨l', rfl, d'⟩
    simp -dsimp
    exact hN l' d'
end Wlaw_k02
end NL
end L2
namespace L2
namespace NL
open PySem PySem.Spec PyProof.Rows
namespace Wlaw_k02
-- ZZ 14 0=S;;1=some (.own l)
-- ZA 14 0=S
variable {S : Option Sl} {l : List PyData} {X : PyData}
theorem gr {a b : Nat} (h1 : Nat.gcd a b = 1) (h2 : 0 < b) (h3 : a ≤ 40) (h4 : b ≤ 30) : GRt a b := ⟨h1, h2, div30 b h2 h4, h3, h4⟩
abbrev dPr (q : Duty × Duty) : PyData := .tuple [dD q.1, dD q.2]
theorem lw1316_spec (hd : Dr l) {Nx : NSt → Prop} {Rt : PyData → NSt → Prop} {Bk Ct : NSt → Prop} (hN : Nx [S, none, none, none, none, none, none, none, none, none, none, none, none, none]) :
    WpS (sSeq lw13 (sSeq lw14 (sSeq lw15 lw16)) [S, some (.own l), none, none, none, none, none, none, none, none, none, none, none, none]) Nx Rt Bk Ct := by
  have sz := sizeBig
  have z1 : 1 ≤ sizeLine := by omega
  have z2 : 2 ≤ sizeLine := by omega
  have z3 : 3 ≤ sizeLine := by omega
  refine wps_sq ?_
  unfold lw13
  simp -dsimp
  refine s53' hd fun g l1 d1 gs => ?_
  simp -dsimp
  have e51 := fun {p o : Duty} (hp : GD 5 p) (ho : GD 5 o) => u51 gs.gg (n := 5) (by omega) hp ho
  generalize dG g = G at *
  unfold lw14
  simp -dsimp [z1, z2, z3]
  refine s49 d1 fun a b l2 d2 hab => ?_
  have av : oAdd (.tuple [.str "value"]) (.tuple [.int (a : Int), .int (b : Int)]) = some (.tuple [.str "value", .int (a : Int), .int (b : Int)]) := oAdd_tup (by simp)
  simp -dsimp [e40, dPt, z1, z2, z3, av]
  refine take_spec d2 (by omega) fun r l3 d3 r0 r1 => ?_
  obtain ⟨k, rfl⟩ := nat_of r0
  have hv : PyData.tuple [.str "value", .int (a : Int), .int (b : Int)] = dD (.value a b) := dD_value.symm
  have hp : PyData.tuple [.str "piece", .int (k : Int)] = dD (.unit false k) := dD_piece.symm
  have g1 : GD 5 (.value a b) := hab
  have g2 : GD 5 (.unit false k) := (show k ≤ 200 by omega)
  simp -dsimp [z2]
  rw [hv, hp]
  generalize Duty.value a b = D1 at *
  generalize Duty.unit false k = D2 at *
  refine s50d 2 (by omega) (by omega) d3 fun D3 l4 d4 g3 => ?_
  simp -dsimp
  refine s50d 2 (by omega) (by omega) d4 fun D4 l5 d5 g4 => ?_
  simp -dsimp [z2]
  unfold lw15
  simp -dsimp [e40, z1, z2, z3]
  refine take_spec d5 (by omega) fun r l6 d6 r0 r1 => ?_
  obtain ⟨m, rfl⟩ := nat_of r0
  have hs : PyData.tuple [.str "steps", .tuple [.tuple [.int 0, .tuple [.int 0, .int 1]], .tuple [.int (50 + (m : Int)), .tuple [.int 1, .int 3]]]] = dD (.steps [(0, 0, 1), (50 + m, 1, 3)]) := by
    rw [dD_steps]
    show _ = PyData.tuple [.str "steps", .tuple [.tuple [.int ((0 : Nat) : Int), .tuple [.int ((0 : Nat) : Int), .int ((1 : Nat) : Int)]], .tuple [.int ((50 + m : Nat) : Int), .tuple [.int ((1 : Nat) : Int), .int ((3 : Nat) : Int)]]]]
    rw [Int.natCast_add]
    rfl
  have hw : PyData.tuple [.str "weight", .int 1] = dD (.unit true 1) := dD_weight.symm
  have g5 : GD 5 (.steps [(0, 0, 1), (50 + m, 1, 3)]) := ⟨by simp, by simp, fun s hs => by
    simp only [List.mem_cons, List.not_mem_nil, or_false] at hs
    rcases hs with rfl | rfl
    · exact gr (a := 0) (b := 1) (by decide) (by decide) (by decide) (by decide)
    · exact gr (a := 1) (b := 3) (by decide) (by decide) (by decide) (by decide), rfl, by simp; omega, fun s hs => by
    simp only [List.mem_cons, List.not_mem_nil, or_false] at hs
    rcases hs with rfl | rfl
    · show (0 : Nat) ≤ 10000; omega
    · show 50 + m ≤ 10000; omega⟩
  have g6 : GD 5 (.unit true 1) := (show 1 ≤ 200 by omega)
  simp -dsimp [z1, z2, -oAdd_list]
  rw [hs, hw]
  generalize Duty.steps [(0, 0, 1), (50 + m, 1, 3)] = D5 at *
  generalize Duty.unit true 1 = D6 at *
  have ha : oAdd (.list [.tuple [dD D1, dD D2], .tuple [dD D3, dD D4]]) (.list [.tuple [dD D5, dD D6]]) = some (.list ([(D1, D2), (D3, D4), (D5, D6)].map dPr)) := by
    rw [oAdd_ls (by simp)]
    rfl
  have hall : ∀ q ∈ [(D1, D2), (D3, D4), (D5, D6)], GD 5 q.1 ∧ GD 5 q.2 := fun q hq => by
    simp only [List.mem_cons, List.not_mem_nil, or_false] at hq
    rcases hq with rfl | rfl | rfl
    · exact ⟨g1, g2⟩
    · exact ⟨g3, g4⟩
    · exact ⟨g5, g6⟩
  generalize [(D1, D2), (D3, D4), (D5, D6)] = prs at *
  rw [ha]
  simp -dsimp
  unfold lw16
  refine wps_dr ?_
  rw [wps_for]
  simp -dsimp
  refine wps_forL (fun rem n => ∃ q : List (Duty × Duty), rem = q.map dPr ∧ (∀ p ∈ q, p ∈ prs) ∧ n = [S, none, none, none, none, some (.val G), none, none, none, none, some (.val (.list (prs.map dPr))), none, none, none]) ?_ ?_ _ _ ⟨prs, rfl, fun _ h => h, rfl⟩
  · rintro d ds n ⟨q, hq, hm, rfl⟩
    cases q with
    | nil => cases hq
    | cons p q =>
      cases hq
      obtain ⟨gp, go⟩ := hall p (hm p List.mem_cons_self)
      have e := e51 gp go
      have ed : dPr p = .tuple [dD p.1, dD p.2] := rfl
      rw [ed]
      generalize prs.map dPr = PP
      generalize dD p.1 = P1 at *
      generalize dD p.2 = P2 at *
      refine ⟨[S, none, none, none, none, some (.val G), none, none, none, none, some (.val (.list PP)), some (.val P1), some (.val P2), none], rfl, ?_⟩
      simp -dsimp [e]
      exact ⟨q, rfl, fun a b h => hm (a, b) (List.mem_cons_of_mem _ h)⟩
  · rintro n ⟨q, hq, hm, rfl⟩
    simp -dsimp
    exact hN
end Wlaw_k02
end NL
end L2
namespace L2
namespace NL
open PySem PySem.Spec PyProof.Rows
namespace Wlaw_k02
-- ZZ 14 0=S;;1=some (.own l)
-- ZA 14 0=S
variable {S : Option Sl} {l : List PyData} {X : PyData}
abbrev vFree : PyData := .tuple [.str "free"]
theorem f1 : D_29 [some (.val (.tuple [.str "sum", .tuple [vFree, .tuple [.str "piece", .int 1]]]))] = .ok (.tuple [.str "piece", .int 1]) [some (.val (.tuple [.str "sum", .tuple [vFree, .tuple [.str "piece", .int 1]]]))] := by kernel_rfl
theorem f2 : D_29 [some (.val (.tuple [.str "sum", .tuple [vFree]]))] = .ok vFree [some (.val (.tuple [.str "sum", .tuple [vFree]]))] := by kernel_rfl
theorem f3 : D_29 [some (.val (.tuple [.str "most", .tuple [.tuple [.str "sum", .tuple [vFree, vFree]]]]))] = .ok vFree [some (.val (.tuple [.str "most", .tuple [.tuple [.str "sum", .tuple [vFree, vFree]]]]))] := by kernel_rfl
theorem f4 : D_32 [some (.val (.tuple [.str "value", .int 1, .int 2])), some (.val (.tuple [.str "piece", .int 4])), some (.val (.tuple [.int 0, .int 1, .int 0]))] = .ok (.int 9) [some (.val (.tuple [.str "value", .int 1, .int 2])), some (.val (.tuple [.str "piece", .int 4])), some (.val (.tuple [.int 0, .int 1, .int 0]))] := by kernel_rfl
theorem f5 : D_32 [some (.val vFree), some (.val vFree), some (.val (.tuple [.int 0, .int 0, .int 0]))] = .ok .none [some (.val vFree), some (.val vFree), some (.val (.tuple [.int 0, .int 0, .int 0]))] := by
  obtain ⟨v, hv, e⟩ := u32 (g := ⟨0, 0, 0⟩) ⟨by simp, by simp, by simp⟩ (n := 5) (by omega) (p := .free) (o := .free) True.intro True.intro
  have hf : dD .free = vFree := dD_free
  rw [hf] at e
  rcases hv with ⟨k, _, _, hlt, _⟩ | ⟨rfl, _⟩
  · exact absurd hlt (Nat.lt_irrefl _)
  · exact e
abbrev gotL : PyData := .list [.tuple [.str "piece", .int 1], vFree, vFree, .int 9, .none]
theorem f6 : Same 20 [some (.val gotL), some (.val gotL)] = .ok (.bool true) [some (.val gotL), some (.val gotL)] := by kernel_rfl
theorem tail_spec {Nx : NSt → Prop} {Rt : PyData → NSt → Prop} {Bk Ct : NSt → Prop} (hR : ∀ n, Rt (.bool true) n) : WpS (sSeq lw17 (sSeq lw18 lw19) [S, none, none, none, none, none, none, none, none, none, none, none, none, none]) Nx Rt Bk Ct := by
  have sz := sizeBig
  have h1 := f1
  have h2 := f2
  have h3 := f3
  have h4 := f4
  have h5 := f5
  have h6 := f6
  have z1 : 1 ≤ sizeLine := by omega
  have z2 : 2 ≤ sizeLine := by omega
  have z3 : 3 ≤ sizeLine := by omega
  refine wps_sq ?_
  unfold lw17
  simp -dsimp [szn, z1, z2, z3, h1, h2, h3]
  unfold lw18
  simp -dsimp [szn, z1, z2, z3, h4, h5]
  unfold lw19
  simp -dsimp [szn, z1, z2, z3, e42', h6]
  exact hR _
theorem wps_cut4 {a b c d e : NStm} {n : NSt} {Nx : NSt → Prop} {Rt : PyData → NSt → Prop} {Bk Ct : NSt → Prop} (h : WpS (sSeq a (sSeq b (sSeq c d)) n) (fun n' => WpS (e n') Nx Rt Bk Ct) Rt Bk Ct) : WpS (sSeq a (sSeq b (sSeq c (sSeq d e))) n) Nx Rt Bk Ct := by
  rw [show sSeq a (sSeq b (sSeq c (sSeq d e))) = sSeq (sSeq a (sSeq b (sSeq c d))) e by simp only [sSeq_assoc], wps_seq]
  exact h
theorem e34 : D_34 = Draws := rfl
theorem law_true (ns : List Int) (hl : ns.length ≤ 63) : ∃ n', D_52 [some (.scr (ns.map .int))] = .ok (.bool true) n' := by
  refine wp_ex ?_
  unfold D_52
  rw [wp_run, B_52_eq]
  unfold lwAll
  refine wps_sq ?_
  unfold lw1
  rw [wps_sOwn]
  simp -dsimp [e34]
  refine draws_spec ns hl fun l hd => ?_
  refine ⟨rfl, wps_sq ?_⟩
  unfold lw2
  simp -dsimp [szn]
  refine ⟨rfl, ?_⟩
  show WpS (lw12 [some (.scr (ns.map .int)), some (.own l), some (.val flg), none, none, none, none, none, none, none, none, none, none, none]) _ _ _ _
  exact loop_spec hd fun l2 d2 => wps_cut4 (lw1316_spec d2 (tail_spec fun _ => rfl))
end Wlaw_k02
end NL
end L2
open PySem PySem.W PySem.Calls PyProof.Rows
theorem PySem.Challenge.cw_borderward_k02_whole_duties_told_simply_holds : PySem.Challenge.rw_borderward_k02_whole_duties_told_simply.Holds := by
  w_on; o_law
  refine HandSHeadRun.head_any (r := OpenLaw.row PySem.Challenge.rw_borderward_k02_whole_duties_told_simply) (q := view (OpenLaw.row PySem.Challenge.rw_borderward_k02_whole_duties_told_simply).prog [52]) (H := L2.NL.Wlaw_k02.hk) (ob := L2.NL.Wlaw_k02.ob) (M := 8000) (loose := L2.NL.Wlaw_k02.loose) (d := HandSHeadRun.topDef (OpenLaw.row PySem.Challenge.rw_borderward_k02_whole_duties_told_simply).prog 52) (kwd := []) L2.NL.Wlaw_k02.ob_eq
    (by kernel_rfl) (fun s => by kernel_rfl) L2.NL.Wlaw_k02.run (by kernel_rfl) (by kernel_rfl) (by kernel_rfl) (by rfl) (by first | assumption | decide +kernel) (by decide +kernel) ⟨rfl, rfl, rfl, rfl, rfl, by decide +kernel⟩ ?hw ?hc
  case hw => w_witness2
  case hc =>
    refine L2.walk_ofE (l := PySem.Challenge.rw_borderward_k02_whole_duties_told_simply) (n := 63) (k := 22) (x := "script") (CX := L2.NL.CXe) rfl (by decide) (by kernel_rfl) ⟨rfl, by decide, by decide⟩ ?F (fun _ _ _ _ z => by obtain ⟨_, _, _, z⟩ := z; exact z)
    intro w mg fa h Y G hmg0
    obtain ⟨K, KX, c, c2⟩ := Y
    have hmg : mg ("law" : PySem.Str) = some (.ref fa) := by
      have e : (HandSHeadRun.topDef (OpenLaw.row PySem.Challenge.rw_borderward_k02_whole_duties_told_simply).prog 52).name = ("law" : PySem.Str) := by kernel_rfl
      rw [← e]
      exact hmg0
    have T := L2.NL.Wlaw_k02.facts KX G c c2
    obtain ⟨fd, F⟩ := c.def_ 39 (d := L2.NL.Wlaw_k02.fd_39) rfl
    have e := hmg.symm.trans (He.glo_ok KX G (c.fact 64 (f := .glo "law") rfl))
    cases e
    have b := L2.FunD.bindsA (ps := ["script"]) F fun _ _ _ _ _ _ us hl => match us, hl with | [_], _ => rfl
    exact ⟨K, fd, L2.NL.NProm K mg 1 L2.NL.Wlaw_k02.D_52, KX, fun s v => b s [v] rfl, L2.NL.law_end L2.NL.Wlaw_k02.law_true, fun base _ _ => L2.NL.FnOk.toE (L2.NL.Wlaw_k02.law_ok T F)⟩
