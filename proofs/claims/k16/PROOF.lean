import PyProof.Rows.All
import Wide.All
import OpenK.AllK
import Wide.FinOn
import HandS.ForMost
import HandS.ForExc
import HandS.Defaults
import HandS.Flow
import HandS.IsInst
import HandS.Deep
import HandS.Conv
import HandS.RevTup
import HandS.Rev
import PyProof.ListRange
import HandS.TupAny
import HandS.TupMul
import HandS.TupLe
import HandS.Style
import HandS.Wide
import HandS.SortInts
import KE.LtData
import KE.SortData
import HandS.Zip
import HandS.ExcIs
import HandS.HotCalls
import HandS.HeadHook1
import HandS.Dict
import HandS.Head0
import HandS.Head1
import HandS.Head2
import HandS.HeadEnd
import HandS.HeadHook2
import HandS.WordsExc
import PySem.Challenge.RW_borderward_k16_whole_faults_of_drafts
set_option Elab.async false
set_option linter.all false
set_option maxRecDepth 100000
set_option maxHeartbeats 2000000
/-! NL1: plain data over the hand layer: values as PyData, lists that are owned by one slot, results of a step, the judgements. -/
namespace L2
namespace NL
open PySem PySem.Spec PyProof.Rows

/-- what a slot holds: a value; a list of its own; a list lent by the caller; the script -/
inductive Sl where
  | val (d : PyData) | own (xs : List PyData) | lent (xs : List PyData) | scr (xs : List PyData)
def Sl.held : Sl → Bool
  | .own _ => true
  | .lent _ => true
  | _ => false
abbrev NSt := List (Option Sl)
abbrev Fz := Addr → Prop

/-- a key as data -/
def keyD : Key → PyData
  | .inl i => .int i
  | .inr x => .str x
mutual
def Rep (K : PySem.W.Frag) (H : Hp) (F : Fz) : PyData → V → Prop
  | .none, v => v = .non
  | .bool b, v => v = .bl b
  | .int i, v => v = .int i
  | .str x, v => v = .str x
  | .list ds, v => ∃ a xs, v = .ref a ∧ F a ∧ H a = some (.lst xs) ∧ Reps K H F ds xs
  | .tuple ds, v => ∃ a xs, v = .ref a ∧ ((F a ∧ H a = some (.tup xs)) ∨ ∀ H', SqT K H' a xs) ∧ Reps K H F ds xs
  | .dict kvs, v => ∃ (a : Addr) (ws : List V), v = .ref a ∧ F a ∧ ((∃ kx : List (Key × V), H a = some (.dK kx) ∧ kvs.map (·.1) = kx.map (fun p => keyD p.1) ∧ ws = kx.map (·.2)) ∨
      (∃ tx : List (List Key × V), H a = some (.dT tx) ∧ kvs.map (·.1) = tx.map (fun p => .tuple (p.1.map keyD)) ∧ ws = tx.map (·.2))) ∧ RepsP K H F kvs ws
def Reps (K : PySem.W.Frag) (H : Hp) (F : Fz) : List PyData → List V → Prop
  | [], xs => xs = []
  | d :: ds, xs => ∃ v vs, xs = v :: vs ∧ Rep K H F d v ∧ Reps K H F ds vs
def RepsP (K : PySem.W.Frag) (H : Hp) (F : Fz) : List (PyData × PyData) → List V → Prop
  | [], xs => xs = []
  | p :: ds, xs => ∃ v vs, xs = v :: vs ∧ RepP K H F p v ∧ RepsP K H F ds vs
def RepP (K : PySem.W.Frag) (H : Hp) (F : Fz) : PyData × PyData → V → Prop
  | (_, d), v => Rep K H F d v
end

section
variable {K : PySem.W.Frag} {H H' : Hp} {F F' : Fz}
mutual
theorem Rep.keep (h : ∀ a, F a → F' a ∧ H' a = H a) : ∀ (d : PyData) (v : V), Rep K H F d v → Rep K H' F' d v
  | .none, _, r => by unfold Rep at r ⊢; exact r
  | .bool b, _, r => by unfold Rep at r ⊢; exact r
  | .int i, _, r => by unfold Rep at r ⊢; exact r
  | .str x, _, r => by unfold Rep at r ⊢; exact r
  | .list ds, v, r => by
    unfold Rep at r ⊢
    obtain ⟨a, xs, e, f, hq, q⟩ := r
    exact ⟨a, xs, e, (h a f).1, (h a f).2.trans hq, Reps.keep h ds xs q⟩
  | .tuple ds, v, r => by
    unfold Rep at r ⊢
    obtain ⟨a, xs, e, f, q⟩ := r
    refine ⟨a, xs, e, ?_, Reps.keep h ds xs q⟩
    rcases f with ⟨f, hq⟩ | f
    · exact .inl ⟨(h a f).1, (h a f).2.trans hq⟩
    · exact .inr f
  | .dict kvs, v, r => by
    unfold Rep at r ⊢
    obtain ⟨a, ws, e, f, o, q⟩ := r
    refine ⟨a, ws, e, (h a f).1, ?_, RepsP.keep h kvs ws q⟩
    rw [(h a f).2]
    exact o
theorem Reps.keep (h : ∀ a, F a → F' a ∧ H' a = H a) : ∀ (ds : List PyData) (vs : List V), Reps K H F ds vs → Reps K H' F' ds vs
  | [], _, r => by unfold Reps at r ⊢; exact r
  | d :: ds, _, r => by
    unfold Reps at r ⊢
    obtain ⟨v, vs, e, r1, r2⟩ := r
    exact ⟨v, vs, e, Rep.keep h d v r1, Reps.keep h ds vs r2⟩
theorem RepsP.keep (h : ∀ a, F a → F' a ∧ H' a = H a) : ∀ (ds : List (PyData × PyData)) (vs : List V), RepsP K H F ds vs → RepsP K H' F' ds vs
  | [], _, r => by unfold RepsP at r ⊢; exact r
  | p :: ds, _, r => by
    unfold RepsP at r ⊢
    obtain ⟨v, vs, e, r1, r2⟩ := r
    exact ⟨v, vs, e, RepP.keep h p v r1, RepsP.keep h ds vs r2⟩
theorem RepP.keep (h : ∀ a, F a → F' a ∧ H' a = H a) : ∀ (p : PyData × PyData) (v : V), RepP K H F p v → RepP K H' F' p v
  | (_, d), v, r => by
    unfold RepP at r ⊢
    exact Rep.keep h d v r
end
theorem Reps.nil : Reps K H F [] [] := by unfold Reps; rfl
theorem Reps.cons {d : PyData} {ds : List PyData} {v : V} {vs : List V} (h1 : Rep K H F d v) (h2 : Reps K H F ds vs) : Reps K H F (d :: ds) (v :: vs) := by
  unfold Reps; exact ⟨v, vs, rfl, h1, h2⟩
theorem Reps.length : ∀ {ds : List PyData} {vs : List V}, Reps K H F ds vs → vs.length = ds.length
  | [], _, r => by unfold Reps at r; subst r; rfl
  | d :: ds, _, r => by
    unfold Reps at r
    obtain ⟨v, vs, rfl, _, r2⟩ := r
    simp [Reps.length r2]
theorem Reps.get : ∀ {ds : List PyData} {vs : List V} {i : Nat} {d : PyData}, Reps K H F ds vs → ds[i]? = some d → ∃ v, vs[i]? = some v ∧ Rep K H F d v
  | [], _, _, _, _, e => by simp at e
  | d :: ds, _, 0, _, r, e => by
    unfold Reps at r
    obtain ⟨v, vs, rfl, h1, _⟩ := r
    simp at e; subst e
    exact ⟨v, rfl, h1⟩
  | d :: ds, _, i + 1, _, r, e => by
    unfold Reps at r
    obtain ⟨v, vs, rfl, _, r2⟩ := r
    obtain ⟨u, h1, h2⟩ := Reps.get (i := i) r2 (by simpa using e)
    exact ⟨u, by simpa using h1, h2⟩
theorem Reps.get' : ∀ {ds : List PyData} {vs : List V} {i : Nat} {v : V}, Reps K H F ds vs → vs[i]? = some v → ∃ d, ds[i]? = some d ∧ Rep K H F d v
  | [], _, _, _, r, e => by unfold Reps at r; subst r; simp at e
  | d :: ds, _, 0, _, r, e => by
    unfold Reps at r
    obtain ⟨v, vs, rfl, h1, _⟩ := r
    simp at e; subst e
    exact ⟨d, rfl, h1⟩
  | d :: ds, _, i + 1, _, r, e => by
    unfold Reps at r
    obtain ⟨v, vs, rfl, _, r2⟩ := r
    obtain ⟨u, h1, h2⟩ := Reps.get' (i := i) r2 (by simpa using e)
    exact ⟨u, by simpa using h1, h2⟩
theorem Reps.append : ∀ {ds es : List PyData} {vs ws : List V}, Reps K H F ds vs → Reps K H F es ws → Reps K H F (ds ++ es) (vs ++ ws)
  | [], _, _, _, r, s => by unfold Reps at r; subst r; exact s
  | d :: ds, _, _, _, r, s => by
    unfold Reps at r
    obtain ⟨v, vs, rfl, h1, r2⟩ := r
    exact Reps.cons h1 (Reps.append r2 s)
theorem Reps.take : ∀ {ds : List PyData} {vs : List V} (n : Nat), Reps K H F ds vs → Reps K H F (ds.take n) (vs.take n)
  | _, _, 0, _ => by simp; exact Reps.nil
  | [], _, n + 1, r => by unfold Reps at r; subst r; simp; exact Reps.nil
  | d :: ds, _, n + 1, r => by
    unfold Reps at r
    obtain ⟨v, vs, rfl, h1, r2⟩ := r
    exact Reps.cons h1 (Reps.take n r2)
theorem Reps.drop : ∀ {ds : List PyData} {vs : List V} (n : Nat), Reps K H F ds vs → Reps K H F (ds.drop n) (vs.drop n)
  | _, _, 0, r => by simpa using r
  | [], _, n + 1, r => by unfold Reps at r; subst r; simp; exact Reps.nil
  | d :: ds, _, n + 1, r => by
    unfold Reps at r
    obtain ⟨v, vs, rfl, h1, r2⟩ := r
    exact Reps.drop n r2
theorem Reps.set : ∀ {ds : List PyData} {vs : List V} {d : PyData} {v : V} (n : Nat), Reps K H F ds vs → Rep K H F d v → Reps K H F (ds.set n d) (vs.set n v)
  | [], _, _, _, n, r, _ => by unfold Reps at r; subst r; simp; exact Reps.nil
  | e :: ds, _, _, _, 0, r, s => by
    unfold Reps at r
    obtain ⟨w, vs, rfl, h1, r2⟩ := r
    exact Reps.cons s r2
  | e :: ds, _, _, _, n + 1, r, s => by
    unfold Reps at r
    obtain ⟨w, vs, rfl, h1, r2⟩ := r
    exact Reps.cons h1 (Reps.set n r2 s)
theorem Reps.reverse : ∀ {ds : List PyData} {vs : List V}, Reps K H F ds vs → Reps K H F ds.reverse vs.reverse
  | [], _, r => by unfold Reps at r; subst r; simp; exact Reps.nil
  | d :: ds, _, r => by
    unfold Reps at r
    obtain ⟨v, vs, rfl, h1, r2⟩ := r
    simp only [List.reverse_cons]
    exact (Reps.reverse r2).append (Reps.cons h1 Reps.nil)
theorem Reps.dropLast {ds : List PyData} {vs : List V} (r : Reps K H F ds vs) : Reps K H F ds.dropLast vs.dropLast := by
  rw [List.dropLast_eq_take, List.dropLast_eq_take, r.length]
  exact r.take _
theorem Reps.eraseIdx : ∀ {ds : List PyData} {vs : List V} (n : Nat), Reps K H F ds vs → Reps K H F (ds.eraseIdx n) (vs.eraseIdx n)
  | [], _, n, r => by unfold Reps at r; subst r; simp; exact Reps.nil
  | d :: ds, _, 0, r => by
    unfold Reps at r
    obtain ⟨v, vs, rfl, h1, r2⟩ := r
    exact r2
  | d :: ds, _, n + 1, r => by
    unfold Reps at r
    obtain ⟨v, vs, rfl, h1, r2⟩ := r
    exact Reps.cons h1 (Reps.eraseIdx n r2)
theorem Reps.ints : ∀ (ns : List Int), Reps K H F (ns.map PyData.int) (ns.map V.int)
  | [] => Reps.nil
  | n :: ns => Reps.cons (by unfold Rep; rfl) (Reps.ints ns)
theorem Reps.rep {ds : List PyData} {vs : List V} (r : Reps K H F ds vs) : ∀ k : Nat, Reps K H F (List.replicate k ds).flatten (List.replicate k vs).flatten
  | 0 => Reps.nil
  | k + 1 => by
    rw [List.replicate_succ, List.replicate_succ, List.flatten_cons, List.flatten_cons]
    exact r.append (Reps.rep r k)
/-! the readings of the library -/
mutual
theorem Rep.dp : ∀ (d : PyData) (v : V), Rep K H F d v → d.canLay0 = true → Dp K H v d
  | .none, _, r, _ => by unfold Rep at r; subst r; exact .non
  | .bool b, _, r, _ => by unfold Rep at r; subst r; exact .bl b
  | .int i, _, r, _ => by unfold Rep at r; subst r; exact .int i
  | .str x, _, r, _ => by unfold Rep at r; subst r; exact .str x
  | .list ds, v, r, l => by
    unfold Rep at r
    unfold PyData.canLay0 at l
    obtain ⟨a, xs, rfl, f, hq, q⟩ := r
    exact .lst (SqL.of hq) (Reps.dp ds xs q l)
  | .tuple ds, v, r, l => by
    unfold Rep at r
    unfold PyData.canLay0 at l
    obtain ⟨a, xs, rfl, f, q⟩ := r
    refine .tup ?_ (Reps.dp ds xs q l)
    rcases f with ⟨f, hq⟩ | f
    · exact SqT.of hq
    · exact f H
  | .dict _, _, _, l => by unfold PyData.canLay0 at l; cases l
theorem Reps.dp : ∀ (ds : List PyData) (vs : List V), Reps K H F ds vs → PyData.canLayAll0 ds = true → DpAll K H vs ds
  | [], _, r, _ => by unfold Reps at r; subst r; exact .nil
  | d :: ds, _, r, l => by
    unfold Reps at r
    unfold PyData.canLayAll0 at l
    obtain ⟨l1, l2⟩ := Bool.and_eq_true_iff.mp l
    obtain ⟨v, vs, rfl, r1, r2⟩ := r
    exact .cons (Rep.dp d v r1 l1) (Reps.dp ds vs r2 l2)
end
theorem Rep.list {ds : List PyData} {v : V} (r : Rep K H F (.list ds) v) : ∃ a xs, v = .ref a ∧ F a ∧ H a = some (.lst xs) ∧ Reps K H F ds xs := by
  unfold Rep at r; exact r
theorem Rep.tuple {ds : List PyData} {v : V} (r : Rep K H F (.tuple ds) v) : ∃ a xs, v = .ref a ∧ SqT K H a xs ∧ Reps K H F ds xs := by
  unfold Rep at r
  obtain ⟨a, xs, e, f, q⟩ := r
  refine ⟨a, xs, e, ?_, q⟩
  rcases f with ⟨f, hq⟩ | f
  · exact SqT.of hq
  · exact f H
theorem Rep.int {i : Int} {v : V} (r : Rep K H F (.int i) v) : v = .int i := by unfold Rep at r; exact r
theorem Rep.bool {i : Bool} {v : V} (r : Rep K H F (.bool i) v) : v = .bl i := by unfold Rep at r; exact r
theorem Rep.str {i : Str} {v : V} (r : Rep K H F (.str i) v) : v = .str i := by unfold Rep at r; exact r
theorem Rep.none {v : V} (r : Rep K H F .none v) : v = .non := by unfold Rep at r; exact r
theorem Rep.dict {kvs : List (PyData × PyData)} {v : V} (r : Rep K H F (.dict kvs) v) : ∃ (a : Addr) (ws : List V), v = .ref a ∧ F a ∧ ((∃ kx : List (Key × V), H a = some (.dK kx) ∧ kvs.map (·.1) = kx.map (fun p => keyD p.1) ∧ ws = kx.map (·.2)) ∨
      (∃ tx : List (List Key × V), H a = some (.dT tx) ∧ kvs.map (·.1) = tx.map (fun p => .tuple (p.1.map keyD)) ∧ ws = tx.map (·.2))) ∧ RepsP K H F kvs ws := by unfold Rep at r; exact r
theorem Rep.mkInt {i : Int} : Rep K H F (.int i) (.int i) := by unfold Rep; rfl
theorem Rep.mkBool {i : Bool} : Rep K H F (.bool i) (.bl i) := by unfold Rep; rfl
theorem Rep.mkStr {i : Str} : Rep K H F (.str i) (.str i) := by unfold Rep; rfl
theorem Rep.mkNone : Rep K H F .none .non := by unfold Rep; rfl
theorem Rep.mkList {a : Addr} {xs : List V} {ds : List PyData} (f : F a) (h : H a = some (.lst xs)) (r : Reps K H F ds xs) : Rep K H F (.list ds) (.ref a) := by unfold Rep; exact ⟨a, xs, rfl, f, h, r⟩
theorem Rep.mkTup {a : Addr} {xs : List V} {ds : List PyData} (f : F a) (h : H a = some (.tup xs)) (r : Reps K H F ds xs) : Rep K H F (.tuple ds) (.ref a) := by unfold Rep; exact ⟨a, xs, rfl, .inl ⟨f, h⟩, r⟩
theorem Rep.mkTupK {a : Addr} {xs : List V} {ds : List PyData} (h : ∀ H', SqT K H' a xs) (r : Reps K H F ds xs) : Rep K H F (.tuple ds) (.ref a) := by unfold Rep; exact ⟨a, xs, rfl, .inr h, r⟩
end

/-- a state: the plain slots, the slots, the heap, what is frozen -/
structure Cf where
  n : NSt
  s : St
  H : Hp
  F : Fz
def Cf.Ow (c : Cf) (a : Addr) : Prop := ∃ (i : Nat) (xs : List PyData), c.n[i]? = some (some (Sl.own xs)) ∧ c.s[i]? = some (some (V.ref a))
def Cf.Hd (c : Cf) (a : Addr) : Prop := ∃ (i : Nat) (sl : Sl), c.n[i]? = some (some sl) ∧ sl.held = true ∧ c.s[i]? = some (some (V.ref a))
theorem Cf.Ow.hd {c : Cf} {a : Addr} (h : c.Ow a) : c.Hd a := let ⟨i, xs, h1, h2⟩ := h; ⟨i, _, h1, rfl, h2⟩
def ScrOk (K : PySem.W.Frag) (H : Hp) (a : Addr) (vs : List V) : Prop := (∃ o : Obj, H a = some (.frz o (.lst vs))) ∨ ∀ H', SqL K H' a vs
theorem ScrOk.sq {K : PySem.W.Frag} {H : Hp} {a : Addr} {vs : List V} (h : ScrOk K H a vs) : SqL K H a vs := by
  rcases h with ⟨o, h⟩ | h
  · exact .inl (.inr ⟨o, h⟩)
  · exact h H
def SlRep (K : PySem.W.Frag) (H : Hp) (F : Fz) : Sl → V → Prop
  | .val d, v => Rep K H F d v
  | .own xs, v => ∃ (a : Addr) (ws : List V), v = .ref a ∧ ¬ F a ∧ H a = some (.lst ws) ∧ Reps K H F xs ws
  | .lent xs, v => ∃ (a : Addr) (ws : List V), v = .ref a ∧ ¬ F a ∧ H a = some (.lst ws) ∧ Reps K H F xs ws
  | .scr xs, v => ∃ (a : Addr) (ns : List Int), v = .ref a ∧ xs = ns.map PyData.int ∧ ScrOk K H a (ns.map V.int)
structure Sim (K : PySem.W.Frag) (c : Cf) : Prop where
  len : c.n.length = c.s.length
  slot : ∀ (i : Nat) (sl : Sl), c.n[i]? = some (some sl) → ∃ v, c.s[i]? = some (some v) ∧ SlRep K c.H c.F sl v
  sep : ∀ (i j : Nat) (si sj : Sl) (a : Addr), c.n[i]? = some (some si) → c.n[j]? = some (some sj) → si.held = true → sj.held = true → c.s[i]? = some (some (.ref a)) → c.s[j]? = some (some (.ref a)) → i = j
  fz : ∀ a, c.F a → c.H a ≠ none
structure Step (c c' : Cf) : Prop where
  keep : ∀ a, c.H a ≠ none → ¬ c.Hd a → c'.H a = c.H a
  live : ∀ a, c.H a ≠ none → c'.H a ≠ none
  fz : ∀ a, c.F a → c'.F a
  fn : ∀ a, c'.F a → c.F a ∨ c.H a = none ∨ c.Ow a
  hd : ∀ a, c'.Hd a → c.Hd a ∨ c.H a = none
  ow : ∀ a, c'.Ow a → c.Ow a ∨ c.H a = none
  mu : ∀ (i : Nat) (xs : List PyData), c.n[i]? = some (some (Sl.lent xs)) → ∃ ys : List PyData, c'.n[i]? = some (some (Sl.lent ys)) ∧ c'.s[i]? = c.s[i]?
  ln : c'.n.length = c.n.length
theorem Step.refl (c : Cf) : Step c c := ⟨fun _ _ _ => rfl, fun _ h => h, fun _ h => h, fun _ h => .inl h, fun _ h => .inl h, fun _ h => .inl h, fun _ xs h => ⟨xs, h, rfl⟩, rfl⟩
theorem Step.trans {a b c : Cf} (h : Step a b) (g : Step b c) : Step a c where
  keep x n k := by
    have e := h.keep x n k
    have n' : b.H x ≠ none := h.live x n
    have k' : ¬ b.Hd x := fun z => by
      rcases h.hd x z with z | z
      · exact k z
      · exact n z
    exact (g.keep x n' k').trans e
  live x n := g.live x (h.live x n)
  fz x f := g.fz x (h.fz x f)
  fn x f := by
    rcases g.fn x f with f | f | f
    · exact h.fn x f
    · exact .inr (.inl (Classical.byContradiction fun z => h.live x z f))
    · rcases h.ow x f with f | f
      · exact .inr (.inr f)
      · exact .inr (.inl f)
  hd x f := by
    rcases g.hd x f with f | f
    · exact h.hd x f
    · exact .inr (Classical.byContradiction fun z => h.live x z f)
  ow x f := by
    rcases g.ow x f with f | f
    · exact h.ow x f
    · exact .inr (Classical.byContradiction fun z => h.live x z f)
  mu i xs e := by
    obtain ⟨ys, e1, e2⟩ := h.mu i xs e
    obtain ⟨zs, e3, e4⟩ := g.mu i ys e1
    exact ⟨zs, e3, e4.trans e2⟩
  ln := g.ln.trans h.ln

section
variable {K : PySem.W.Frag} {c c' : Cf}
theorem Sim.nohd (S : Sim K c) {a : Addr} (f : c.F a) : ¬ c.Hd a := fun ⟨i, sl, h1, h2, h3⟩ => by
  obtain ⟨v, e, r⟩ := S.slot i sl h1
  rw [h3] at e
  cases e
  cases sl with
  | val d => cases h2
  | scr d => cases h2
  | own xs =>
    obtain ⟨b, ws, e, nf, _⟩ := r
    cases e
    exact nf f
  | lent xs =>
    obtain ⟨b, ws, e, nf, _⟩ := r
    cases e
    exact nf f
theorem Sim.hdH (S : Sim K c) {a : Addr} (h : c.Hd a) : c.H a ≠ none := by
  obtain ⟨i, sl, h1, h2, h3⟩ := h
  obtain ⟨v, e, r⟩ := S.slot i sl h1
  rw [h3] at e
  cases e
  cases sl with
  | val d => cases h2
  | scr d => cases h2
  | own xs =>
    obtain ⟨b, ws, e, nf, q, _⟩ := r
    cases e
    rw [q]; simp
  | lent xs =>
    obtain ⟨b, ws, e, nf, q, _⟩ := r
    cases e
    rw [q]; simp
/-- what was frozen stays -/
theorem Step.frz (st : Step c c') (S : Sim K c) : ∀ a, c.F a → c'.F a ∧ c'.H a = c.H a := fun a f => ⟨st.fz a f, st.keep a (S.fz a f) (S.nohd f)⟩
theorem Step.rep (st : Step c c') (S : Sim K c) {d : PyData} {v : V} (r : Rep K c.H c.F d v) : Rep K c'.H c'.F d v := Rep.keep (st.frz S) d v r
theorem Step.reps (st : Step c c') (S : Sim K c) {d : List PyData} {v : List V} (r : Reps K c.H c.F d v) : Reps K c'.H c'.F d v := Reps.keep (st.frz S) d v r
end
end NL
end L2
/-! NL2: results, judgements, what heaps do. -/
namespace L2
namespace NL
open PySem PySem.Spec PyProof.Rows

/-- an exception, as plain data: its class by name, its one field -/
structure NX where
  cls : Str
  at_ : Option PyData := none
inductive R (α : Type) where
  | ok (a : α) (n : NSt) | err (x : NX) (n : NSt) | bad
def R.bind {α β : Type} (r : R α) (k : α → NSt → R β) : R β := match r with
  | .ok a n => k a n
  | .err x n => .err x n
  | .bad => .bad
inductive NR where
  | nx (n : NSt) | ret (d : PyData) (n : NSt) | brk (n : NSt) | ct (n : NSt) | err (x : NX) (n : NSt) | bad
def R.st {α : Type} (r : R α) (k : α → NSt → NR) : NR := match r with
  | .ok a n => k a n
  | .err x n => .err x n
  | .bad => .bad
abbrev NExp := NSt → R PyData
abbrev NStm := NSt → NR

def XRep (K : PySem.W.Frag) (mg : Str → Option Value) (H : Hp) (F : Fz) (x : NX) (cls : Value) (d : Option Addr) : Prop :=
  mg x.cls = some cls ∧ (∃ C, cls = .ref C) ∧ match x.at_ with
    | none => d = none
    | some p => ∃ dx v, d = some dx ∧ H dx = some (.xd [("at", v)]) ∧ Rep K H F p v

/-- what must follow a result -/
def Pst {α β : Type} (K : PySem.W.Frag) (mg : Str → Option Value) (W : WX) (rel : Cf → Cf → α → β → Prop) (c : Cf) (Q : β → Hp → Prop) : R α → Prop
  | .ok a n' => ∀ b H' F', Step c ⟨n', c.s, H', F'⟩ → Sim K ⟨n', c.s, H', F'⟩ → rel c ⟨n', c.s, H', F'⟩ a b → Q b H'
  | .err x n' => ∀ cls d H' F', Step c ⟨n', c.s, H', F'⟩ → Sim K ⟨n', c.s, H', F'⟩ → XRep K mg H' F' x cls d → W cls d c.s H'
  | .bad => False
def PstS (K : PySem.W.Frag) (mg : Str → Option Value) (W : WX) (c : Cf) (D : Ends) : NR → Prop
  | .nx n' => ∀ σ' H' F', Step c ⟨n', σ', H', F'⟩ → Sim K ⟨n', σ', H', F'⟩ → D.nx σ' H'
  | .ret a n' => ∀ v σ' H' F', Step c ⟨n', σ', H', F'⟩ → Sim K ⟨n', σ', H', F'⟩ → Rep K H' F' a v → D.rt v H'
  | .brk n' => ∀ σ' H' F', Step c ⟨n', σ', H', F'⟩ → Sim K ⟨n', σ', H', F'⟩ → D.bk σ' H'
  | .ct n' => ∀ σ' H' F', Step c ⟨n', σ', H', F'⟩ → Sim K ⟨n', σ', H', F'⟩ → D.ct σ' H'
  | .err x n' => ∀ cls d σ' H' F', Step c ⟨n', σ', H', F'⟩ → Sim K ⟨n', σ', H', F'⟩ → XRep K mg H' F' x cls d → W cls d σ' H'
  | .bad => False

abbrev Rel (α β : Type) := Cf → Cf → α → β → Prop
/-- it may begin earlier -/
def Mono {α β : Type} (rel : Rel α β) : Prop := ∀ c c1 c2 a b, Step c c1 → rel c1 c2 a b → rel c c2 a b
def relE (K : PySem.W.Frag) : Rel PyData V := fun _ c d v => Rep K c.H c.F d v
def relT : Rel Bool Bool := fun _ _ a b => a = b
/-- a new list that no slot holds -/
def relO (K : PySem.W.Frag) : Rel (List PyData) V := fun c0 c xs v => ∃ (a : Addr) (ws : List V), v = .ref a ∧ c0.H a = none ∧ ¬ c.F a ∧ c.H a = some (.lst ws) ∧ ¬ c.Hd a ∧ Reps K c.H c.F xs ws
inductive AV where
  | v (d : PyData) | o (i : Nat)
def AVRep (K : PySem.W.Frag) (c : Cf) : AV → V → Prop
  | .v d, v => Rep K c.H c.F d v
  | .o i, v => c.s[i]? = some (some v)
def relA (K : PySem.W.Frag) : Rel (List AV) (List V) := fun _ c as vs => Paired (AVRep K c) as vs
def relL (K : PySem.W.Frag) : Rel (List PyData) (List V) := fun _ c as vs => Reps K c.H c.F as vs
theorem mono_E {K : PySem.W.Frag} : Mono (relE K) := fun _ _ _ _ _ _ h => h
theorem mono_T : Mono relT := fun _ _ _ _ _ _ h => h
theorem mono_A {K : PySem.W.Frag} : Mono (relA K) := fun _ _ _ _ _ _ h => h
theorem mono_L {K : PySem.W.Frag} : Mono (relL K) := fun _ _ _ _ _ _ h => h
theorem mono_O {K : PySem.W.Frag} : Mono (relO K) := fun _ _ _ _ _ st ⟨a, ws, e, h0, r⟩ => ⟨a, ws, e, Classical.byContradiction fun z => st.live a z h0, r⟩

section
variable {K : PySem.W.Frag} {mg : Str → Option Value} {W : WX} {α β γ δ : Type}
theorem Pst.step {rel : Rel α β} (mo : Mono rel) {c c1 : Cf} {Q : β → Hp → Prop} (hs : c1.s = c.s) (st : Step c c1) {r : R α} (h : Pst K mg W rel c Q r) : Pst K mg W rel c1 Q r := by
  cases r with
  | ok a n =>
    intro b H' F' s1 S1 r1
    rw [hs] at s1 S1 r1
    exact h b H' F' (st.trans s1) S1 (mo _ _ _ _ _ st r1)
  | err x n =>
    intro cls d H' F' s1 S1 r1
    rw [hs] at s1 S1 ⊢
    exact h cls d H' F' (st.trans s1) S1 r1
  | bad => exact h
theorem PstS.step {c c1 : Cf} {D : Ends} (st : Step c c1) {r : NR} (h : PstS K mg W c D r) : PstS K mg W c1 D r := by
  cases r with
  | nx n => exact fun σ' H' F' s1 S1 => h σ' H' F' (st.trans s1) S1
  | ret d n => exact fun v σ' H' F' s1 S1 => h v σ' H' F' (st.trans s1) S1
  | brk n => exact fun σ' H' F' s1 S1 => h σ' H' F' (st.trans s1) S1
  | ct n => exact fun σ' H' F' s1 S1 => h σ' H' F' (st.trans s1) S1
  | err x n => exact fun cls d σ' H' F' s1 S1 => h cls d σ' H' F' (st.trans s1) S1
  | bad => exact h
/-- one after the other -/
theorem Pst.seq {rel : Rel α β} {rel' : Rel γ δ} (mo : Mono rel') {c : Cf} {Q : β → Hp → Prop} {Q' : δ → Hp → Prop} {r : R α} {k : α → NSt → R γ} (h : Pst K mg W rel' c Q' (r.bind k))
    (hk : ∀ a n' b H' F', r = .ok a n' → Step c ⟨n', c.s, H', F'⟩ → Sim K ⟨n', c.s, H', F'⟩ → rel c ⟨n', c.s, H', F'⟩ a b → Pst K mg W rel' ⟨n', c.s, H', F'⟩ Q' (k a n') → Q b H') : Pst K mg W rel c Q r := by
  cases r with
  | ok a n =>
    intro b H' F' s1 S1 r1
    exact hk a n b H' F' rfl s1 S1 r1 (Pst.step (c := c) (c1 := ⟨n, c.s, H', F'⟩) mo rfl s1 h)
  | err x n => exact h
  | bad => exact h
theorem Pst.seqS {rel : Rel α β} {c : Cf} {Q : β → Hp → Prop} {D : Ends} {r : R α} {k : α → NSt → NR} (h : PstS K mg W c D (r.st k))
    (hk : ∀ a n' b H' F', r = .ok a n' → Step c ⟨n', c.s, H', F'⟩ → Sim K ⟨n', c.s, H', F'⟩ → rel c ⟨n', c.s, H', F'⟩ a b → PstS K mg W ⟨n', c.s, H', F'⟩ D (k a n') → Q b H') : Pst K mg W rel c Q r := by
  cases r with
  | ok a n =>
    intro b H' F' s1 S1 r1
    exact hk a n b H' F' rfl s1 S1 r1 (PstS.step (c := c) (c1 := ⟨n, c.s, H', F'⟩) s1 h)
  | err x n => exact fun cls d H' F' s1 S1 r1 => h cls d c.s H' F' s1 S1 r1
  | bad => exact h
end

/-! ### what heaps do -/
section
variable {K : PySem.W.Frag} {c : Cf}
theorem SlRep.keep {c c' : Cf} (S : Sim K c) (fr : ∀ a, c.F a → c'.F a ∧ c'.H a = c.H a) (k : ∀ a, c.H a ≠ none → c'.H a = c.H a) (g : ∀ a, c'.F a → c.F a ∨ c.H a = none) {sl : Sl} {v : V} (r : SlRep K c.H c.F sl v) : SlRep K c'.H c'.F sl v := by
  cases sl with
  | val d => exact Rep.keep fr d v r
  | own xs =>
    obtain ⟨a, ws, e, nf, q, z⟩ := r
    have n : c.H a ≠ none := by rw [q]; simp
    refine ⟨a, ws, e, fun f => ?_, (k a n).trans q, Reps.keep fr xs ws z⟩
    rcases g a f with f | f
    · exact nf f
    · exact n f
  | lent xs =>
    obtain ⟨a, ws, e, nf, q, z⟩ := r
    have n : c.H a ≠ none := by rw [q]; simp
    refine ⟨a, ws, e, fun f => ?_, (k a n).trans q, Reps.keep fr xs ws z⟩
    rcases g a f with f | f
    · exact nf f
    · exact n f
  | scr xs =>
    obtain ⟨a, ns, e, e2, z⟩ := r
    refine ⟨a, ns, e, e2, ?_⟩
    rcases z with ⟨o, z⟩ | z
    · exact .inl ⟨o, (k a (by rw [z]; simp)).trans z⟩
    · exact .inr z
/-- new things are laid, some of them frozen -/
theorem Sim.ext (S : Sim K c) {H' : Hp} {F' : Fz} (k : ∀ a, c.H a ≠ none → H' a = c.H a) (f : ∀ a, c.F a → F' a) (g : ∀ a, F' a → c.F a ∨ (c.H a = none ∧ H' a ≠ none)) :
    Sim K ⟨c.n, c.s, H', F'⟩ ∧ Step c ⟨c.n, c.s, H', F'⟩ := by
  refine ⟨⟨S.len, fun i sl e => ?_, S.sep, fun a h => ?_⟩, ⟨fun a n _ => k a n, fun a n => by show H' a ≠ none; rw [k a n]; exact n, f, fun a h => ?_, fun a h => .inl h, fun a h => .inl h, fun i xs e => ⟨xs, e, rfl⟩, rfl⟩⟩
  · obtain ⟨v, e1, r⟩ := S.slot i sl e
    exact ⟨v, e1, SlRep.keep (c' := ⟨c.n, c.s, H', F'⟩) S (fun a h => ⟨f a h, k a (S.fz a h)⟩) k (fun a h => (g a h).elim .inl fun z => .inr z.1) r⟩
  · rcases g a h with z | z
    · show H' a ≠ none
      rw [k a (S.fz a z)]; exact S.fz a z
    · exact z.2
  · rcases g a h with z | z
    · exact .inl z
    · exact .inr (.inl z.1)
def orEq (F : Fz) (p : Addr) : Fz := fun a => F a ∨ a = p
theorem upd_old {H : Hp} {p : Addr} {o : HO} (hp : H p = none) : ∀ a, H a ≠ none → upd H p o a = H a := fun a n => upd_ne fun z => n (by rw [z]; exact hp)
/-- a new tuple -/
theorem Sim.newTup (S : Sim K c) {p : Addr} {ws : List V} {ds : List PyData} (hp : c.H p = none) (r : Reps K c.H c.F ds ws) :
    let c' : Cf := ⟨c.n, c.s, upd c.H p (.tup ws), orEq c.F p⟩; Sim K c' ∧ Step c c' ∧ Rep K c'.H c'.F (.tuple ds) (.ref p) := by
  intro c'
  obtain ⟨h1, h2⟩ := S.ext (H' := upd c.H p (.tup ws)) (F' := orEq c.F p) (upd_old hp) (fun _ h => .inl h) fun a h => h.elim .inl fun z => .inr (by subst z; exact ⟨hp, by rw [upd_same]; simp⟩)
  exact ⟨h1, h2, Rep.mkTup (.inr rfl) upd_same (h2.reps S r)⟩
/-- a new list, held by none -/
theorem Sim.newLst (S : Sim K c) {p : Addr} {ws : List V} {ds : List PyData} (hp : c.H p = none) (r : Reps K c.H c.F ds ws) :
    let c' : Cf := ⟨c.n, c.s, upd c.H p (.lst ws), c.F⟩; Sim K c' ∧ Step c c' ∧ relO K c c' ds (.ref p) := by
  intro c'
  obtain ⟨h1, h2⟩ := S.ext (H' := upd c.H p (.lst ws)) (F' := c.F) (upd_old hp) (fun _ h => h) fun a h => .inl h
  refine ⟨h1, h2, p, ws, rfl, hp, fun f => S.fz p f hp, upd_same, fun hd => ?_, h2.reps S r⟩
  exact S.hdH (show c.Hd p from hd) hp
/-- a list that none holds is frozen -/
theorem Sim.freeze {c c0 : Cf} (S0 : Sim K c0) (st : Step c0 c) (S : Sim K c) {ds : List PyData} {v : V} (r : relO K c0 c ds v) :
    ∃ F', let c' : Cf := ⟨c.n, c.s, c.H, F'⟩; Sim K c' ∧ Step c0 c' ∧ Rep K c'.H c'.F (.list ds) v := by
  obtain ⟨p, ws, rfl, h0, nf, hH, nh, r⟩ := r
  refine ⟨orEq c.F p, ?_⟩
  have fr : ∀ a, c.F a → orEq c.F p a ∧ c.H a = c.H a := fun a f => ⟨.inl f, rfl⟩
  refine ⟨⟨S.len, fun i sl e => ?_, S.sep, fun a h => ?_⟩, ⟨st.keep, st.live, fun a f => .inl (st.fz a f), fun a h => ?_, st.hd, st.ow, st.mu, st.ln⟩, Rep.mkList (.inr rfl) hH (Reps.keep fr _ _ r)⟩
  · obtain ⟨v, e1, q⟩ := S.slot i sl e
    refine ⟨v, e1, ?_⟩
    have hne : sl.held = true → v ≠ .ref p := fun hh z => nh ⟨i, sl, e, hh, by rw [e1, z]⟩
    cases sl with
    | val d => exact Rep.keep fr d v q
    | scr d => exact q
    | own xs =>
      obtain ⟨a, us, e3, nfa, q1, q2⟩ := q
      subst e3
      refine ⟨a, us, rfl, fun z => ?_, q1, Reps.keep fr _ _ q2⟩
      rcases z with z | z
      · exact nfa z
      · subst z; exact hne rfl rfl
    | lent xs =>
      obtain ⟨a, us, e3, nfa, q1, q2⟩ := q
      subst e3
      refine ⟨a, us, rfl, fun z => ?_, q1, Reps.keep fr _ _ q2⟩
      rcases z with z | z
      · exact nfa z
      · subst z; exact hne rfl rfl
  · rcases h with h | h
    · exact S.fz a h
    · subst h
      show c.H a ≠ none
      rw [hH]; simp
  · rcases h with h | h
    · exact st.fn a h
    · subst h; exact .inr (.inl h0)

theorem getD_set_self {n : NSt} {i : Nat} {x : Option Sl} (h : i < n.length) : (n.set i x)[i]? = some x := List.getElem?_set_self h
theorem lt_of_get {α : Type} {l : List α} {i : Nat} {x : α} (h : l[i]? = some x) : i < l.length := (List.getElem?_eq_some_iff.mp h).1
def notLent (n : NSt) (i : Nat) : Bool := match n[i]? with
  | some (some (.lent _)) => false
  | some _ => true
  | none => false
theorem notLent_ok {n : NSt} {i : Nat} (h : notLent n i = true) : i < n.length ∧ ∀ xs, n[i]? ≠ some (some (.lent xs)) := by
  unfold notLent at h
  cases q : n[i]? with
  | none => rw [q] at h; cases h
  | some o =>
    refine ⟨lt_of_get q, fun xs e => ?_⟩
    have e2 : o = some (.lent xs) := Option.some.inj e
    subst e2
    rw [q] at h; cases h
/-- a slot takes a value -/
theorem Sim.setVal (S : Sim K c) {i : Nat} {d : PyData} {v : V} (hl : notLent c.n i = true) (r : Rep K c.H c.F d v) :
    let c' : Cf := ⟨c.n.set i (some (.val d)), c.s.set i (some v), c.H, c.F⟩; Sim K c' ∧ Step c c' := by
  intro c'
  obtain ⟨hi, nl⟩ := notLent_ok hl
  have hi' : i < c.s.length := by rw [← S.len]; exact hi
  have old : ∀ j sl, (c.n.set i (some (.val d)))[j]? = some (some sl) → sl.held = true → j ≠ i ∧ c.n[j]? = some (some sl) := fun j sl e hh => by
    by_cases hj : i = j
    · subst hj
      rw [List.getElem?_set_self hi] at e
      cases e; cases hh
    · rw [List.getElem?_set_ne hj] at e
      exact ⟨fun z => hj z.symm, e⟩
  have oldS : ∀ {j a}, j ≠ i → (c.s.set i (some v))[j]? = some (some (V.ref a)) → c.s[j]? = some (some (V.ref a)) := fun hj e => by
    rw [List.getElem?_set_ne (Ne.symm hj)] at e; exact e
  have hd : ∀ a, c'.Hd a → c.Hd a := fun a ⟨j, sl, e, hh, es⟩ => by
    obtain ⟨hj, e1⟩ := old j sl e hh
    exact ⟨j, sl, e1, hh, oldS hj es⟩
  have ow : ∀ a, c'.Ow a → c.Ow a := fun a ⟨j, xs, e, es⟩ => by
    obtain ⟨hj, e1⟩ := old j _ e rfl
    exact ⟨j, xs, e1, oldS hj es⟩
  refine ⟨⟨by simp [c', S.len], fun j sl e => ?_, fun j k sj sk a e1 e2 h1 h2 q1 q2 => ?_, S.fz⟩, ⟨fun _ _ _ => rfl, fun _ h => h, fun _ h => h, fun _ h => .inl h, fun a h => .inl (hd a h), fun a h => .inl (ow a h), fun j xs e => ?_, by simp [c']⟩⟩
  · show ∃ w, (c.s.set i (some v))[j]? = some (some w) ∧ _
    by_cases hj : i = j
    · subst hj
      have e' : (c.n.set i (some (.val d)))[i]? = some (some sl) := e
      rw [List.getElem?_set_self hi] at e'
      cases e'
      exact ⟨v, List.getElem?_set_self hi', r⟩
    · have e' : (c.n.set i (some (.val d)))[j]? = some (some sl) := e
      rw [List.getElem?_set_ne hj] at e'
      rw [List.getElem?_set_ne hj]
      exact S.slot j sl e'
  · obtain ⟨hj, e1⟩ := old j sj e1 h1
    obtain ⟨hk, e2⟩ := old k sk e2 h2
    exact S.sep j k sj sk a e1 e2 h1 h2 (oldS hj q1) (oldS hk q2)
  · have hj : i ≠ j := fun z => by subst z; exact nl xs e
    exact ⟨xs, by show (c.n.set i _)[j]? = _; rw [List.getElem?_set_ne hj]; exact e, by show (c.s.set i _)[j]? = _; rw [List.getElem?_set_ne hj]⟩
/-- a slot takes a new list as its own -/
theorem Sim.setOwn {c0 : Cf} (st : Step c0 c) (S : Sim K c) {i : Nat} {ds : List PyData} {v : V} (hl : notLent c.n i = true) (r : relO K c0 c ds v) :
    let c' : Cf := ⟨c.n.set i (some (.own ds)), c.s.set i (some v), c.H, c.F⟩; Sim K c' ∧ Step c0 c' := by
  intro c'
  obtain ⟨p, ws, rfl, h0, nf, hH, nh, r⟩ := r
  obtain ⟨hi, nl⟩ := notLent_ok hl
  have hi' : i < c.s.length := by rw [← S.len]; exact hi
  have old : ∀ j sl, j ≠ i → (c.n.set i (some (.own ds)))[j]? = some (some sl) → c.n[j]? = some (some sl) := fun j sl hj e => by
    rw [List.getElem?_set_ne (Ne.symm hj)] at e; exact e
  have oldS : ∀ {j a}, j ≠ i → (c.s.set i (some (V.ref p)))[j]? = some (some (V.ref a)) → c.s[j]? = some (some (V.ref a)) := fun hj e => by
    rw [List.getElem?_set_ne (Ne.symm hj)] at e; exact e
  have atI : ∀ {a}, (c.s.set i (some (V.ref p)))[i]? = some (some (V.ref a)) → a = p := fun e => by
    rw [List.getElem?_set_self hi'] at e
    cases e; rfl
  have hd : ∀ a, c'.Hd a → c.Hd a ∨ a = p := fun a ⟨j, sl, e, hh, es⟩ => by
    by_cases hj : j = i
    · subst hj; exact .inr (atI es)
    · exact .inl ⟨j, sl, old j sl hj e, hh, oldS hj es⟩
  have ow : ∀ a, c'.Ow a → c.Ow a ∨ a = p := fun a ⟨j, xs, e, es⟩ => by
    by_cases hj : j = i
    · subst hj; exact .inr (atI es)
    · exact .inl ⟨j, xs, old j _ hj e, oldS hj es⟩
  have st2 : Step c c → True := fun _ => trivial
  refine ⟨⟨by simp [c', S.len], fun j sl e => ?_, fun j k sj sk a e1 e2 h1 h2 q1 q2 => ?_, S.fz⟩, ⟨st.keep, st.live, st.fz, st.fn, fun a h => ?_, fun a h => ?_, fun j xs e => ?_, by show (c.n.set i _).length = _; rw [List.length_set]; exact st.ln⟩⟩
  · show ∃ w, (c.s.set i (some (V.ref p)))[j]? = some (some w) ∧ _
    by_cases hj : j = i
    · subst hj
      have e' : (c.n.set j (some (.own ds)))[j]? = some (some sl) := e
      rw [List.getElem?_set_self hi] at e'
      cases e'
      exact ⟨_, List.getElem?_set_self hi', p, ws, rfl, nf, hH, r⟩
    · have e' := old j sl hj e
      rw [List.getElem?_set_ne (Ne.symm hj)]
      exact S.slot j sl e'
  · by_cases hj : j = i
    · by_cases hk : k = i
      · rw [hj, hk]
      · subst hj
        have z := atI q1
        subst z
        exact (nh ⟨k, sk, old k sk hk e2, h2, oldS hk q2⟩).elim
    · by_cases hk : k = i
      · subst hk
        have z := atI q2
        subst z
        exact (nh ⟨j, sj, old j sj hj e1, h1, oldS hj q1⟩).elim
      · exact S.sep j k sj sk a (old j sj hj e1) (old k sk hk e2) h1 h2 (oldS hj q1) (oldS hk q2)
  · rcases hd a h with z | z
    · exact st.hd a z
    · subst z; exact .inr h0
  · rcases ow a h with z | z
    · exact st.ow a z
    · subst z; exact .inr h0
  · obtain ⟨ys, e1, e2⟩ := st.mu j xs e
    have hj : i ≠ j := fun z => by subst z; exact nl ys e1
    exact ⟨ys, by show (c.n.set i _)[j]? = _; rw [List.getElem?_set_ne hj]; exact e1, by show (c.s.set i _)[j]? = _; rw [List.getElem?_set_ne hj]; exact e2⟩
def Sl.put (sl : Sl) (ys : List PyData) : Sl := match sl with
  | .own _ => .own ys
  | .lent _ => .lent ys
  | s => s
def Sl.list? : Sl → Option (List PyData)
  | .own xs => some xs
  | .lent xs => some xs
  | _ => none
/-- what a held slot holds -/
theorem Sim.held (S : Sim K c) {i : Nat} {sl : Sl} {xs : List PyData} (e : c.n[i]? = some (some sl)) (h : sl.list? = some xs) :
    sl.held = true ∧ ∃ a ws, c.s[i]? = some (some (.ref a)) ∧ ¬ c.F a ∧ c.H a = some (.lst ws) ∧ Reps K c.H c.F xs ws := by
  obtain ⟨v, e1, r⟩ := S.slot i sl e
  cases sl with
  | val d => cases h
  | scr d => cases h
  | own ys =>
    cases h
    obtain ⟨a, ws, rfl, q⟩ := r
    exact ⟨rfl, a, ws, e1, q⟩
  | lent ys =>
    cases h
    obtain ⟨a, ws, rfl, q⟩ := r
    exact ⟨rfl, a, ws, e1, q⟩
/-- a held list is changed -/
theorem Sim.write (S : Sim K c) {i : Nat} {sl : Sl} {a : Addr} {ws us : List V} {ys : List PyData} (e : c.n[i]? = some (some sl)) (hh : sl.held = true) (es : c.s[i]? = some (some (.ref a))) (nf : ¬ c.F a) (hH : c.H a = some (.lst ws)) (r : Reps K c.H c.F ys us) :
    let c' : Cf := ⟨c.n.set i (some (sl.put ys)), c.s, upd c.H a (.lst us), c.F⟩; Sim K c' ∧ Step c c' := by
  intro c'
  have hi : i < c.n.length := lt_of_get e
  have hput : (sl.put ys).held = true := by cases sl <;> first | rfl | exact hh
  have fr : ∀ b, c.F b → c.F b ∧ upd c.H a (.lst us) b = c.H b := fun b f => ⟨f, upd_ne fun z => by subst z; exact nf f⟩
  have old : ∀ j sj, j ≠ i → c'.n[j]? = some (some sj) → c.n[j]? = some (some sj) := fun j sj hj q => by
    have q' : (c.n.set i (some (sl.put ys)))[j]? = some (some sj) := q
    rw [List.getElem?_set_ne (Ne.symm hj)] at q'; exact q'
  have hdI : c.Hd a := ⟨i, sl, e, hh, es⟩
  have hd : ∀ b, c'.Hd b → c.Hd b := fun b ⟨j, sj, q, qh, qs⟩ => by
    by_cases hj : j = i
    · subst hj
      exact ⟨j, sl, e, hh, qs⟩
    · exact ⟨j, sj, old j sj hj q, qh, qs⟩
  have ow : ∀ b, c'.Ow b → c.Ow b := fun b ⟨j, xs, q, qs⟩ => by
    by_cases hj : j = i
    · subst hj
      have q' : (c.n.set j (some (sl.put ys)))[j]? = some (some (.own xs)) := q
      rw [List.getElem?_set_self hi] at q'
      cases sl with
      | own zs => exact ⟨j, zs, e, qs⟩
      | lent zs => cases q'
      | val d => cases hh
      | scr d => cases hh
    · exact ⟨j, xs, old j _ hj q, qs⟩
  refine ⟨⟨by simp [c', S.len], fun j sj q => ?_, fun j k sj sk b e1 e2 h1 h2 q1 q2 => ?_, fun b f => ?_⟩, ⟨fun b n nh => upd_ne fun z => by subst z; exact nh hdI, fun b n => ?_, fun _ h => h, fun _ h => .inl h, fun b h => .inl (hd b h), fun b h => .inl (ow b h), fun j xs q => ?_, by simp [c']⟩⟩
  · show ∃ w, c.s[j]? = some (some w) ∧ SlRep K (upd c.H a (.lst us)) c.F sj w
    by_cases hj : j = i
    · subst hj
      have q' : (c.n.set j (some (sl.put ys)))[j]? = some (some sj) := q
      rw [List.getElem?_set_self hi] at q'
      cases q'
      refine ⟨_, es, ?_⟩
      have rr : Reps K (upd c.H a (.lst us)) c.F ys us := Reps.keep fr _ _ r
      cases sl with
      | own zs => exact ⟨a, us, rfl, nf, upd_same, rr⟩
      | lent zs => exact ⟨a, us, rfl, nf, upd_same, rr⟩
      | val d => cases hh
      | scr d => cases hh
    · obtain ⟨w, w1, rw'⟩ := S.slot j sj (old j sj hj q)
      refine ⟨w, w1, ?_⟩
      have ne : sj.held = true → ∀ b, w = .ref b → b ≠ a := fun sh b z zz => by
        subst z; subst zz
        exact hj (S.sep j i sj sl b (old j sj hj q) e sh hh w1 es)
      cases sj with
      | val d => exact Rep.keep fr d w rw'
      | own zs =>
        obtain ⟨b, vs, rfl, nb, hb, rb⟩ := rw'
        exact ⟨b, vs, rfl, nb, (upd_ne (ne rfl b rfl)).trans hb, Reps.keep fr _ _ rb⟩
      | lent zs =>
        obtain ⟨b, vs, rfl, nb, hb, rb⟩ := rw'
        exact ⟨b, vs, rfl, nb, (upd_ne (ne rfl b rfl)).trans hb, Reps.keep fr _ _ rb⟩
      | scr zs =>
        obtain ⟨b, ns, rfl, e3, z⟩ := rw'
        refine ⟨b, ns, rfl, e3, ?_⟩
        rcases z with ⟨o, z⟩ | z
        · refine .inl ⟨o, (upd_ne fun y => ?_).trans z⟩
          subst y; rw [hH] at z; cases z
        · exact .inr z
  · have low : ∀ (j : Nat) (sj : Sl), c'.n[j]? = some (some sj) → sj.held = true → ∃ s' : Sl, c.n[j]? = some (some s') ∧ s'.held = true := fun j sj q qh => by
      by_cases hj : j = i
      · subst hj; exact ⟨sl, e, hh⟩
      · exact ⟨sj, old j sj hj q, qh⟩
    obtain ⟨s1, z1, y1⟩ := low j sj e1 h1
    obtain ⟨s2, z2, y2⟩ := low k sk e2 h2
    exact S.sep j k s1 s2 b z1 z2 y1 y2 q1 q2
  · show upd c.H a (.lst us) b ≠ none
    rw [(fr b f).2]; exact S.fz b f
  · show upd c.H a (.lst us) b ≠ none
    by_cases hb : b = a
    · subst hb; rw [upd_same]; simp
    · rw [upd_ne hb]; exact n
  · by_cases hj : j = i
    · subst hj
      rw [e] at q
      cases q
      exact ⟨ys, by show (c.n.set j _)[j]? = _; rw [List.getElem?_set_self hi]; rfl, rfl⟩
    · exact ⟨xs, by show (c.n.set i _)[j]? = _; rw [List.getElem?_set_ne (Ne.symm hj)]; exact q, rfl⟩
/-- an own list is frozen where it stands -/
theorem Sim.frzSlot (S : Sim K c) {i : Nat} {xs : List PyData} (e : c.n[i]? = some (some (.own xs))) :
    ∃ a F', c.s[i]? = some (some (.ref a)) ∧ (let c' : Cf := ⟨c.n.set i (some (.val (.list xs))), c.s, c.H, F'⟩; Sim K c' ∧ Step c c' ∧ Rep K c'.H c'.F (.list xs) (.ref a)) := by
  obtain ⟨_, a, ws, es, nf, hH, r⟩ := S.held e rfl
  have hi : i < c.n.length := lt_of_get e
  have fr : ∀ b, c.F b → orEq c.F a b ∧ c.H b = c.H b := fun b f => ⟨.inl f, rfl⟩
  refine ⟨a, orEq c.F a, es, ?_⟩
  intro c'
  have rep : Rep K c.H (orEq c.F a) (.list xs) (.ref a) := Rep.mkList (.inr rfl) hH (Reps.keep fr _ _ r)
  have old : ∀ j sj, c'.n[j]? = some (some sj) → sj.held = true → j ≠ i ∧ c.n[j]? = some (some sj) := fun j sj q qh => by
    have q' : (c.n.set i (some (.val (.list xs))))[j]? = some (some sj) := q
    by_cases hj : i = j
    · subst hj
      rw [List.getElem?_set_self hi] at q'
      cases q'; cases qh
    · rw [List.getElem?_set_ne hj] at q'
      exact ⟨fun z => hj z.symm, q'⟩
  refine ⟨⟨by simp [c', S.len], fun j sj q => ?_, fun j k sj sk b e1 e2 h1 h2 q1 q2 => ?_, fun b f => ?_⟩, ⟨fun _ _ _ => rfl, fun _ h => h, fun b h => .inl h, fun b h => ?_, fun b h => ?_, fun b h => ?_, fun j ys q => ?_, by simp [c']⟩, rep⟩
  · show ∃ w, c.s[j]? = some (some w) ∧ SlRep K c.H (orEq c.F a) sj w
    by_cases hj : i = j
    · subst hj
      have q' : (c.n.set i (some (.val (.list xs))))[i]? = some (some sj) := q
      rw [List.getElem?_set_self hi] at q'
      cases q'
      exact ⟨_, es, rep⟩
    · have q' : (c.n.set i (some (.val (.list xs))))[j]? = some (some sj) := q
      rw [List.getElem?_set_ne hj] at q'
      obtain ⟨w, w1, rw'⟩ := S.slot j sj q'
      refine ⟨w, w1, ?_⟩
      have ne : sj.held = true → ∀ b, w = .ref b → b ≠ a := fun sh b z zz => by
        subst z; subst zz
        exact hj (S.sep i j _ sj b e q' rfl sh es w1)
      cases sj with
      | val d => exact Rep.keep fr d w rw'
      | own zs =>
        obtain ⟨b, vs, rfl, nb, hb, rb⟩ := rw'
        exact ⟨b, vs, rfl, fun z => z.elim nb (ne rfl b rfl), hb, Reps.keep fr _ _ rb⟩
      | lent zs =>
        obtain ⟨b, vs, rfl, nb, hb, rb⟩ := rw'
        exact ⟨b, vs, rfl, fun z => z.elim nb (ne rfl b rfl), hb, Reps.keep fr _ _ rb⟩
      | scr zs => exact rw'
  · obtain ⟨_, e1⟩ := old j sj e1 h1
    obtain ⟨_, e2⟩ := old k sk e2 h2
    exact S.sep j k sj sk b e1 e2 h1 h2 q1 q2
  · rcases f with f | f
    · exact S.fz b f
    · subst f
      show c.H b ≠ none
      rw [hH]; simp
  · rcases h with h | h
    · exact .inl h
    · subst h; exact .inr (.inr ⟨i, xs, e, es⟩)
  · obtain ⟨j, sj, q, qh, qs⟩ := h
    obtain ⟨_, q1⟩ := old j sj q qh
    exact .inl ⟨j, sj, q1, qh, qs⟩
  · obtain ⟨j, ys, q, qs⟩ := h
    obtain ⟨_, q1⟩ := old j _ q rfl
    exact .inl ⟨j, ys, q1, qs⟩
  · have hj : i ≠ j := fun z => by subst z; rw [e] at q; cases q
    exact ⟨ys, by show (c.n.set i _)[j]? = _; rw [List.getElem?_set_ne hj]; exact q, rfl⟩
end
end NL
end L2
/-! NL3: expressions. -/
namespace L2
namespace NL
open PySem PySem.Spec PyProof.Rows

/-- a value, or a held list read where it stands -/
def Rep1 (K : PySem.W.Frag) (H : Hp) (F : Fz) (d : PyData) (v : V) : Prop :=
  Rep K H F d v ∨ ∃ (a : Addr) (ws : List V) (xs : List PyData), d = .list xs ∧ v = .ref a ∧ H a = some (.lst ws) ∧ Reps K H F xs ws
def Reps1 (K : PySem.W.Frag) (H : Hp) (F : Fz) (ds : List PyData) (vs : List V) : Prop := Paired (Rep1 K H F) ds vs
section
variable {K : PySem.W.Frag} {H : Hp} {F : Fz}
theorem Rep1.dp {d : PyData} {v : V} (r : Rep1 K H F d v) (l : d.canLay0 = true) : Dp K H v d := by
  rcases r with r | ⟨a, ws, xs, rfl, rfl, h, r⟩
  · exact Rep.dp d v r l
  · unfold PyData.canLay0 at l
    exact .lst (SqL.of h) (Reps.dp xs ws r l)
theorem Rep1.int {i : Int} {v : V} (r : Rep1 K H F (.int i) v) : v = .int i := by
  rcases r with r | ⟨a, ws, xs, e, _⟩
  · exact r.int
  · cases e
theorem Rep1.bool {i : Bool} {v : V} (r : Rep1 K H F (.bool i) v) : v = .bl i := by
  rcases r with r | ⟨a, ws, xs, e, _⟩
  · exact r.bool
  · cases e
theorem Rep1.str {i : Str} {v : V} (r : Rep1 K H F (.str i) v) : v = .str i := by
  rcases r with r | ⟨a, ws, xs, e, _⟩
  · exact r.str
  · cases e
theorem Rep1.none {v : V} (r : Rep1 K H F .none v) : v = .non := by
  rcases r with r | ⟨a, ws, xs, e, _⟩
  · exact r.none
  · cases e
theorem Rep1.tuple {ds : List PyData} {v : V} (r : Rep1 K H F (.tuple ds) v) : ∃ a xs, v = .ref a ∧ SqT K H a xs ∧ Reps K H F ds xs := by
  rcases r with r | ⟨a, ws, xs, e, _⟩
  · exact r.tuple
  · cases e
theorem Rep1.list {ds : List PyData} {v : V} (r : Rep1 K H F (.list ds) v) : ∃ a xs, v = .ref a ∧ H a = some (.lst xs) ∧ Reps K H F ds xs := by
  rcases r with r | ⟨a, ws, xs, e, e2, h, r⟩
  · obtain ⟨a, xs, e, _, h, r⟩ := r.list
    exact ⟨a, xs, e, h, r⟩
  · cases e
    exact ⟨a, ws, e2, h, r⟩
theorem Rep1.dict {ds : List (PyData × PyData)} {v : V} (r : Rep1 K H F (.dict ds) v) : Rep K H F (.dict ds) v := by
  rcases r with r | ⟨a, ws, xs, e, _⟩
  · exact r
  · cases e
end

/-- an operand: an expression, or a held slot -/
inductive Opd where
  | e (f : NExp) | o (i : Nat)
def Opd.run (p : Opd) (n : NSt) : R AV := match p with
  | .e f => (f n).bind fun d n' => .ok (.v d) n'
  | .o i => match n[i]? with
    | some (some (.val d)) => .ok (.v d) n
    | some (some _) => .ok (.o i) n
    | _ => .bad
def AV.get (a : AV) (n : NSt) : Option PyData := match a with
  | .v d => some d
  | .o i => match n[i]? with
    | some (some sl) => sl.list?.map PyData.list
    | _ => none
def liftO {α : Type} (o : Option α) (n : NSt) : R α := match o with
  | some z => .ok z n
  | none => .bad
structure NE (X : Cx) (W : WX) (e : Expr) (f : NExp) : Prop where
  ex : ∃ t, PE X e t ∧ ∀ (c : Cf) (Q : VK), Sim X.K c → Pst X.K X.mg W (relE X.K) c Q (f c.n) → t c.s c.H Q
structure NEo (X : Cx) (W : WX) (e : Expr) (f : NSt → R (List PyData)) : Prop where
  ex : ∃ t, PE X e t ∧ ∀ (c : Cf) (Q : VK), Sim X.K c → Pst X.K X.mg W (relO X.K) c Q (f c.n) → t c.s c.H Q
def relV (K : PySem.W.Frag) : Rel AV V := fun _ c a v => AVRep K c a v
theorem mono_V {K : PySem.W.Frag} : Mono (relV K) := fun _ _ _ _ _ _ h => h
structure NO (X : Cx) (W : WX) (e : Expr) (p : Opd) : Prop where
  ex : ∃ t, PE X e t ∧ ∀ (c : Cf) (Q : VK), Sim X.K c → Pst X.K X.mg W (relV X.K) c Q (p.run c.n) → t c.s c.H Q
structure NT (X : Cx) (W : WX) (e : Expr) (f : NSt → R Bool) : Prop where
  ex : ∃ t, PT X e t ∧ ∀ (c : Cf) (Q : Bool → Hp → Prop), Sim X.K c → Pst X.K X.mg W relT c Q (f c.n) → t c.s c.H Q
structure NA (X : Cx) (W : WX) (es : List Expr) (f : NSt → R (List AV)) : Prop where
  ex : ∃ t, PA X es t ∧ ∀ (c : Cf) (Q : List V → Hp → Prop), Sim X.K c → Pst X.K X.mg W (relA X.K) c Q (f c.n) → t c.s c.H Q

section
variable {X : Cx} {W : WX} {e e2 : Expr} {f g : NExp}
theorem Sim.avGet {K : PySem.W.Frag} {c : Cf} (S : Sim K c) {a : AV} {d : PyData} {v : V} (r : AVRep K c a v) (h : a.get c.n = some d) : Rep1 K c.H c.F d v := by
  cases a with
  | v x =>
    have e : x = d := Option.some.inj h
    subst e
    exact .inl r
  | o i =>
    unfold AV.get at h
    dsimp only at h
    split at h
    · rename_i sl q
      cases z : sl.list? with
      | none => rw [z] at h; cases h
      | some xs =>
        rw [z] at h
        have e : PyData.list xs = d := Option.some.inj h
        subst e
        obtain ⟨_, b, ws, es, _, hH, rr⟩ := S.held q z
        have r' : c.s[i]? = some (some v) := r
        rw [es] at r'
        cases r'
        exact .inr ⟨b, ws, xs, rfl, rfl, hH, rr⟩
    · cases h
theorem AVRep.step {K : PySem.W.Frag} {c c' : Cf} (st : Step c c') (S : Sim K c) (hs : c'.s = c.s) {a : AV} {v : V} (r : AVRep K c a v) : AVRep K c' a v := by
  cases a with
  | v d => exact st.rep S r
  | o i =>
    show c'.s[i]? = some (some v)
    rw [hs]; exact r

theorem no_e (h : NE X W e f) : NO X W e (.e f) := by
  obtain ⟨t, pe, s⟩ := h.ex
  refine ⟨t, pe, fun c Q S p => s c Q S ?_⟩
  exact Pst.seq (rel := relE X.K) (rel' := relV X.K) mono_V p fun d n' v H' F' _ st S' r q => q v H' F' (Step.refl _) S' r
theorem no_o (i : Nat) {x : Str} {pos : Pos} (hN : X.N[i]? = some x := by rfl) (hv : Vis X.env.scope x := by first | exact Or.inl rfl | exact Or.inr (Or.inl rfl) | exact Or.inr (Or.inr rfl)) (hd : (x == ("__debug__" : Str)) = false := by decide)
    (hcd : (x == ("__classdict__" : Str)) = false := by decide) : NO X W (.Name x pos) (.o i) := by
  refine ⟨tVar i, pe_var hN hv hd hcd, fun c Q S p => ?_⟩
  unfold Opd.run at p
  dsimp only at p
  split at p
  · rename_i d e
    obtain ⟨v, e1, r⟩ := S.slot i _ e
    exact ⟨v, e1, p v c.H c.F (Step.refl _) S r⟩
  · rename_i sl _ e
    obtain ⟨v, e1, _⟩ := S.slot i _ e
    exact ⟨v, e1, p v c.H c.F (Step.refl _) S e1⟩
  · exact p.elim

/-! ### names, constants -/
def nV (i : Nat) : NExp := fun n => match n[i]? with
  | some (some (.val d)) => .ok d n
  | _ => .bad
theorem ne_v (i : Nat) {x : Str} {pos : Pos} (hN : X.N[i]? = some x := by rfl) (hv : Vis X.env.scope x := by first | exact Or.inl rfl | exact Or.inr (Or.inl rfl) | exact Or.inr (Or.inr rfl)) (hd : (x == ("__debug__" : Str)) = false := by decide)
    (hcd : (x == ("__classdict__" : Str)) = false := by decide) : NE X W (.Name x pos) (nV i) := by
  refine ⟨tVar i, pe_var hN hv hd hcd, fun c Q S p => ?_⟩
  unfold nV at p
  split at p
  · rename_i d e
    obtain ⟨v, e1, r⟩ := S.slot i _ e
    exact ⟨v, e1, p v c.H c.F (Step.refl _) S r⟩
  · exact p.elim
/-- an own list, frozen as it is read -/
def nF (i : Nat) : NExp := fun n => match n[i]? with
  | some (some (.own xs)) => .ok (.list xs) (n.set i (some (.val (.list xs))))
  | some (some (.val d)) => .ok d n
  | _ => .bad
theorem ne_f (i : Nat) {x : Str} {pos : Pos} (hN : X.N[i]? = some x := by rfl) (hv : Vis X.env.scope x := by first | exact Or.inl rfl | exact Or.inr (Or.inl rfl) | exact Or.inr (Or.inr rfl)) (hd : (x == ("__debug__" : Str)) = false := by decide)
    (hcd : (x == ("__classdict__" : Str)) = false := by decide) : NE X W (.Name x pos) (nF i) := by
  refine ⟨tVar i, pe_var hN hv hd hcd, fun c Q S p => ?_⟩
  unfold nF at p
  split at p
  · rename_i xs e
    obtain ⟨a, F', e1, S', st, r⟩ := S.frzSlot e
    exact ⟨_, e1, p _ c.H F' st S' r⟩
  · rename_i d e
    obtain ⟨v, e1, r⟩ := S.slot i _ e
    exact ⟨v, e1, p v c.H c.F (Step.refl _) S r⟩
  · exact p.elim
def nC (d : PyData) : NExp := fun n => .ok d n
theorem ne_c {d : PyData} {v : V} (h : PE X e (tC v)) (r : ∀ H F, Rep X.K H F d v) : NE X W e (nC d) := ⟨tC v, h, fun c Q S p => p v c.H c.F (Step.refl _) S (r _ _)⟩
theorem ne_int {i : Int} {j pos} : NE X W (.Constant (.int i) j pos) (nC (.int i)) := ne_c pe_int fun _ _ => Rep.mkInt
theorem ne_bool {i : Bool} {j pos} : NE X W (.Constant (.bool i) j pos) (nC (.bool i)) := ne_c pe_bl fun _ _ => Rep.mkBool
theorem ne_none {j pos} : NE X W (.Constant .none j pos) (nC .none) := ne_c pe_non fun _ _ => Rep.mkNone
theorem ne_str {i : Str} {j pos} : NE X W (.Constant (.str i) j pos) (nC (.str i)) := ne_c pe_str fun _ _ => Rep.mkStr
/-- what the written part says a module's name is -/
def Gv (K : PySem.W.Frag) (mg : Str → Option Value) (x : Str) (d : PyData) : Prop := ∃ v u, mg x = some u ∧ RelV v u ∧ ∀ H F, Rep K H F d v
theorem ne_g {x : Str} {pos : Pos} {d : PyData} (g : Gv X.K X.mg x d) (hg : Gl X x := by rfl) (hd : (x == ("__debug__" : Str)) = false := by decide) : NE X W (.Name x pos) (nC d) := by
  obtain ⟨v, u, hm, r, q⟩ := g
  exact ne_c (pe_glob hg hm r hd) q

/-! ### operators -/
def Op2 (X : Cx) (r : R2) (o : PyData → PyData → Option PyData) : Prop := ∀ (c : Cf) (x y z : PyData) (vx vy : V) (Q : VK), Sim X.K c → Rep1 X.K c.H c.F x vx → Rep1 X.K c.H c.F y vy → o x y = some z →
  (∀ v H' F', Step c ⟨c.n, c.s, H', F'⟩ → Sim X.K ⟨c.n, c.s, H', F'⟩ → Rep X.K H' F' z v → Q v H') → r vx vy c.H Q
def nOp2 (o : PyData → PyData → Option PyData) (p q : Opd) : NExp := fun n => (p.run n).bind fun a n1 => (q.run n1).bind fun b n2 => match a.get n2, b.get n2 with
  | some x, some y => liftO (o x y) n2
  | _, _ => .bad
/-- two operands, then what is asked of both -/
theorem two {p q : Opd} {ta tb : TE} {o : PyData → PyData → Option PyData} {r : R2} (sa : ∀ (c : Cf) (Q : VK), Sim X.K c → Pst X.K X.mg W (relV X.K) c Q (p.run c.n) → ta c.s c.H Q)
    (sb : ∀ (c : Cf) (Q : VK), Sim X.K c → Pst X.K X.mg W (relV X.K) c Q (q.run c.n) → tb c.s c.H Q) (no : Op2 X r o) {c : Cf} {Q : VK} (S : Sim X.K c) (h : Pst X.K X.mg W (relE X.K) c Q (nOp2 o p q c.n)) :
    ta c.s c.H fun x H1 => tb c.s H1 fun y H2 => r x y H2 Q := by
  refine sa c _ S (Pst.seq (rel := relV X.K) mono_E h fun a n1 vx H1 F1 _ st1 S1 rx h1 => ?_)
  refine sb ⟨n1, c.s, H1, F1⟩ _ S1 (Pst.seq (rel := relV X.K) mono_E h1 fun b n2 vy H2 F2 _ st2 S2 ry h2 => ?_)
  cases ea : a.get n2 with
  | none => rw [ea] at h2; exact h2.elim
  | some x =>
    cases eb : b.get n2 with
    | none => rw [ea, eb] at h2; exact h2.elim
    | some y =>
      rw [ea, eb] at h2
      dsimp only at h2
      cases eo : o x y with
      | none => rw [eo] at h2; exact h2.elim
      | some z =>
        rw [eo] at h2
        exact no ⟨n2, c.s, H2, F2⟩ x y z vx vy Q S2 (S2.avGet (AVRep.step st2 S1 rfl rx) ea) (S2.avGet ry eb) eo fun v H' F' st' S' r' => h2 v H' F' st' S' r'
theorem ne_op {op : Operator} {r : R2} {o : PyData → PyData → Option PyData} {p q : Opd} {pos : Pos} (ho : OpR X (binaryOp op) r) (no : Op2 X r o) (ha : NO X W e p) (hb : NO X W e2 q) : NE X W (.BinOp e op e2 pos) (nOp2 o p q) := by
  obtain ⟨ta, pa, sa⟩ := ha.ex
  obtain ⟨tb, pb, sb⟩ := hb.ex
  exact ⟨tOp r ta tb, pe_op ho pa pb, fun c Q S h => two sa sb no S h⟩
theorem ne_cmp {op : CmpOp} {r : R2} {o : PyData → PyData → Option PyData} {p q : Opd} {pos : Pos} (ho : OpR X (compareOp op) r) (no : Op2 X r o) (ha : NO X W e p) (hb : NO X W e2 q) (hm : behindInMarks op e2 = false) : NE X W (.Compare e [op] [e2] pos) (nOp2 o p q) := by
  obtain ⟨ta, pa, sa⟩ := ha.ex
  obtain ⟨tb, pb, sb⟩ := hb.ex
  exact ⟨tOp r ta tb, pe_cmpR ho pa pb hm, fun c Q S h => two sa sb no S h⟩
/-- a value that is a truth value, as a test -/
def asB (f : NExp) : NSt → R Bool := fun n => (f n).bind fun d n' => match d with
  | .bool b => .ok b n'
  | _ => .bad
theorem asB_st {c : Cf} {t : TE} {Q : Bool → Hp → Prop} (s : ∀ (c : Cf) (Q : VK), Sim X.K c → Pst X.K X.mg W (relE X.K) c Q (f c.n) → t c.s c.H Q) (S : Sim X.K c) (h : Pst X.K X.mg W relT c Q (asB f c.n)) :
    t c.s c.H fun x H' => ∃ k, x = .bl k ∧ Q k H' := by
  refine s c _ S (Pst.seq (rel := relE X.K) (rel' := relT) mono_T h fun d n' v H' F' _ st S' r q => ?_)
  cases d with
  | bool b => exact ⟨b, Rep.bool (K := X.K) (H := H') (F := F') r, q b H' F' (Step.refl _) S' rfl⟩
  | _ => exact q.elim
theorem nt_cmp {op : CmpOp} {r : R2} {o : PyData → PyData → Option PyData} {p q : Opd} {pos : Pos} (ho : OpR X (compareOp op) r) (no : Op2 X r o) (ha : NO X W e p) (hb : NO X W e2 q) (hm : behindInMarks op e2 = false) : NT X W (.Compare e [op] [e2] pos) (asB (nOp2 o p q)) := by
  obtain ⟨ta, pa, sa⟩ := ha.ex
  obtain ⟨tb, pb, sb⟩ := hb.ex
  exact ⟨tTest (tOp r ta tb), pt_cmpR ho pa pb hm, fun c Q S h => asB_st (t := tOp r ta tb) (fun c Q S h => two sa sb no S h) S h⟩
/-- any expression whose test is its value's truth value -/
theorem nt_b (h : NE X W e f) (he : ∀ whole, isTrue e X.env whole = (do let v ← whole; standAt e.pos; holding [v] (truthy v)) := by intro _; rfl) : NT X W e (asB f) := by
  obtain ⟨t, pe, s⟩ := h.ex
  exact ⟨_, pt_val pe he, fun c Q S p => asB_st s S p⟩
def truthOf : PyData → Option Bool
  | .none => some false
  | .bool b => some b
  | .int i => some (i != 0)
  | .str y => if y.length ≤ sizeLine then some ((y.length : Int) != 0) else none
  | .list xs => some !xs.isEmpty
  | .tuple xs => some !xs.isEmpty
  | .dict _ => none
theorem Reps.isEmpty {K : PySem.W.Frag} {H : Hp} {F : Fz} : ∀ {ds : List PyData} {vs : List V}, Reps K H F ds vs → vs.isEmpty = ds.isEmpty
  | [], _, r => by unfold Reps at r; subst r; rfl
  | d :: ds, _, r => by
    unfold Reps at r
    obtain ⟨v, vs, rfl, _, _⟩ := r
    rfl
theorem truthOf_ok {K : PySem.W.Frag} {H : Hp} {F : Fz} {d : PyData} {v : V} {k : Bool} (r : Rep1 K H F d v) (h : truthOf d = some k) : TruV K v H k := by
  cases d with
  | none => rw [r.none]; cases h; rfl
  | bool b => rw [r.bool]; cases h; rfl
  | int i => rw [r.int]; cases h; rfl
  | str y =>
    rw [r.str]
    have h : (if y.length ≤ sizeLine then some ((y.length : Int) != 0) else Option.none) = some k := h
    split at h
    · rename_i q
      cases h
      exact ⟨q, rfl⟩
    · cases h
  | list xs =>
    obtain ⟨a, ws, rfl, h1, r1⟩ := r.list
    cases h
    exact .inl ⟨ws, SqL.of h1, by rw [r1.isEmpty]⟩
  | tuple xs =>
    obtain ⟨a, ws, rfl, h1, r1⟩ := r.tuple
    cases h
    exact .inr (.inl ⟨ws, h1, by rw [r1.isEmpty]⟩)
  | dict kvs => cases h
def asT (p : Opd) : NSt → R Bool := fun n => (p.run n).bind fun a n' => match a.get n' with
  | some d => liftO (truthOf d) n'
  | none => .bad
/-- any expression's truth -/
theorem nt_t {p : Opd} (h : NO X W e p) (he : ∀ whole, isTrue e X.env whole = (do let v ← whole; standAt e.pos; holding [v] (truthy v)) := by intro _; rfl) : NT X W e (asT p) := by
  obtain ⟨t, pe, s⟩ := h.ex
  refine ⟨_, pt_truth pe he, fun c Q S q => ?_⟩
  refine s c _ S (Pst.seq (rel := relV X.K) (rel' := relT) mono_T q fun a n' v H' F' _ st S' r q' => ?_)
  cases ea : a.get n' with
  | none => rw [ea] at q'; exact q'.elim
  | some d =>
    rw [ea] at q'
    dsimp only at q'
    cases ed : truthOf d with
    | none => rw [ed] at q'; exact q'.elim
    | some k =>
      rw [ed] at q'
      exact ⟨k, truthOf_ok (S'.avGet r ea) ed, q' k H' F' (Step.refl _) S' rfl⟩

/-! ### and, or, not, if else -/
def tAnd' (f g : NSt → R Bool) : NSt → R Bool := fun n => (f n).bind fun b n' => if b = true then g n' else .ok false n'
def tOr' (f g : NSt → R Bool) : NSt → R Bool := fun n => (f n).bind fun b n' => if b = true then .ok true n' else g n'
def tNot' (f : NSt → R Bool) : NSt → R Bool := fun n => (f n).bind fun b n' => .ok (!b) n'
structure NW (X : Cx) (W : WX) (e : Expr) (f : NSt → R Bool) : Prop where
  ex : ∃ t, PW X e t ∧ ∀ (c : Cf) (Q : Bool → Hp → Prop), Sim X.K c → Pst X.K X.mg W relT c Q (f c.n) → t c.s c.H Q
section
variable {a b : Expr} {rest : List Expr} {pos : Pos} {fa fb : NSt → R Bool} {va vb : NExp}
theorem NW.t (h : NW X W e fa) : NT X W e fa := let ⟨t, p, s⟩ := h.ex; ⟨t, p.pt, s⟩
theorem nw_and1 (h : NT X W a fa) : NW X W (.BoolOp .And [a] pos) fa := let ⟨t, p, s⟩ := h.ex; ⟨t, pw_and1 p, s⟩
theorem nw_or1 (h : NT X W a fa) : NW X W (.BoolOp .Or [a] pos) fa := let ⟨t, p, s⟩ := h.ex; ⟨t, pw_or1 p, s⟩
theorem nw_and (ha : NT X W a fa) (hb : NW X W (.BoolOp .And (b :: rest) pos) fb) : NW X W (.BoolOp .And (a :: b :: rest) pos) (tAnd' fa fb) := by
  obtain ⟨ta, pa, sa⟩ := ha.ex
  obtain ⟨tb, pb, sb⟩ := hb.ex
  refine ⟨tAnd ta tb, pw_and pa pb, fun c Q S h => ?_⟩
  refine sa c _ S (Pst.seq (rel := relT) (rel' := relT) mono_T h fun k n' k' H' F' _ st S' r q => ?_)
  cases r
  cases k with
  | true => exact iteT (sb ⟨n', c.s, H', F'⟩ Q S' q)
  | false => exact iteF (q false H' F' (Step.refl _) S' rfl)
theorem nw_or (ha : NT X W a fa) (hb : NW X W (.BoolOp .Or (b :: rest) pos) fb) : NW X W (.BoolOp .Or (a :: b :: rest) pos) (tOr' fa fb) := by
  obtain ⟨ta, pa, sa⟩ := ha.ex
  obtain ⟨tb, pb, sb⟩ := hb.ex
  refine ⟨tOr ta tb, pw_or pa pb, fun c Q S h => ?_⟩
  refine sa c _ S (Pst.seq (rel := relT) (rel' := relT) mono_T h fun k n' k' H' F' _ st S' r q => ?_)
  cases r
  cases k with
  | true => exact iteT (q true H' F' (Step.refl _) S' rfl)
  | false => exact iteF (sb ⟨n', c.s, H', F'⟩ Q S' q)
theorem nt_not (ha : NT X W a fa) : NT X W (.UnaryOp .Not a pos) (tNot' fa) := by
  obtain ⟨ta, pa, sa⟩ := ha.ex
  refine ⟨tNot ta, pt_not pa, fun c Q S h => ?_⟩
  refine sa c _ S (Pst.seq (rel := relT) (rel' := relT) mono_T h fun k n' k' H' F' _ st S' r q => ?_)
  cases r
  exact q (!k) H' F' (Step.refl _) S' rfl
def nAnd (f g : NExp) : NExp := fun n => (f n).bind fun d n' => match d with
  | .bool true => g n'
  | .bool false => .ok (.bool false) n'
  | _ => .bad
def nOr (f g : NExp) : NExp := fun n => (f n).bind fun d n' => match d with
  | .bool true => .ok (.bool true) n'
  | .bool false => g n'
  | _ => .bad
def nNot (f : NExp) : NExp := fun n => (f n).bind fun d n' => match d with
  | .bool b => .ok (.bool (!b)) n'
  | _ => .bad
theorem ne_one {op} (h : NE X W a va) : NE X W (.BoolOp op [a] pos) va := let ⟨t, p, s⟩ := h.ex; ⟨t, pe_one p, s⟩
theorem ne_and (ha : NE X W a va) (hb : NE X W (.BoolOp .And (b :: rest) pos) vb) : NE X W (.BoolOp .And (a :: b :: rest) pos) (nAnd va vb) := by
  obtain ⟨ta, pa, sa⟩ := ha.ex
  obtain ⟨tb, pb, sb⟩ := hb.ex
  refine ⟨tAndV ta tb, pe_and pa pb, fun c Q S h => ?_⟩
  refine sa c _ S (Pst.seq (rel := relE X.K) (rel' := relE X.K) mono_E h fun d n' v H' F' _ st S' r q => ?_)
  cases d with
  | bool k =>
    refine ⟨k, Rep.bool (K := X.K) (H := H') (F := F') r, ?_⟩
    cases k with
    | true => exact iteT (sb ⟨n', c.s, H', F'⟩ Q S' q)
    | false => exact iteF (q _ H' F' (Step.refl _) S' Rep.mkBool)
  | _ => exact q.elim
theorem ne_or (ha : NE X W a va) (hb : NE X W (.BoolOp .Or (b :: rest) pos) vb) : NE X W (.BoolOp .Or (a :: b :: rest) pos) (nOr va vb) := by
  obtain ⟨ta, pa, sa⟩ := ha.ex
  obtain ⟨tb, pb, sb⟩ := hb.ex
  refine ⟨tOrV ta tb, pe_or pa pb, fun c Q S h => ?_⟩
  refine sa c _ S (Pst.seq (rel := relE X.K) (rel' := relE X.K) mono_E h fun d n' v H' F' _ st S' r q => ?_)
  cases d with
  | bool k =>
    refine ⟨k, Rep.bool (K := X.K) (H := H') (F := F') r, ?_⟩
    cases k with
    | true => exact iteT (q _ H' F' (Step.refl _) S' Rep.mkBool)
    | false => exact iteF (sb ⟨n', c.s, H', F'⟩ Q S' q)
  | _ => exact q.elim
theorem ne_not (ha : NE X W a va) : NE X W (.UnaryOp .Not a pos) (nNot va) := by
  obtain ⟨ta, pa, sa⟩ := ha.ex
  refine ⟨tNotV ta, pe_not pa, fun c Q S h => ?_⟩
  refine sa c _ S (Pst.seq (rel := relE X.K) (rel' := relE X.K) mono_E h fun d n' v H' F' _ st S' r q => ?_)
  cases d with
  | bool k => exact ⟨k, Rep.bool (K := X.K) (H := H') (F := F') r, q _ H' F' (Step.refl _) S' Rep.mkBool⟩
  | _ => exact q.elim
def nIf (t : NSt → R Bool) (f g : NExp) : NExp := fun n => (t n).bind fun b n' => if b = true then f n' else g n'
theorem ne_if {c : Expr} {ft : NSt → R Bool} (hc : NT X W c ft) (ha : NE X W a va) (hb : NE X W b vb) : NE X W (.IfExp c a b pos) (nIf ft va vb) := by
  obtain ⟨tc, pc, sc⟩ := hc.ex
  obtain ⟨ta, pa, sa⟩ := ha.ex
  obtain ⟨tb, pb, sb⟩ := hb.ex
  refine ⟨tIf tc ta tb, pe_ifExp pc pa pb, fun c Q S h => ?_⟩
  refine sc c _ S (Pst.seq (rel := relT) (rel' := relE X.K) mono_E h fun k n' k' H' F' _ st S' r q => ?_)
  cases r
  cases k with
  | true => exact iteT (sa ⟨n', c.s, H', F'⟩ Q S' q)
  | false => exact iteF (sb ⟨n', c.s, H', F'⟩ Q S' q)
end
/-! ### unary -/
def nNeg (f : NExp) : NExp := fun n => (f n).bind fun d n' => match d with
  | .int i => .ok (.int (-i)) n'
  | _ => .bad
theorem ne_neg {pos : Pos} (ha : NE X W e f) : NE X W (.UnaryOp .USub e pos) (nNeg f) := by
  obtain ⟨ta, pa, sa⟩ := ha.ex
  refine ⟨tUn (rU fun i => .int (-i)) ta, pe_un un_neg pa, fun c Q S h => ?_⟩
  refine sa c _ S (Pst.seq (rel := relE X.K) (rel' := relE X.K) mono_E h fun d n' v H' F' _ st S' r q => ?_)
  cases d with
  | int k => exact ⟨k, Rep.int (K := X.K) (H := H') (F := F') r, q _ H' F' (Step.refl _) S' Rep.mkInt⟩
  | _ => exact q.elim
/-! ### argument lists -/
def aNil : NSt → R (List AV) := fun n => .ok [] n
def aCons (p : Opd) (f : NSt → R (List AV)) : NSt → R (List AV) := fun n => (p.run n).bind fun a n1 => (f n1).bind fun as n2 => .ok (a :: as) n2
theorem na_nil : NA X W [] aNil := ⟨tNil, pa_nil, fun c Q S h => h [] c.H c.F (Step.refl _) S .nil⟩
theorem Paired.mapAV {K : PySem.W.Frag} {c c' : Cf} (st : Step c c') (S : Sim K c) (hs : c'.s = c.s) : ∀ {as : List AV} {vs : List V}, Paired (AVRep K c) as vs → Paired (AVRep K c') as vs
  | _, _, .nil => .nil
  | _, _, .cons r t => .cons (AVRep.step st S hs r) (Paired.mapAV st S hs t)
theorem na_cons {es : List Expr} {p : Opd} {fs : NSt → R (List AV)} (ha : NO X W e p) (hr : NA X W es fs) (hs : starEach (e :: es) X.env = (false, eval e X.env) :: starEach es X.env := by rfl) : NA X W (e :: es) (aCons p fs) := by
  obtain ⟨ta, pa, sa⟩ := ha.ex
  obtain ⟨tr, pr, sr⟩ := hr.ex
  refine ⟨tCons ta tr, pa_cons pa pr hs, fun c Q S h => ?_⟩
  refine sa c _ S (Pst.seq (rel := relV X.K) (rel' := relA X.K) mono_A h fun a n1 v H1 F1 _ st1 S1 r1 h1 => ?_)
  refine sr ⟨n1, c.s, H1, F1⟩ _ S1 (Pst.seq (rel := relA X.K) (rel' := relA X.K) mono_A h1 fun as n2 vs H2 F2 _ st2 S2 r2 h2 => ?_)
  exact h2 (v :: vs) H2 F2 (Step.refl _) S2 (.cons (AVRep.step st2 S1 rfl r1) r2)
def getAll (n : NSt) : List AV → Option (List PyData)
  | [] => some []
  | a :: as => match a.get n, getAll n as with
    | some d, some ds => some (d :: ds)
    | _, _ => none
theorem Sim.getAll {K : PySem.W.Frag} {c : Cf} (S : Sim K c) : ∀ {as : List AV} {vs : List V} {ds : List PyData}, Paired (AVRep K c) as vs → NL.getAll c.n as = some ds → Reps1 K c.H c.F ds vs
  | _, _, _, .nil, h => by cases h; exact .nil
  | a :: as, v :: vs, ds, .cons r t, h => by
    unfold NL.getAll at h
    cases e1 : a.get c.n with
    | none => rw [e1] at h; cases h
    | some d =>
      cases e2 : NL.getAll c.n as with
      | none => rw [e1, e2] at h; cases h
      | some ds' =>
        rw [e1, e2] at h
        cases h
        exact .cons (S.avGet r e1) (S.getAll t e2)
/-- a built-in's call, by values -/
def CallN (X : Cx) (r : List V → Hp → VK → Prop) (o : List PyData → Option PyData) : Prop := ∀ (c : Cf) (ds : List PyData) (z : PyData) (vs : List V) (Q : VK), Sim X.K c → Reps1 X.K c.H c.F ds vs → o ds = some z →
  (∀ v H' F', Step c ⟨c.n, c.s, H', F'⟩ → Sim X.K ⟨c.n, c.s, H', F'⟩ → Rep X.K H' F' z v → Q v H') → r vs c.H Q
def nCB (o : List PyData → Option PyData) (fs : NSt → R (List AV)) : NExp := fun n => (fs n).bind fun as n1 => match getAll n1 as with
  | some ds => liftO (o ds) n1
  | none => .bad
theorem cb_st {fs : NSt → R (List AV)} {t : TA} {r : List V → Hp → VK → Prop} {o : List PyData → Option PyData} (s : ∀ (c : Cf) (Q : List V → Hp → Prop), Sim X.K c → Pst X.K X.mg W (relA X.K) c Q (fs c.n) → t c.s c.H Q) (no : CallN X r o)
    {c : Cf} {Q : VK} (S : Sim X.K c) (h : Pst X.K X.mg W (relE X.K) c Q (nCB o fs c.n)) : t c.s c.H fun vs H1 => r vs H1 Q := by
  refine s c _ S (Pst.seq (rel := relA X.K) (rel' := relE X.K) mono_E h fun as n1 vs H1 F1 _ st1 S1 r1 h1 => ?_)
  cases e : NL.getAll n1 as with
  | none => rw [e] at h1; exact h1.elim
  | some ds =>
    rw [e] at h1
    dsimp only at h1
    cases eo : o ds with
    | none => rw [eo] at h1; exact h1.elim
    | some z =>
      rw [eo] at h1
      exact no ⟨n1, c.s, H1, F1⟩ ds z vs Q S1 (S1.getAll r1 e) eo fun v H' F' st' S' r' => h1 v H' F' st' S' r'
theorem ne_cb {x : Str} {p pos : Pos} {es : List Expr} {fs : NSt → R (List AV)} {id : String} {r : List V → Hp → VK → Prop} {o : List PyData → Option PyData} (hc : CallR X (.builtin id) r) (no : CallN X r o) (hm : X.mg x = none) (hv : bootBuiltins x = some (.builtin id)) (ha : NA X W (e :: es) fs)
    (hg : Gl X x := by rfl) (hn : x ≠ "__name__" := by decide) (hdb : (x == ("__debug__" : Str)) = false := by decide)
    (he : starEach (e :: es) X.env = (false, eval e X.env) :: starEach es X.env := by rfl) (hpl : (backTo pos (starEach es X.env)).any (·.1) = false := by rfl) : NE X W (.Call (.Name x p) (e :: es) [] pos) (nCB o fs) := by
  obtain ⟨t, pa, s⟩ := ha.ex
  exact ⟨_, pe_callB hc hg hm hv pa hn hdb he hpl, fun c Q S h => cb_st s no S h⟩
theorem ne_cty {x : Str} {p pos : Pos} {es : List Expr} {fs : NSt → R (List AV)} {T : String} {r : List V → Hp → VK → Prop} {o : List PyData → Option PyData} (hc : CallR X (.type T) r) (no : CallN X r o) (hm : X.mg x = none) (hv : bootBuiltins x = some (.type T)) (ha : NA X W (e :: es) fs)
    (hg : Gl X x := by rfl) (hn : x ≠ "__name__" := by decide) (hdb : (x == ("__debug__" : Str)) = false := by decide)
    (he : starEach (e :: es) X.env = (false, eval e X.env) :: starEach es X.env := by rfl) (hpl : (backTo pos (starEach es X.env)).any (·.1) = false := by rfl) : NE X W (.Call (.Name x p) (e :: es) [] pos) (nCB o fs) := by
  obtain ⟨t, pa, s⟩ := ha.ex
  exact ⟨_, pe_callTy hc hg hm hv pa hn hdb he hpl, fun c Q S h => cb_st s no S h⟩
/-! ### displays -/
def nTup (fs : NSt → R (List AV)) : NExp := fun n => (fs n).bind fun as n1 => match plains as with
  | some ds => if ds.length ≤ sizeLine then .ok (.tuple ds) n1 else .bad
  | none => .bad
where plains : List AV → Option (List PyData)
  | [] => some []
  | .v d :: as => (plains as).map (d :: ·)
  | .o _ :: _ => none
theorem plains_ok {K : PySem.W.Frag} {c : Cf} : ∀ {as : List AV} {vs : List V} {ds : List PyData}, Paired (AVRep K c) as vs → nTup.plains as = some ds → Reps K c.H c.F ds vs
  | _, _, _, .nil, h => by cases h; exact Reps.nil
  | .v d :: as, v :: vs, ds, .cons r t, h => by
    unfold nTup.plains at h
    cases e : nTup.plains as with
    | none => rw [e] at h; cases h
    | some ds' =>
      rw [e] at h
      cases h
      exact Reps.cons r (plains_ok t e)
  | .o i :: as, _, _, .cons _ _, h => by cases h
theorem ne_tup {es : List Expr} {fs : NSt → R (List AV)} {x1} {pos : Pos} (h : NA X W es fs) : NE X W (.Tuple es x1 pos) (nTup fs) := by
  obtain ⟨t, pa, s⟩ := h.ex
  refine ⟨tTup t, pe_tup pa, fun c Q S h => ?_⟩
  refine s c _ S (Pst.seq (rel := relA X.K) (rel' := relE X.K) mono_E h fun as n1 vs H1 F1 _ st1 S1 r1 h1 => ?_)
  cases e : nTup.plains as with
  | none => rw [e] at h1; exact h1.elim
  | some ds =>
    rw [e] at h1
    dsimp only at h1
    split at h1
    · rename_i hz
      have rr : Reps X.K H1 F1 ds vs := plains_ok (c := ⟨n1, c.s, H1, F1⟩) r1 e
      refine ⟨by rw [rr.length]; exact hz, fun p hp => ?_⟩
      obtain ⟨S2, st2, r2⟩ := S1.newTup (p := p) hp rr
      exact h1 _ _ _ st2 S2 r2
    · exact h1.elim
def nLstO (fs : NSt → R (List AV)) : NSt → R (List PyData) := fun n => (fs n).bind fun as n1 => match nTup.plains as with
  | some ds => if ds.length ≤ sizeLine then .ok ds n1 else .bad
  | none => .bad
theorem neo_lst {es : List Expr} {fs : NSt → R (List AV)} {pos : Pos} (h : NA X W es fs) : NEo X W (.List es pos) (nLstO fs) := by
  obtain ⟨t, pa, s⟩ := h.ex
  refine ⟨tLst t, pe_lst pa, fun c Q S h => ?_⟩
  refine s c _ S (Pst.seq (rel := relA X.K) (rel' := relO X.K) mono_O h fun as n1 vs H1 F1 _ st1 S1 r1 h1 => ?_)
  cases e : nTup.plains as with
  | none => rw [e] at h1; exact h1.elim
  | some ds =>
    rw [e] at h1
    dsimp only at h1
    split at h1
    · rename_i hz
      have rr : Reps X.K H1 F1 ds vs := plains_ok (c := ⟨n1, c.s, H1, F1⟩) r1 e
      refine ⟨by rw [rr.length]; exact hz, fun p hp => ?_⟩
      obtain ⟨S2, st2, r2⟩ := S1.newLst (p := p) hp rr
      exact h1 _ _ _ st2 S2 r2
    · exact h1.elim
/-- a new list, frozen at once -/
def nL (f : NSt → R (List PyData)) : NExp := fun n => (f n).bind fun xs n' => .ok (.list xs) n'
theorem ne_l {fo : NSt → R (List PyData)} (h : NEo X W e fo) : NE X W e (nL fo) := by
  obtain ⟨t, pe, s⟩ := h.ex
  refine ⟨t, pe, fun c Q S h => ?_⟩
  refine s c _ S ?_
  unfold nL at h
  cases q : fo c.n with
  | ok xs n' =>
    rw [q] at h
    intro v H' F' st S' r
    obtain ⟨F2, S2, st2, r2⟩ := Sim.freeze S st S' r
    exact h v H' F2 st2 S2 r2
  | err x n' => rw [q] at h; exact h
  | bad => rw [q] at h; exact h
end
end NL
end L2
/-! NLrev: list(reversed(a list)). -/
namespace RT
open PySem PySem.Spec PyProof.Rows
section
variable {prog : Program} {w : World} {A : Around} {E : Value → Shared → Prop} {s : Shared}
theorem extend_rev {R : Result → Shared → Prop} {it l S : Addr} {items : Array Value} {res : Value} {c₀ : Nat} (hh : A.handled = none) (hit : s.heap.IsRevIter it l ((items.size : Int) - 1)) (hl : s.heap.IsList l items) (hn : items.size ≤ sizeLine)
    (hne : l ≠ it) (hSi : S ≠ it) (hSl : S ≠ l) (hS₁ : s.heap.get? S = some { cls := .type "list", data := .seq #[] c₀ })
    (hR : ∀ h' tk acc' c', (∀ b o, b ≠ S → b ≠ it → s.heap.get? b = some o → h'.get? b = some o) → h'.get? S = some { cls := .type "list", dict := none, data := .seq acc' c', slots := #[] } →
      ItemsOf (fun i v => items[items.size - 1 - i]? = some v) acc' items.size → R (.ok (.ret res)) { s with heap := h', toks := tk }) :
    wpAny (model prog w) A.in1 (Builtin.List.listExtendWith (.ref S) (.ref it) res)
      (fun fin s' => match fin with | .done f => R (.ok f) s' | .again c' => c'.quiet = true ∧ codeAny (model prog w) A c' R s') (fun e s' => R (.error e) s') s := by
  have W := (Walks.listRev (prog := prog) (w := w) (A := A.in1) hh it l hne items).toS
  have hSf : S ∉ [it, l] := by simp only [List.mem_cons, List.not_mem_nil, or_false, not_or]; exact ⟨hSi, hSl⟩
  have hT : s.TypeIs (.ref it) "list_reverseiterator" := hit.typeIs
  have h1 : Builtin.List.listSameRef (.ref S) (.ref it) = false := by simp [Builtin.List.listSameRef, hSi]
  unfold Builtin.List.listExtendWith
  refine wpAny_bind (wpAny_typeOf hT ?_)
  rw [if_neg (by rw [h1]; decide)]
  refine wpAny_bind (wpAny_pyIter_revIter hit ?_)
  refine wpAny_bind (wpAny_holding ?_)
  unfold Builtin.List.listLengthHint
  refine wpAny_bind (wpAny_specialOf hT nolen_lri ?_)
  show wpAny _ A.in1 (specialOf (Value.ref it) (Str.ofString "__length_hint__") >>= _) _ _ _
  refine wpAny_bind (wpAny_specialOf hT hint_lri ?_)
  generalize hid : ("list_reverseiterator.__length_hint__" : String) = id0
  wp_delta
  rw [show splitId id0 = some ("list_reverseiterator", "__length_hint__") from by subst hid; decide +kernel]
  subst hid
  refine wpAny_bind (wpAny_isInstance (b := true) hT (by rw [isSubtype_type]; kernel_rfl) ?_)
  refine wpAny_pure ?_
  have e0 : ((items.size : Nat) : Int) - 1 - ((0 : Nat) : Int) = (items.size : Int) - 1 := by omega
  have key : ∀ (h : Heap) (c₁ tk : Nat), h.IsRevIter it l ((items.size : Int) - 1) → h.IsList l items → (∀ b o, b ≠ S → s.heap.get? b = some o → h.get? b = some o) →
      h.get? S = some { cls := .type "list", data := .seq #[] c₁ } → codeAny (model prog w) A (.builtin "list.extend.loop" ⟨[.ref S, .ref it, res], []⟩) R { s with heap := h, toks := tk } := by
    intro h c₁ tk hit' hl' hk hS'
    refine codeAny_extend_loopS W hn S hSf res items.size 0 _ #[] c₁ rfl (Nat.zero_le _) ⟨Nat.zero_le _, by rw [e0]; exact hit', hl'⟩ hS' (ItemsOf.nil _) fun s' acc' c' hm hS2 hacc => ?_
    rw [Moved.eq_with hm]
    refine hR s'.heap s'.toks acc' c' (fun b o hb hb2 e => hm.heap b o (fun hmem => ?_) (hk b o hb e)) hS2 hacc
    rcases List.mem_cons.mp hmem with e' | hmem
    · exact hb e'
    · exact hb2 (List.mem_singleton.mp hmem)
  rw [if_neg (by decide)]
  exact wpAny_pure ⟨plainId_quiet F.plain_extend_loop _, key _ c₀ _ hit hl (fun b o _ e => e) hS₁⟩
theorem list_init_rev {R : Result → Shared → Prop} {it l S : Addr} {items : Array Value} (hh : A.handled = none) (hit : s.heap.IsRevIter it l ((items.size : Int) - 1)) (hl : s.heap.IsList l items) (hn : items.size ≤ sizeLine)
    (hne : l ≠ it) (hSi : S ≠ it) (hSl : S ≠ l) (hS : s.heap.get? S = some { cls := .type "list", data := .seq #[] })
    (hR : ∀ h' tk acc' c', (∀ b o, b ≠ S → b ≠ it → s.heap.get? b = some o → h'.get? b = some o) → h'.get? S = some { cls := .type "list", dict := none, data := .seq acc' c', slots := #[] } →
      ItemsOf (fun i v => items[items.size - 1 - i]? = some v) acc' items.size → R (.ok (.ret .none)) { s with heap := h', toks := tk }) :
    wpAny (model prog w) A.in1 (Builtin.«list.__init__» ⟨[.ref S, .ref it], []⟩)
      (fun fin s' => match fin with | .done f => R (.ok f) s' | .again c' => c'.quiet = true ∧ codeAny (model prog w) A c' R s') (fun e s' => R (.error e) s') s := by
  show wpAny _ _ (do let old ← Builtin.List.listItems (.ref S); Builtin.List.listUpdate (.ref S) (fun _ => #[]); letGo old.toList.reverse; Builtin.List.listExtendWith (.ref S) (.ref it) .none) _ _ s
  refine wpAny_bind ?_
  unfold Builtin.List.listItems
  refine wpAny_bind (wpAny_seqItems hS rfl (wpAny_pure ?_))
  show wpAny _ _ (updateSeq S (fun _ => #[]) >>= fun _ => letGo (#[] : Array Value).toList.reverse >>= fun _ => Builtin.List.listExtendWith (.ref S) (.ref it) .none) _ _ s
  refine wpAny_bind (wpAny_updateSeq hS rfl ?_)
  have hS₂ := Heap.get?_update_self (Obj.mapSeq (fun _ => (#[] : Array Value))) hS rfl
  have oth : ∀ b o, b ≠ S → s.heap.get? b = some o → (s.heap.update S (Obj.mapSeq (fun _ => (#[] : Array Value)))).get? b = some o :=
    fun b o hb e => (Heap.get?_update_other _ _ (Ne.symm hb)).trans e
  refine wpAny_bind (wpAny_letGo ?_)
  obtain ⟨ol, hol, hr⟩ := hl
  refine extend_rev (s := { s with heap := s.heap.update S (Obj.mapSeq (fun _ => (#[] : Array Value))) }) hh (hit.at fun o e => oth it o (Ne.symm hSi) e) ⟨ol, oth l ol (Ne.symm hSl) hol, hr⟩ hn hne hSi hSl hS₂ fun h' tk acc' c' hk hS' hacc => ?_
  exact hR h' tk acc' c' (fun b o hb hb2 e => hk b o hb hb2 (oth b o hb e)) hS' hacc
theorem call_list_rev {it l : Addr} {items : Array Value} {Q : Value → Shared → Prop} (hh : A.handled = none) (hit : s.heap.IsRevIter it l ((items.size : Int) - 1)) (hl : s.heap.IsList l items) (hne : l ≠ it) (hn : items.size ≤ sizeLine)
    (hQ : ∀ h' tk acc' c', (∀ b o, b ≠ it → s.heap.get? b = some o → h'.get? b = some o) →
      h'.get? s.heap.objs.size = some { cls := .type "list", dict := none, data := .seq acc' c', slots := #[] } → ItemsOf (fun i v => items[items.size - 1 - i]? = some v) acc' items.size → Q (.ref s.heap.objs.size) { s with heap := h', toks := tk }) :
    wpAny (model prog w) A (call (.type "list") [.ref it]) Q E s := by
  obtain ⟨oi, hoi, _⟩ := id hit
  obtain ⟨ol, hol, hr⟩ := id hl
  refine callType_codes (Q₁ := fun obj s₁ => obj = .ref s.heap.objs.size ∧ s₁ = { s with heap := s.heap.push { cls := .type "list", data := .seq #[] } }) F.called_list (F.typeCall_list_1 _) F.entry_list_init
    (code_list_new _ ⟨rfl, rfl⟩) fun obj s₁ h₁ => ?_
  obtain ⟨rfl, rfl⟩ := h₁
  have hS : (s.heap.push { cls := .type "list", data := .seq #[] }).get? s.heap.objs.size = some { cls := .type "list", data := .seq #[] } := Heap.get?_push_size _ rfl
  refine ⟨⟨_, hS, rfl⟩, F.args_list_init_2 _ _, list_init_rev (A := A.in1) hh (hit.at fun o e => Heap.get?_push_of_some _ e) (hl.push _) hn hne (Nat.ne_of_gt (Heap.lt_size hoi)) (Nat.ne_of_gt (Heap.lt_size hol)) hS fun h' tk acc' c' hk hS' hacc => ?_⟩
  exact ⟨rfl, hQ h' tk acc' c' (fun b o hb e => hk b o (Nat.ne_of_lt (Heap.lt_size e)) hb (Heap.get?_push_of_some _ e)) hS' hacc⟩
end
end RT
namespace L2
open PySem PySem.Spec PyProof.Rows RT
section
variable {X : Cx}
/-- list(reversed(x)), x a list: a new list -/
def tLstRev (K : PySem.W.Frag) (te : TE) : TE := fun σ H Q => te σ H fun v H1 => ∃ (a : Addr) (xs : List V), v = .ref a ∧ SqL K H1 a xs ∧ ∀ q, H1 q = none → Q (.ref q) (upd H1 q (.lst xs.reverse))
theorem pe_listRev {e : Expr} {te : TE} {p p2 pos pos2 : Pos} (hc : X.calm = true) (hg : Gl X "list") (hm : X.mg "list" = none) (hg2 : Gl X "reversed") (hm2 : X.mg "reversed" = none) (he : PE X e te)
    (hs : starEach [e] X.env = (false, eval e X.env) :: starEach [] X.env := by rfl)
    (hs2 : starEach [.Call (.Name "reversed" p2) [e] [] pos2] X.env = (false, eval (.Call (.Name "reversed" p2) [e] [] pos2) X.env) :: starEach [] X.env := by rfl) :
    PE X (.Call (.Name "list" p) [.Call (.Name "reversed" p2) [e] [] pos2] [] pos) (tLstRev X.K te) := by
  refine ⟨fun pins s σ H Q I h => ?_⟩
  refine Call_ (ld_blt I hg hm boot_list (PyProof.Rows.callWith_type1 (args_cons (Call_ (ld_blt I hg2 hm2 PyProof.Rows.boot_reversed (PyProof.Rows.callWith_type1 (args_cons (thn (he.run pins s σ H _ I h) fun u s1 ⟨v, H1, I1, r1, q1⟩ => args_nil ?_) hs) hs rfl))) hs2) hs2 rfl))
  obtain ⟨a, xs, ev, hq, q⟩ := q1
  subst ev
  obtain rfl : u = Value.ref a := r1
  obtain ⟨its, rv, p', hz⟩ := I1.list hq
  refine call_reversed_list p'.isList (args_nil ?_)
  have k0 : ∀ b o, s1.heap.get? b = some o → (s1.heap.push (revObj a ((its.toArray.size : Int) - 1))).get? b = some o := fun b o e => Heap.get?_push_of_some _ e
  have I2 : Inv X pins σ H1 { s1 with heap := s1.heap.push (revObj a ((its.toArray.size : Int) - 1)) } := I1.kept (t' := s1.toks) k0
  obtain ⟨f0, f1, f2, f3, f4, f5⟩ := I1.fpOk (H' := H1) (b := s1.heap.objs.size) (Nat.le_refl _) (I1.hok.fresh (Nat.le_refl _))
  have hl := p'.isList
  obtain ⟨ol, hol, _⟩ := id hl
  have hne : a ≠ s1.heap.objs.size := Nat.ne_of_lt (Heap.lt_size hol)
  have hn : its.toArray.size ≤ sizeLine := by rw [List.size_toArray, ← rv.length]; exact hz
  refine call_list_rev (s := { s1 with heap := s1.heap.push (revObj a ((its.toArray.size : Int) - 1)) }) (I1.ok.hd hc) ⟨_, Heap.get?_push_size _ rfl, rfl, rfl⟩ (hl.push _) hne hn fun h' tk acc c' hk e' hi => ?_
  have hfree : H1 (s1.heap.push (revObj a ((its.toArray.size : Int) - 1))).objs.size = none := I2.hok.fresh (Nat.le_refl _)
  have hlt : ∀ b o, s1.heap.get? b = some o → b < s1.heap.objs.size := fun b o e => Heap.lt_size e
  refine ⟨.ref (s1.heap.push (revObj a ((its.toArray.size : Int) - 1))).objs.size, upd H1 _ (.lst xs.reverse), ?_, rfl, q _ hfree⟩
  -- the iterator has turned; the new list stands
  refine I1.un (h' := h') (t' := tk) (Un.laid (fun b o e => hk b o (Nat.ne_of_lt (hlt b o e)) (k0 b o e)) (by rw [Heap.size_push]; exact Nat.le_succ _) hfree) ?_
  refine I1.hok.laid (fun b o e => hk b o (Nat.ne_of_lt (hlt b o e)) (k0 b o e)) (by rw [Heap.size_push]; exact Nat.le_succ _) ⟨by rw [List.length_reverse]; exact hz, acc.toList, c', vals_rev rv hi, ?_⟩
  rw [Array.toArray_toList]; exact e'
end
end L2
/-! NL4: the operators on plain data. -/
namespace L2
namespace NL
open PySem PySem.Spec PyProof.Rows

section
variable {X : Cx}
theorem Sim.stay {K : PySem.W.Frag} {c : Cf} (S : Sim K c) : Step c ⟨c.n, c.s, c.H, c.F⟩ ∧ Sim K ⟨c.n, c.s, c.H, c.F⟩ := ⟨Step.refl _, S⟩
/-- the answer needs no heap -/
theorem fin0 {K : PySem.W.Frag} {c : Cf} {z : PyData} {v : V} {Q : VK} (S : Sim K c) (h : ∀ v H' F', Step c ⟨c.n, c.s, H', F'⟩ → Sim K ⟨c.n, c.s, H', F'⟩ → Rep K H' F' z v → Q v H') (r : Rep K c.H c.F z v) : Q v c.H :=
  h v c.H c.F (Step.refl _) S r
theorem finTup {K : PySem.W.Frag} {c : Cf} {ds : List PyData} {ws : List V} {Q : VK} (S : Sim K c) (h : ∀ v H' F', Step c ⟨c.n, c.s, H', F'⟩ → Sim K ⟨c.n, c.s, H', F'⟩ → Rep K H' F' (.tuple ds) v → Q v H') (r : Reps K c.H c.F ds ws) :
    ∀ p, c.H p = none → Q (.ref p) (upd c.H p (.tup ws)) := fun p hp => by
  obtain ⟨S2, st2, r2⟩ := S.newTup (p := p) hp r
  exact h _ _ _ st2 S2 r2
theorem finLst {K : PySem.W.Frag} {c : Cf} {ds : List PyData} {ws : List V} {Q : VK} (S : Sim K c) (h : ∀ v H' F', Step c ⟨c.n, c.s, H', F'⟩ → Sim K ⟨c.n, c.s, H', F'⟩ → Rep K H' F' (.list ds) v → Q v H') (r : Reps K c.H c.F ds ws) :
    ∀ p, c.H p = none → Q (.ref p) (upd c.H p (.lst ws)) := fun p hp => by
  obtain ⟨S2, st2, r2⟩ := S.newLst (p := p) hp r
  obtain ⟨F', S3, st3, r3⟩ := Sim.freeze S st2 S2 r2
  exact h _ _ _ st3 S3 r3
theorem tup_refl {K : PySem.W.Frag} {H : Hp} {F : Fz} {d : PyData} {v : V} (r : Rep1 K H F d v) (h : ∀ xs, d ≠ .list xs) : Rep K H F d v := by
  rcases r with r | ⟨a, ws, xs, e, _⟩
  · exact r
  · exact absurd e (h xs)
/-! ### arithmetic -/
def oAdd : PyData → PyData → Option PyData
  | .int a, .int b => some (.int (a + b))
  | .str a, .str b => if a.length + b.length ≤ sizeLine then some (.str (a ++ b)) else none
  | .tuple a, .tuple b => if a.length + b.length ≤ sizeLine then some (.tuple (a ++ b)) else none
  | .list a, .list b => if a.length + b.length ≤ sizeLine then some (.list (a ++ b)) else none
  | _, _ => none
def rAddN (K : PySem.W.Frag) : R2 := fun x y H Q => rI0 (fun i j => .int (i + j)) x y H Q ∨ (∃ i j, x = .str i ∧ y = .str j ∧ i.length + j.length ≤ sizeLine ∧ Q (.str (i ++ j)) H) ∨ rCatA K x y H Q ∨ rCat x y H Q
theorem op_addN : OpR X (binaryOp .Add) (rAddN X.K) := op_add.or (op_add_str.or (op_catA.or op_cat))
theorem no_add : Op2 X (rAddN X.K) oAdd := by
  intro c x y z vx vy Q S rx ry e h
  unfold oAdd at e
  split at e
  · cases e
    exact .inl ⟨_, _, rx.int, ry.int, fin0 S h Rep.mkInt⟩
  · split at e
    · rename_i hz
      cases e
      exact .inr (.inl ⟨_, _, rx.str, ry.str, hz, fin0 S h Rep.mkStr⟩)
    · cases e
  · split at e
    · rename_i xs ys hz
      cases e
      obtain ⟨a, vs, rfl, ha, ra⟩ := rx.tuple
      obtain ⟨b, ws, rfl, hb, rb⟩ := ry.tuple
      refine .inr (.inr (.inl ⟨a, b, vs, ws, rfl, rfl, ha, hb, by rw [ra.length, rb.length]; exact hz, fun e1 => ?_, fun _ e1 => ?_, fun _ _ => finTup S h (ra.append rb)⟩))
      · have e2 : xs = [] := by
          have := ra.length
          rw [e1] at this
          exact List.length_eq_zero_iff.mp this.symm
        refine fin0 S h ?_
        rw [e2, List.nil_append]
        exact tup_refl ry fun _ z => by cases z
      · have e2 : ys = [] := by
          have := rb.length
          rw [e1] at this
          exact List.length_eq_zero_iff.mp this.symm
        refine fin0 S h ?_
        rw [e2, List.append_nil]
        exact tup_refl rx fun _ z => by cases z
    · cases e
  · split at e
    · rename_i hz
      cases e
      obtain ⟨a, vs, rfl, ha, ra⟩ := rx.list
      obtain ⟨b, ws, rfl, hb, rb⟩ := ry.list
      exact .inr (.inr (.inr ⟨a, b, vs, ws, rfl, rfl, ha, hb, by rw [ra.length, rb.length]; exact hz, finLst S h (ra.append rb)⟩))
    · cases e
  · cases e
def oSub : PyData → PyData → Option PyData
  | .int a, .int b => some (.int (a - b))
  | _, _ => none
theorem no_sub : Op2 X (rI0 fun i j => .int (i - j)) oSub := by
  intro c x y z vx vy Q S rx ry e h
  unfold oSub at e
  split at e
  · cases e
    exact ⟨_, _, rx.int, ry.int, fin0 S h Rep.mkInt⟩
  · cases e
instance {i j : Int} : Decidable (CMul i j) := by unfold CMul; infer_instance
instance {i j : Int} : Decidable (CMulW i j) := by unfold CMulW; infer_instance
instance {i j : Int} : Decidable (CDivN i j) := by unfold CDivN; infer_instance
instance {i j : Int} : Decidable (CDivW i j) := by unfold CDivW; infer_instance
instance {i j : Int} : Decidable (CPow i j) := by unfold CPow; infer_instance
def oMul : PyData → PyData → Option PyData
  | .int a, .int b => if CMul a b ∨ CMulW a b then some (.int (a * b)) else none
  | .list a, .int k => if -(2 ^ 63) ≤ k ∧ k < 2 ^ 63 ∧ a.length * k.toNat ≤ sizeLine then some (.list (List.replicate k.toNat a).flatten) else none
  | .tuple a, .int k => if a ≠ [] ∧ 2 ≤ k ∧ k ≤ 1000 ∧ a.length ≤ 1000 then some (.tuple (List.replicate k.toNat a).flatten) else none
  | _, _ => none
def rMulN (K : PySem.W.Frag) : R2 := fun x y H Q => rI CMul (fun i j => .int (i * j)) x y H Q ∨ rI CMulW (fun i j => .int (i * j)) x y H Q ∨ rRep x y H Q ∨ rRepT K x y H Q
theorem op_mulN : OpR X (binaryOp .Mult) (rMulN X.K) := op_mul.or (op_mulW.or (op_rep.or op_repT))
theorem no_mul : Op2 X (rMulN X.K) oMul := by
  intro c x y z vx vy Q S rx ry e h
  unfold oMul at e
  split at e
  · split at e
    · rename_i hz
      cases e
      rcases hz with hz | hz
      · exact .inl ⟨_, _, rx.int, ry.int, hz, fin0 S h Rep.mkInt⟩
      · exact .inr (.inl ⟨_, _, rx.int, ry.int, hz, fin0 S h Rep.mkInt⟩)
    · cases e
  · split at e
    · rename_i hz
      cases e
      obtain ⟨a, vs, rfl, ha, ra⟩ := rx.list
      exact .inr (.inr (.inl ⟨a, _, vs, rfl, ry.int, ha, hz.1, hz.2.1, by rw [ra.length]; exact hz.2.2, finLst S h (ra.rep _)⟩))
    · cases e
  · split at e
    · rename_i xs k hz
      cases e
      obtain ⟨a, vs, rfl, ha, ra⟩ := rx.tuple
      refine .inr (.inr (.inr ⟨a, _, vs, rfl, ry.int, ha, fun e1 => hz.1 ?_, hz.2.1, hz.2.2.1, by rw [ra.length]; exact hz.2.2.2, finTup S h (ra.rep _)⟩))
      have := ra.length
      rw [e1] at this
      exact List.length_eq_zero_iff.mp this.symm
    · cases e
  · cases e
def oFdiv : PyData → PyData → Option PyData
  | .int a, .int b => if CDivN a b then some (.int (a.fdiv b)) else if CDivW a b then some (.int (a.fdiv b)) else none
  | _, _ => none
def rFdivN : R2 := fun x y H Q => rI CDivN (fun i j => .int (i.fdiv j)) x y H Q ∨ rI CDivW (fun i j => .int (i / j)) x y H Q
theorem op_fdivNN : OpR X (binaryOp .FloorDiv) rFdivN := op_fdivN.or op_fdivW
theorem no_fdiv : Op2 X rFdivN oFdiv := by
  intro c x y z vx vy Q S rx ry e h
  unfold oFdiv at e
  split at e
  · split at e
    · rename_i hz
      cases e
      exact .inl ⟨_, _, rx.int, ry.int, hz, fin0 S h Rep.mkInt⟩
    · split at e
      · rename_i a b _ hz
        cases e
        refine .inr ⟨_, _, rx.int, ry.int, hz, fin0 S h ?_⟩
        have h0 : 0 < b := hz.1
        rw [Int.fdiv_eq_ediv_of_nonneg a (by omega)]
        exact Rep.mkInt
      · cases e
  · cases e
def oMod : PyData → PyData → Option PyData
  | .int a, .int b => if b ≠ 0 then some (.int (a.fmod b)) else none
  | _, _ => none
theorem no_mod : Op2 X (rI (fun _ j => j ≠ 0) fun i j => .int (i.fmod j)) oMod := by
  intro c x y z vx vy Q S rx ry e h
  unfold oMod at e
  split at e
  · split at e
    · rename_i hz
      cases e
      exact ⟨_, _, rx.int, ry.int, hz, fin0 S h Rep.mkInt⟩
    · cases e
  · cases e
def oPow : PyData → PyData → Option PyData
  | .int a, .int b => if CPow a b then some (.int (a ^ b.toNat)) else none
  | _, _ => none
theorem no_pow : Op2 X (rI CPow fun i j => .int (i ^ j.toNat)) oPow := by
  intro c x y z vx vy Q S rx ry e h
  unfold oPow at e
  split at e
  · split at e
    · rename_i hz
      cases e
      exact ⟨_, _, rx.int, ry.int, hz, fin0 S h Rep.mkInt⟩
    · cases e
  · cases e
/-! ### comparisons -/
def eqOk : PyData → PyData → Bool
  | .int _, .int _ => true
  | .bool _, .bool _ => true
  | .str _, .str _ => true
  | x, y => SeqAt.shaped x && SeqAt.shaped y
def oEq (x y : PyData) : Option PyData := if eqOk x y = true then some (.bool (PyData.eqv x y)) else none
def oNe (x y : PyData) : Option PyData := if eqOk x y = true then some (.bool (!PyData.eqv x y)) else none
def rEqN (K : PySem.W.Frag) : R2 := fun x y H Q => rEq x y H Q ∨ rEqD K x y H Q
def rNeN (K : PySem.W.Frag) : R2 := fun x y H Q => rNe x y H Q ∨ rNeD K x y H Q
theorem op_eqN (hu : X.A.units + 64 < cLine) : OpR X (compareOp .Eq) (rEqN X.K) := op_eq.or (op_eqD hu)
theorem op_neN (hu : X.A.units + 64 < cLine) : OpR X (compareOp .NotEq) (rNeN X.K) := op_ne.or (op_neD hu)
theorem no_eq : Op2 X (rEqN X.K) oEq := by
  intro c x y z vx vy Q S rx ry e h
  unfold oEq at e
  split at e
  · rename_i ok
    cases e
    unfold eqOk at ok
    split at ok
    · refine .inl ?_
      rw [rx.int, ry.int]
      refine ⟨rfl, fin0 S h ?_⟩
      rw [dec_int]; exact Rep.mkBool
    · refine .inl ?_
      rw [rx.bool, ry.bool]
      refine ⟨rfl, fin0 S h ?_⟩
      rw [dec_bl]; exact Rep.mkBool
    · refine .inl ?_
      rw [rx.str, ry.str]
      refine ⟨rfl, fin0 S h ?_⟩
      rw [dec_str]; exact Rep.mkBool
    · obtain ⟨h1, h2⟩ := Bool.and_eq_true_iff.mp ok
      exact .inr ⟨_, _, rx.dp (SeqAt.canLay_of_shaped h1), ry.dp (SeqAt.canLay_of_shaped h2), h1, h2, fin0 S h Rep.mkBool⟩
  · cases e
theorem no_ne : Op2 X (rNeN X.K) oNe := by
  intro c x y z vx vy Q S rx ry e h
  unfold oNe at e
  split at e
  · rename_i ok
    cases e
    unfold eqOk at ok
    split at ok
    · refine .inl ?_
      rw [rx.int, ry.int]
      refine ⟨rfl, fin0 S h ?_⟩
      rw [dec_int]; exact Rep.mkBool
    · refine .inl ?_
      rw [rx.bool, ry.bool]
      refine ⟨rfl, fin0 S h ?_⟩
      rw [dec_bl]; exact Rep.mkBool
    · refine .inl ?_
      rw [rx.str, ry.str]
      refine ⟨rfl, fin0 S h ?_⟩
      rw [dec_str]; exact Rep.mkBool
    · obtain ⟨h1, h2⟩ := Bool.and_eq_true_iff.mp ok
      exact .inr ⟨_, _, rx.dp (SeqAt.canLay_of_shaped h1), ry.dp (SeqAt.canLay_of_shaped h2), h1, h2, fin0 S h Rep.mkBool⟩
  · cases e
/-- < of anything alike -/
def rLtD (K : PySem.W.Frag) : R2 := fun x y H Q => ∃ d e, Dp K H x d ∧ Dp K H y e ∧ PySem.W.alike d e = true ∧ d ≠ .none ∧ d.depth ≤ 64 ∧ Q (.bl (PySem.W.dataLt d e)) H
theorem op_ltD (hu : X.A.units + 64 < cLine) : OpR X (compareOp .Lt) (rLtD X.K) := by
  intro pins s σ H x y v u Q I rx ry h
  obtain ⟨d, e, hd, he, al, nn, dp, q⟩ := h
  obtain ⟨as, r1⟩ := Dp.reads I d x v hd rx
  obtain ⟨bs, r2⟩ := Dp.reads I e y u he ry
  have h1 : min d.depth e.depth ≤ d.depth := Nat.min_le_left _ _
  exact PySem.W.rcLt_alike d e _ _ _ _ as bs r1 r2 al nn (by omega) _ _ _ _ ⟨.bl _, H, I, rfl, q⟩
def oLt : PyData → PyData → Option PyData
  | .int a, .int b => some (.bool (decide (a < b)))
  | .str a, .str b => some (.bool (decide (a.cps.toList < b.cps.toList)))
  | .tuple a, .tuple b => if PySem.W.alike (.tuple a) (.tuple b) = true ∧ PyData.depth (.tuple a) ≤ 64 ∧ PyData.canLay0 (.tuple a) = true ∧ PyData.canLay0 (.tuple b) = true then some (.bool (PySem.W.dataLt (.tuple a) (.tuple b))) else none
  | .list a, .list b => if PySem.W.alike (.list a) (.list b) = true ∧ PyData.depth (.list a) ≤ 64 ∧ PyData.canLay0 (.list a) = true ∧ PyData.canLay0 (.list b) = true then some (.bool (PySem.W.dataLt (.list a) (.list b))) else none
  | _, _ => none
def rLtN (K : PySem.W.Frag) : R2 := fun x y H Q => rI0 (fun i j => .bl (decide (i < j))) x y H Q ∨ (∃ i j, x = .str i ∧ y = .str j ∧ Q (.bl (decide (i.cps.toList < j.cps.toList))) H) ∨ rLtD K x y H Q
theorem op_ltN (hu : X.A.units + 64 < cLine) : OpR X (compareOp .Lt) (rLtN X.K) := op_lt.or (op_lt_str.or (op_ltD hu))
theorem no_lt : Op2 X (rLtN X.K) oLt := by
  intro c x y z vx vy Q S rx ry e h
  unfold oLt at e
  split at e
  · cases e
    exact .inl ⟨_, _, rx.int, ry.int, fin0 S h Rep.mkBool⟩
  · cases e
    exact .inr (.inl ⟨_, _, rx.str, ry.str, fin0 S h Rep.mkBool⟩)
  · split at e
    · rename_i hz
      cases e
      exact .inr (.inr ⟨_, _, rx.dp hz.2.2.1, ry.dp hz.2.2.2, hz.1, (fun z => by cases z), hz.2.1, fin0 S h Rep.mkBool⟩)
    · cases e
  · split at e
    · rename_i hz
      cases e
      exact .inr (.inr ⟨_, _, rx.dp hz.2.2.1, ry.dp hz.2.2.2, hz.1, (fun z => by cases z), hz.2.1, fin0 S h Rep.mkBool⟩)
    · cases e
  · cases e
def oLe : PyData → PyData → Option PyData
  | .int a, .int b => some (.bool (decide (a ≤ b)))
  | .str a, .str b => some (.bool (!decide (b.cps.toList < a.cps.toList)))
  | _, _ => none
def oGt : PyData → PyData → Option PyData
  | .int a, .int b => some (.bool (decide (b < a)))
  | .str a, .str b => some (.bool (decide (b.cps.toList < a.cps.toList)))
  | _, _ => none
def oGe : PyData → PyData → Option PyData
  | .int a, .int b => some (.bool (decide (b ≤ a)))
  | .str a, .str b => some (.bool (!decide (a.cps.toList < b.cps.toList)))
  | _, _ => none
def rLeN : R2 := fun x y H Q => rI0 (fun i j => .bl (decide (i ≤ j))) x y H Q ∨ (∃ i j, x = .str i ∧ y = .str j ∧ Q (.bl (!decide (j.cps.toList < i.cps.toList))) H)
def rGtN : R2 := fun x y H Q => rI0 (fun i j => .bl (decide (j < i))) x y H Q ∨ (∃ i j, x = .str i ∧ y = .str j ∧ Q (.bl (decide (j.cps.toList < i.cps.toList))) H)
def rGeN : R2 := fun x y H Q => rI0 (fun i j => .bl (decide (j ≤ i))) x y H Q ∨ (∃ i j, x = .str i ∧ y = .str j ∧ Q (.bl (!decide (i.cps.toList < j.cps.toList))) H)
theorem op_leN : OpR X (compareOp .LtE) rLeN := op_le.or op_le_str
theorem op_gtN : OpR X (compareOp .Gt) rGtN := op_gt.or op_gt_str
theorem op_geN : OpR X (compareOp .GtE) rGeN := op_ge.or op_ge_str
theorem no_le : Op2 X rLeN oLe := by
  intro c x y z vx vy Q S rx ry e h
  unfold oLe at e
  split at e
  · cases e; exact .inl ⟨_, _, rx.int, ry.int, fin0 S h Rep.mkBool⟩
  · cases e; exact .inr ⟨_, _, rx.str, ry.str, fin0 S h Rep.mkBool⟩
  · cases e
theorem no_gt : Op2 X rGtN oGt := by
  intro c x y z vx vy Q S rx ry e h
  unfold oGt at e
  split at e
  · cases e; exact .inl ⟨_, _, rx.int, ry.int, fin0 S h Rep.mkBool⟩
  · cases e; exact .inr ⟨_, _, rx.str, ry.str, fin0 S h Rep.mkBool⟩
  · cases e
theorem no_ge : Op2 X rGeN oGe := by
  intro c x y z vx vy Q S rx ry e h
  unfold oGe at e
  split at e
  · cases e; exact .inl ⟨_, _, rx.int, ry.int, fin0 S h Rep.mkBool⟩
  · cases e; exact .inr ⟨_, _, rx.str, ry.str, fin0 S h Rep.mkBool⟩
  · cases e
/-! ### is -/
def isNoneD : PyData → Bool
  | .none => true
  | _ => false
theorem isNone_ok {K : PySem.W.Frag} {H : Hp} {F : Fz} {d : PyData} {v : V} (r : Rep1 K H F d v) : decide (v = V.non) = isNoneD d := by
  cases d with
  | none => rw [r.none]; rfl
  | bool b => rw [r.bool]; rfl
  | int b => rw [r.int]; rfl
  | str b => rw [r.str]; rfl
  | list b => obtain ⟨a, vs, rfl, _⟩ := r.list; rfl
  | tuple b => obtain ⟨a, vs, rfl, _⟩ := r.tuple; rfl
  | dict b => obtain ⟨a, ws, rfl, _⟩ := r.dict.dict; rfl
def oIs : PyData → PyData → Option PyData
  | x, .none => some (.bool (isNoneD x))
  | .bool a, .bool b => some (.bool (decide (a = b)))
  | _, _ => none
def oIsNot : PyData → PyData → Option PyData
  | x, .none => some (.bool (!isNoneD x))
  | .bool a, .bool b => some (.bool (!decide (a = b)))
  | _, _ => none
def rIsN : R2 := fun x y H Q => (y = .non ∧ Q (.bl (decide (x = .non))) H) ∨ rIsB x y H Q
def rNotN : R2 := fun x y H Q => (y = .non ∧ Q (.bl (!decide (x = .non))) H) ∨ rNotB x y H Q
theorem op_isNN : OpR X (compareOp .Is) rIsN := op_isN.or op_isBl
theorem op_notNN : OpR X (compareOp .IsNot) rNotN := op_notN.or op_notBl
theorem no_is : Op2 X rIsN oIs := by
  intro c x y z vx vy Q S rx ry e h
  unfold oIs at e
  split at e
  · cases e
    refine .inl ⟨ry.none, ?_⟩
    rw [isNone_ok rx]; exact fin0 S h Rep.mkBool
  · cases e
    exact .inr ⟨_, _, rx.bool, ry.bool, fin0 S h Rep.mkBool⟩
  · cases e
theorem no_isnot : Op2 X rNotN oIsNot := by
  intro c x y z vx vy Q S rx ry e h
  unfold oIsNot at e
  split at e
  · cases e
    refine .inl ⟨ry.none, ?_⟩
    rw [isNone_ok rx]; exact fin0 S h Rep.mkBool
  · cases e
    exact .inr ⟨_, _, rx.bool, ry.bool, fin0 S h Rep.mkBool⟩
  · cases e
/-! ### in -/
def rInT (K : PySem.W.Frag) (neg : Bool) : R2 := fun x y H Q => ∃ d ds, Dp K H x d ∧ Dp K H y (.tuple ds) ∧ SeqAt.shaped d = true ∧ SeqAt.shaped (.tuple ds) = true ∧ Q (.bl (if neg then !ds.any (fun z => PyData.eqv z d) else ds.any fun z => PyData.eqv z d)) H
theorem room_shT {ds : List PyData} {d : PyData} {A : Around} (sd : SeqAt.shaped d = true) (hu : A.units + 65 < cLine) : A.units + 1 + min (PyData.depthAll ds) d.depth < cLine := by
  have h1 := SeqAt.depth_of_shaped sd
  have h2 : min (PyData.depthAll ds) d.depth ≤ d.depth := Nat.min_le_right _ _
  omega
theorem canLayT {ds : List PyData} (h : SeqAt.shaped (.tuple ds) = true) : PyData.canLayAll0 ds = true := by
  have := SeqAt.canLay_of_shaped h
  simpa [PyData.canLay0] using this
theorem op_inT (hu : X.A.units + 65 < cLine) : OpR X (compareOp .In) (rInT X.K false) := by
  intro pins s σ H x y v u Q I rx ry h
  obtain ⟨d, ds, hd, he, sd, se, q⟩ := h
  obtain ⟨as, r1⟩ := Dp.reads I d x v hd rx
  obtain ⟨bs, r2⟩ := Dp.reads I (.tuple ds) y u he ry
  exact SeqAt.in_tuple_reads r2 r1 (canLayT se) (SeqAt.canLay_of_shaped sd) (room_shT sd hu) ⟨.bl _, H, I, rfl, q⟩
theorem op_notInT (hu : X.A.units + 65 < cLine) : OpR X (compareOp .NotIn) (rInT X.K true) := by
  intro pins s σ H x y v u Q I rx ry h
  obtain ⟨d, ds, hd, he, sd, se, q⟩ := h
  obtain ⟨as, r1⟩ := Dp.reads I d x v hd rx
  obtain ⟨bs, r2⟩ := Dp.reads I (.tuple ds) y u he ry
  exact SeqAt.notIn_tuple_reads r2 r1 (canLayT se) (SeqAt.canLay_of_shaped sd) (room_shT sd hu) ⟨.bl _, H, I, rfl, q⟩
def inD : PyData → PyData → Option Bool
  | x, .list ys => if SeqAt.shaped x = true ∧ SeqAt.shaped (.list ys) = true then some (ys.any fun z => PyData.eqv z x) else none
  | x, .tuple ys => if SeqAt.shaped x = true ∧ SeqAt.shaped (.tuple ys) = true then some (ys.any fun z => PyData.eqv z x) else none
  | .str ⟨⟨[c]⟩⟩, .str z => some (decide (c ∈ z.cps.toList))
  | _, _ => none
def oIn (x y : PyData) : Option PyData := (inD x y).map PyData.bool
def oNotIn (x y : PyData) : Option PyData := (inD x y).map fun b => PyData.bool (!b)
def rInN (K : PySem.W.Frag) : R2 := fun x y H Q => rInD K x y H Q ∨ rInT K false x y H Q ∨ (∃ (c : Nat) (z : Str), x = .str ⟨#[c]⟩ ∧ y = .str z ∧ Q (.bl (decide (c ∈ z.cps.toList))) H)
def rNotInN (K : PySem.W.Frag) : R2 := fun x y H Q => rNotInD K x y H Q ∨ rInT K true x y H Q ∨ (∃ (c : Nat) (z : Str), x = .str ⟨#[c]⟩ ∧ y = .str z ∧ Q (.bl (!decide (c ∈ z.cps.toList))) H)
theorem op_inN (hu : X.A.units + 65 < cLine) : OpR X (compareOp .In) (rInN X.K) := (op_inD hu).or ((op_inT hu).or op_in_sign)
theorem op_notInN (hu : X.A.units + 65 < cLine) : OpR X (compareOp .NotIn) (rNotInN X.K) := (op_notInD hu).or ((op_notInT hu).or op_notIn_sign)
theorem no_in : Op2 X (rInN X.K) oIn := by
  intro c x y z vx vy Q S rx ry e h
  unfold oIn at e
  cases q : inD x y with
  | none => rw [q] at e; cases e
  | some b =>
    rw [q] at e
    cases e
    unfold inD at q
    split at q
    · split at q
      · rename_i hz
        cases q
        exact .inl ⟨_, _, rx.dp (SeqAt.canLay_of_shaped hz.1), ry.dp (SeqAt.canLay_of_shaped hz.2), hz.1, hz.2, fin0 S h Rep.mkBool⟩
      · cases q
    · split at q
      · rename_i hz
        cases q
        exact .inr (.inl ⟨_, _, rx.dp (SeqAt.canLay_of_shaped hz.1), ry.dp (SeqAt.canLay_of_shaped hz.2), hz.1, hz.2, fin0 S h Rep.mkBool⟩)
      · cases q
    · cases q
      exact .inr (.inr ⟨_, _, rx.str, ry.str, fin0 S h Rep.mkBool⟩)
    · cases q
theorem no_notin : Op2 X (rNotInN X.K) oNotIn := by
  intro c x y z vx vy Q S rx ry e h
  unfold oNotIn at e
  cases q : inD x y with
  | none => rw [q] at e; cases e
  | some b =>
    rw [q] at e
    cases e
    unfold inD at q
    split at q
    · split at q
      · rename_i hz
        cases q
        exact .inl ⟨_, _, rx.dp (SeqAt.canLay_of_shaped hz.1), ry.dp (SeqAt.canLay_of_shaped hz.2), hz.1, hz.2, fin0 S h Rep.mkBool⟩
      · cases q
    · split at q
      · rename_i hz
        cases q
        exact .inr (.inl ⟨_, _, rx.dp (SeqAt.canLay_of_shaped hz.1), ry.dp (SeqAt.canLay_of_shaped hz.2), hz.1, hz.2, fin0 S h Rep.mkBool⟩)
      · cases q
    · cases q
      exact .inr (.inr ⟨_, _, rx.str, ry.str, fin0 S h Rep.mkBool⟩)
    · cases q
end
/-! ### a < b < c -/
section
variable {X : Cx} {W : WX} {a b d : Expr} {p q u : Opd} {pos : Pos}
/-- the middle one is asked once; the answers are truth values -/
def nChain (o o' : PyData → PyData → Option PyData) (p q u : Opd) : NExp := fun n => (p.run n).bind fun x n1 => (q.run n1).bind fun y n2 => match x.get n2, y.get n2 with
  | some dx, some dy => match o dx dy with
    | some (.bool true) => (u.run n2).bind fun z n3 => match y.get n3, z.get n3 with
      | some ey, some dz => liftO (o' ey dz) n3
      | _, _ => .bad
    | some (.bool false) => .ok (.bool false) n2
    | _ => .bad
  | _, _ => .bad
theorem chain_st {ta tb tc : TE} {o o' : PyData → PyData → Option PyData} {r r' : R2} (sa : ∀ (c : Cf) (Q : VK), Sim X.K c → Pst X.K X.mg W (relV X.K) c Q (p.run c.n) → ta c.s c.H Q)
    (sb : ∀ (c : Cf) (Q : VK), Sim X.K c → Pst X.K X.mg W (relV X.K) c Q (q.run c.n) → tb c.s c.H Q) (sc : ∀ (c : Cf) (Q : VK), Sim X.K c → Pst X.K X.mg W (relV X.K) c Q (u.run c.n) → tc c.s c.H Q)
    (no : Op2 X r o) (no' : Op2 X r' o') {c : Cf} {Q : VK} (S : Sim X.K c) (h : Pst X.K X.mg W (relE X.K) c Q (nChain o o' p q u c.n)) : tChain r r' ta tb tc c.s c.H Q := by
  refine sa c _ S (Pst.seq (rel := relV X.K) mono_E h fun x n1 vx H1 F1 _ st1 S1 rx h1 => ?_)
  refine sb ⟨n1, c.s, H1, F1⟩ _ S1 (Pst.seq (rel := relV X.K) mono_E h1 fun y n2 vy H2 F2 _ st2 S2 ry h2 => ?_)
  cases ea : x.get n2 with
  | none => rw [ea] at h2; exact h2.elim
  | some dx =>
    cases eb : y.get n2 with
    | none => rw [ea, eb] at h2; exact h2.elim
    | some dy =>
      rw [ea, eb] at h2
      dsimp only at h2
      have rx2 : AVRep X.K ⟨n2, c.s, H2, F2⟩ x vx := AVRep.step st2 S1 rfl rx
      cases eo : o dx dy with
      | none => rw [eo] at h2; exact h2.elim
      | some z =>
        rw [eo] at h2
        cases z with
        | bool k =>
          refine no ⟨n2, c.s, H2, F2⟩ dx dy (.bool k) vx vy _ S2 (S2.avGet rx2 ea) (S2.avGet ry eb) eo fun v H3 F3 st3 S3 r3 => ⟨k, Rep.bool (K := X.K) (H := H3) (F := F3) r3, ?_⟩
          cases k with
          | false =>
            refine iteF ?_
            exact h2 _ H3 F3 st3 S3 Rep.mkBool
          | true =>
            refine iteT ?_
            have h3 : Pst X.K X.mg W (relE X.K) ⟨n2, c.s, H3, F3⟩ Q ((u.run n2).bind fun z n3 => match y.get n3, z.get n3 with
              | some ey, some dz => liftO (o' ey dz) n3
              | _, _ => .bad) := Pst.step (c := ⟨n2, c.s, H2, F2⟩) (c1 := ⟨n2, c.s, H3, F3⟩) mono_E rfl st3 h2
            refine sc ⟨n2, c.s, H3, F3⟩ _ S3 (Pst.seq (rel := relV X.K) mono_E h3 fun z n4 vz H4 F4 _ st4 S4 rz h4 => ?_)
            have ry4 : AVRep X.K ⟨n4, c.s, H4, F4⟩ y vy := AVRep.step st4 S3 rfl (AVRep.step st3 S2 rfl ry)
            cases ec : y.get n4 with
            | none => rw [ec] at h4; exact h4.elim
            | some ey =>
              cases ed : z.get n4 with
              | none => rw [ec, ed] at h4; exact h4.elim
              | some dz =>
                rw [ec, ed] at h4
                dsimp only at h4
                cases eo' : o' ey dz with
                | none => rw [eo'] at h4; exact h4.elim
                | some z' =>
                  rw [eo'] at h4
                  exact no' ⟨n4, c.s, H4, F4⟩ ey dz z' vy vz Q S4 (S4.avGet ry4 ec) (S4.avGet rz ed) eo' fun v H' F' st' S' r' => h4 v H' F' st' S' r'
        | _ => exact h2.elim
theorem ne_chain {op op' : CmpOp} {r r' : R2} {o o' : PyData → PyData → Option PyData} (ho : OpR X (compareOp op) r) (ho' : OpR X (compareOp op') r') (no : Op2 X r o) (no' : Op2 X r' o') (ha : NO X W a p) (hb : NO X W b q) (hc : NO X W d u)
    (hm : lastMarks [op, op'] [b, d] = false := by with_unfolding_all rfl) : NE X W (.Compare a [op, op'] [b, d] pos) (nChain o o' p q u) := by
  obtain ⟨ta, pa, sa⟩ := ha.ex
  obtain ⟨tb, pb, sb⟩ := hb.ex
  obtain ⟨tc, pc, sc⟩ := hc.ex
  exact ⟨_, pe_chain ho ho' pa pb pc hm, fun c Q S h => chain_st sa sb sc no no' S h⟩
theorem nt_chain {op op' : CmpOp} {r r' : R2} {o o' : PyData → PyData → Option PyData} (ho : OpR X (compareOp op) r) (ho' : OpR X (compareOp op') r') (no : Op2 X r o) (no' : Op2 X r' o') (ha : NO X W a p) (hb : NO X W b q) (hc : NO X W d u)
    (hm : lastMarks [op, op'] [b, d] = false := by with_unfolding_all rfl) : NT X W (.Compare a [op, op'] [b, d] pos) (asB (nChain o o' p q u)) := by
  obtain ⟨ta, pa, sa⟩ := ha.ex
  obtain ⟨tb, pb, sb⟩ := hb.ex
  obtain ⟨tc, pc, sc⟩ := hc.ex
  exact ⟨_, pt_chain ho ho' pa pb pc hm, fun c Q S h => asB_st (t := tChain r r' ta tb tc) (fun c Q S h => chain_st sa sb sc no no' S h) S h⟩
end
end NL
end L2
/-! NL5: statements, loops, defs and their calls. -/
namespace L2
namespace NL
open PySem PySem.Spec PyProof.Rows

structure NS (X : Cx) (W : WX) (st : Stmt) (f : NStm) : Prop where
  ex : ∃ t, PS X st t ∧ ∀ (c : Cf) (D : Ends), Sim X.K c → PstS X.K X.mg W c D (f c.n) → t D c.s c.H
structure NSs (X : Cx) (W : WX) (sts : List Stmt) (f : NStm) : Prop where
  ex : ∃ t, PSs X sts t ∧ ∀ (c : Cf) (D : Ends), Sim X.K c → PstS X.K X.mg W c D (f c.n) → t D c.s c.H
def NR.seq (r : NR) (k : NStm) : NR := match r with
  | .nx n => k n
  | r => r
def sNil : NStm := fun n => .nx n
def sSeq (f g : NStm) : NStm := fun n => (f n).seq g
section
variable {X : Cx} {W : WX} {st : Stmt} {rest : List Stmt} {f g : NStm} {e e2 : Expr} {v w : NExp} {pos : Pos}
theorem nss_nil : NSs X W [] sNil := ⟨tNext, pss_nil, fun c D S h => h c.s c.H c.F (Step.refl _) S⟩
theorem nss_one (h : NS X W st f) : NSs X W [st] f := let ⟨t, p, s⟩ := h.ex; ⟨t, pss_one p, s⟩
theorem nss_cons (h1 : NS X W st f) (h2 : NSs X W rest g) : NSs X W (st :: rest) (sSeq f g) := by
  obtain ⟨t, p, s⟩ := h1.ex
  obtain ⟨u, q, s2⟩ := h2.ex
  refine ⟨tSeq t u, pss_cons p q, fun c D S h => ?_⟩
  refine s c { D with nx := u D } S ?_
  unfold sSeq at h
  cases e : f c.n with
  | nx n =>
    rw [e] at h
    intro σ' H' F' st1 S1
    exact s2 ⟨n, σ', H', F'⟩ D S1 (PstS.step (c := c) st1 h)
  | ret d n => rw [e] at h; exact h
  | brk n => rw [e] at h; exact h
  | ct n => rw [e] at h; exact h
  | err x n => rw [e] at h; exact h
  | bad => rw [e] at h; exact h
def sPass : NStm := fun n => .nx n
theorem ns_pass : NS X W (.Pass pos) sPass := ⟨tNext, ps_pass, fun c D S h => h c.s c.H c.F (Step.refl _) S⟩
def sBreak : NStm := fun n => .brk n
theorem ns_break : NS X W (.Break pos) sBreak := ⟨tBreak, ps_break, fun c D S h => h c.s c.H c.F (Step.refl _) S⟩
def sCont : NStm := fun n => .ct n
theorem ns_cont : NS X W (.Continue pos) sCont := ⟨tCont, ps_continue, fun c D S h => h c.s c.H c.F (Step.refl _) S⟩
def sExpr (v : NExp) : NStm := fun n => (v n).st fun _ n' => .nx n'
theorem ns_expr (h : NE X W e v) (hs : swapsWith e none pos.line X.env = pure false := by rfl) : NS X W (.Expr e pos) (sExpr v) := by
  obtain ⟨t, p, s⟩ := h.ex
  refine ⟨tDrop t, ps_expr p hs, fun c D S q => ?_⟩
  exact s c _ S (Pst.seqS (rel := relE X.K) q fun d n' u H' F' _ st1 S1 r h1 => h1 c.s H' F' (Step.refl _) S1)
def sRet (v : NExp) : NStm := fun n => (v n).st fun d n' => .ret d n'
theorem ns_ret (h : NE X W e v) : NS X W (.Return (some e) pos) (sRet v) := by
  obtain ⟨t, p, s⟩ := h.ex
  refine ⟨tRet t, ps_ret p, fun c D S q => ?_⟩
  exact s c _ S (Pst.seqS (rel := relE X.K) q fun d n' u H' F' _ st1 S1 r h1 => h1 u c.s H' F' (Step.refl _) S1 r)
def sIf (t : NSt → R Bool) (f g : NStm) : NStm := fun n => (t n).st fun b n' => if b = true then f n' else g n'
theorem ns_if {c : Expr} {a b : List Stmt} {t : NSt → R Bool} (hc : NT X W c t) (ha : NSs X W a f) (hb : NSs X W b g) : NS X W (.If c a b pos) (sIf t f g) := by
  obtain ⟨tc, pc, sc⟩ := hc.ex
  obtain ⟨ta, pa, sa⟩ := ha.ex
  obtain ⟨tb, pb, sb⟩ := hb.ex
  refine ⟨tIfS tc ta tb, ps_if pc pa pb, fun c D S q => ?_⟩
  refine sc c _ S (Pst.seqS (rel := relT) q fun k n' k' H' F' _ st1 S1 r h1 => ?_)
  cases r
  cases k with
  | true => exact iteT (sa ⟨n', c.s, H', F'⟩ D S1 h1)
  | false => exact iteF (sb ⟨n', c.s, H', F'⟩ D S1 h1)

/-! ### targets -/
/-- a target: what it stores; vs: the slots that it may change -/
structure NG (X : Cx) (tg : Expr) (vs : List Nat) (g : PyData → NSt → Option NSt) : Prop where
  ex : ∃ t, PG X tg t ∧ ∀ (c : Cf) (d : PyData) (v : V) (n' : NSt) (Q : L2.St → Hp → Prop), Sim X.K c → Rep X.K c.H c.F d v → g d c.n = some n' →
    (∀ σ', Step c ⟨n', σ', c.H, c.F⟩ → Sim X.K ⟨n', σ', c.H, c.F⟩ → (∀ j, j ∉ vs → σ'[j]? = c.s[j]? ∧ n'[j]? = c.n[j]?) → σ'.length = c.s.length → Q σ' c.H) → t v c.s c.H Q
def gN (i : Nat) : PyData → NSt → Option NSt := fun d n => if notLent n i = true then some (n.set i (some (.val d))) else none
theorem ng_name (i : Nat) {x : Str} (hN : X.N.Nodup) (hi : X.N[i]? = some x) (hx : Loc X.env.scope x) (hf : X.fn x = true ∨ X.env.scope.names.lookup x = some .local := by first | exact .inl rfl | exact .inr rfl | assumption) : NG X (.Name x pos) [i] (gN i) := by
  refine ⟨gName i, pg_name hN hi hx hf, fun c d v n' Q S r e h => ?_⟩
  unfold gN at e
  split at e
  · rename_i hl
    cases e
    obtain ⟨S', st'⟩ := S.setVal hl r
    refine h _ st' S' (fun j hj => ?_) (by simp)
    have hj' : i ≠ j := fun z => hj (by simp [z])
    exact ⟨by rw [List.getElem?_set_ne hj'], by rw [List.getElem?_set_ne hj']⟩
  · cases e
/-- several targets -/
structure NGs (X : Cx) (tgs : List Expr) (vs : List Nat) (g : List PyData → NSt → Option NSt) : Prop where
  ex : ∃ t, PGs X tgs t ∧ ∀ (c : Cf) (ds : List PyData) (ws : List V) (n' : NSt) (Q : L2.St → Hp → Prop), Sim X.K c → Reps X.K c.H c.F ds ws → g ds c.n = some n' →
    (∀ σ', Step c ⟨n', σ', c.H, c.F⟩ → Sim X.K ⟨n', σ', c.H, c.F⟩ → (∀ j, j ∉ vs → σ'[j]? = c.s[j]? ∧ n'[j]? = c.n[j]?) → σ'.length = c.s.length → Q σ' c.H) → t ws c.s c.H Q
def gNil' : List PyData → NSt → Option NSt
  | [], n => some n
  | _, _ => none
def gCons' (g : PyData → NSt → Option NSt) (gs : List PyData → NSt → Option NSt) : List PyData → NSt → Option NSt
  | d :: ds, n => (g d n).bind (gs ds)
  | _, _ => none
theorem ngs_nil : NGs X [] [] gNil' := by
  refine ⟨gNil, pgs_nil, fun c ds ws n' Q S r e h => ?_⟩
  cases ds with
  | nil =>
    unfold Reps at r
    subst r
    cases e
    exact ⟨rfl, h c.s (Step.refl _) S (fun _ _ => ⟨rfl, rfl⟩) rfl⟩
  | cons d ds => cases e
theorem ngs_cons {tg : Expr} {tgs : List Expr} {vs ws : List Nat} {g : PyData → NSt → Option NSt} {gs : List PyData → NSt → Option NSt} (h1 : NG X tg vs g) (h2 : NGs X tgs ws gs)
    (hs : (assignEach (tg :: tgs) X.env).map (·.2) = assign tg X.env :: (assignEach tgs X.env).map (·.2) := by rfl) : NGs X (tg :: tgs) (vs ++ ws) (gCons' g gs) := by
  obtain ⟨t, p, s⟩ := h1.ex
  obtain ⟨u, q, s2⟩ := h2.ex
  refine ⟨gCons t u, pgs_cons p q hs, fun c ds us n' Q S r e h => ?_⟩
  cases ds with
  | nil => cases e
  | cons d ds =>
    unfold Reps at r
    obtain ⟨v, vs', rfl, r1, r2⟩ := r
    have e' : (g d c.n).bind (gs ds) = some n' := e
    cases eg : g d c.n with
    | none => rw [eg] at e'; cases e'
    | some n1 =>
      rw [eg] at e'
      refine ⟨v, vs', rfl, s c d v n1 _ S r1 eg fun σ1 st1 S1 k1 l1 => ?_⟩
      refine s2 ⟨n1, σ1, c.H, c.F⟩ ds vs' n' Q S1 r2 e' fun σ2 st2 S2 k2 l2 => h σ2 (st1.trans st2) S2 (fun j hj => ?_) (l2.trans l1)
      have hj1 : j ∉ vs := fun z => hj (List.mem_append_left _ z)
      have hj2 : j ∉ ws := fun z => hj (List.mem_append_right _ z)
      exact ⟨(k2 j hj2).1.trans (k1 j hj1).1, (k2 j hj2).2.trans (k1 j hj1).2⟩
def gT (gs : List PyData → NSt → Option NSt) : PyData → NSt → Option NSt
  | .tuple ds, n => gs ds n
  | _, _ => none
theorem gs_len {tgs : List Expr} {vs : List Nat} {gs : List PyData → NSt → Option NSt} (k : Nat) (hk : ∀ ds n n', gs ds n = some n' → ds.length = k) : ∀ ds n n', gs ds n = some n' → ds.length = k := hk
theorem gNil_len : ∀ ds n n', gNil' ds n = some n' → ds.length = 0 := fun ds n n' h => by
  cases ds with
  | nil => rfl
  | cons => cases h
theorem gCons_len {g : PyData → NSt → Option NSt} {gs : List PyData → NSt → Option NSt} {k : Nat} (h : ∀ ds n n', gs ds n = some n' → ds.length = k) : ∀ ds n n', gCons' g gs ds n = some n' → ds.length = k + 1 := fun ds n n' e => by
  cases ds with
  | nil => cases e
  | cons d ds =>
    have e' : (g d n).bind (gs ds) = some n' := e
    cases eg : g d n with
    | none => rw [eg] at e'; cases e'
    | some n1 =>
      rw [eg] at e'
      simp [h ds n1 n' e']
theorem ng_tup {es : List Expr} {k x1 : Nat} {vs : List Nat} {gs : List PyData → NSt → Option NSt} (hc : X.calm = true) (h : NGs X es vs gs) (hk : ∀ ds n n', gs ds n = some n' → ds.length = k)
    (hn : (assignEach es X.env).length = k := by rfl) (hst : (assignEach es X.env).findIdx? (·.1) = none := by rfl) : NG X (.Tuple es x1 pos) vs (gT gs) := by
  obtain ⟨t, p, s⟩ := h.ex
  refine ⟨gTup X.K k t, pg_tup hc p hn hst, fun c d v n' Q S r e q => ?_⟩
  cases d with
  | tuple ds =>
    obtain ⟨a, xs, rfl, hq, rs⟩ := Rep.tuple (K := X.K) (H := c.H) (F := c.F) r
    exact ⟨a, xs, rfl, hq, by rw [rs.length]; exact hk _ _ _ e, s c ds xs n' Q S rs e q⟩
  | _ => cases e
/-! ### assignments -/
def sAsg (v : NExp) (g : PyData → NSt → Option NSt) : NStm := fun n => (v n).st fun d n1 => match g d n1 with
  | some n2 => .nx n2
  | none => .bad
theorem ns_asg {tg : Expr} {vs : List Nat} {gg : PyData → NSt → Option NSt} (he : NE X W e v) (hg : NG X tg vs gg) (hs : swapsWithSole [tg] e pos.line X.env = pure false := by rfl) (hw : swappedStores [tg] e X.env = pure none := by rfl)
    (ha : (assignEach [tg] X.env).map (·.2) = [assign tg X.env] := by rfl) : NS X W (.Assign [tg] e pos) (sAsg v gg) := by
  obtain ⟨t, p, s⟩ := he.ex
  obtain ⟨u, q, s2⟩ := hg.ex
  refine ⟨tAsg t u, ps_asg p q hs hw ha, fun c D S h => ?_⟩
  refine s c _ S (Pst.seqS (rel := relE X.K) h fun d n1 x H1 F1 _ st1 S1 r h1 => ?_)
  cases eg : gg d n1 with
  | none => rw [eg] at h1; exact h1.elim
  | some n2 =>
    rw [eg] at h1
    exact s2 ⟨n1, c.s, H1, F1⟩ d x n2 _ S1 r eg fun σ2 st2 S2 _ _ => h1 σ2 H1 F1 st2 S2
/-- x = [..] where x's own list it becomes -/
def sOwn (i : Nat) (fo : NSt → R (List PyData)) : NStm := fun n => (fo n).st fun xs n1 => if notLent n1 i = true then .nx (n1.set i (some (.own xs))) else .bad
theorem own_st {i : Nat} {fo : NSt → R (List PyData)} {t : TE} (s : ∀ (c : Cf) (Q : VK), Sim X.K c → Pst X.K X.mg W (relO X.K) c Q (fo c.n) → t c.s c.H Q) {c : Cf} {D : Ends} (S : Sim X.K c) (h : PstS X.K X.mg W c D (sOwn i fo c.n)) :
    t c.s c.H fun x H1 => D.nx (c.s.set i (some x)) H1 := by
  refine s c _ S ?_
  unfold sOwn at h
  cases q : fo c.n with
  | ok xs n1 =>
    rw [q] at h
    intro x H1 F1 st1 S1 r
    have h' : PstS X.K X.mg W c D (if notLent n1 i = true then .nx (n1.set i (some (.own xs))) else .bad) := h
    split at h'
    · rename_i hl
      obtain ⟨S2, st2⟩ := Sim.setOwn st1 S1 hl r
      exact h' _ _ _ st2 S2
    · exact h'.elim
  | err x n1 => rw [q] at h; exact fun cls d H' F' s1 S1 r1 => h cls d c.s H' F' s1 S1 r1
  | bad => rw [q] at h; exact h
theorem ns_own (i : Nat) {x : Str} {pos' : Pos} {fo : NSt → R (List PyData)} (hN : X.N.Nodup) (hi : X.N[i]? = some x) (hx : Loc X.env.scope x) (he : NEo X W e fo) (hs : swapsWith e (some (.Name x pos')) pos.line X.env = pure false := by rfl)
    (hf : X.fn x = true ∨ X.env.scope.names.lookup x = some .local := by first | exact .inl rfl | exact .inr rfl | assumption) : NS X W (.Assign [.Name x pos'] e pos) (sOwn i fo) := by
  obtain ⟨t, p, s⟩ := he.ex
  exact ⟨_, ps_set hN hi hx p hs hf, fun c D S h => own_st s S h⟩
/-! ### loops -/
/-- what a for walks: it yields the items ds -/
def Gives (K : PySem.W.Frag) (J : It) (ds : List PyData) (c1 : Cf) : Prop := ∀ c2 : Cf, Step c1 c2 → Sim K c2 → ∀ i, i ≤ ds.length →
  (∀ d, ds[i]? = some d → J.go i c2.H ∧ ∀ x H', J.yld i c2.H x H' → ∃ F', Step c2 ⟨c2.n, c2.s, H', F'⟩ ∧ Sim K ⟨c2.n, c2.s, H', F'⟩ ∧ Rep K H' F' d x) ∧ (i = ds.length → J.stop i c2.H)
structure NI (X : Cx) (W : WX) (tg iter : Expr) (f : NSt → R (List PyData)) : Prop where
  ex : ∃ wi, PI X tg iter wi ∧ ∀ (c : Cf) (Q : It → Hp → Prop), Sim X.K c → Pst X.K X.mg W (fun _ c1 ds J => Gives X.K J ds c1) c Q (f c.n) → wi c.s c.H Q
def sForL (g : PyData → NSt → Option NSt) (body : NStm) : List PyData → NStm
  | [], n => .nx n
  | d :: ds, n => match g d n with
    | none => .bad
    | some n1 => match body n1 with
      | .nx n2 => sForL g body ds n2
      | .ct n2 => sForL g body ds n2
      | .brk n2 => .nx n2
      | r => r
def sFor (fi : NSt → R (List PyData)) (g : PyData → NSt → Option NSt) (body : NStm) : NStm := fun n => (fi n).st fun ds n1 => sForL g body ds n1
theorem mono_I {K : PySem.W.Frag} : Mono (fun _ c1 ds J => Gives K J ds c1) := fun _ _ _ _ _ _ h => h
theorem ns_for {tg iter : Expr} {body : List Stmt} {vs : List Nat} {gg : PyData → NSt → Option NSt} {fi : NSt → R (List PyData)} (hp : PassesOwn (model X.prog X.w) X.A X.env X.xe) (hc : X.calm = true) (hi : NI X W tg iter fi) (hg : NG X tg vs gg) (hb : NSs X W body f)
    (hs : ∀ x, foldedSetIterable iter X.env x = pure x := by intro _; rfl) : NS X W (.For tg iter body [] pos) (sFor fi gg f) := by
  obtain ⟨wi, pi, si⟩ := hi.ex
  obtain ⟨t, pg, sg⟩ := hg.ex
  obtain ⟨tb, pb, sb⟩ := hb.ex
  refine ⟨tFor wi t tb, ps_for hp hc pi pg pb hs, fun c D S h => ?_⟩
  refine si c _ S (Pst.seqS (rel := fun _ c1 ds J => Gives X.K J ds c1) h fun ds n1 J H1 F1 _ st1 S1 gv h1 => ?_)
  let c1 : Cf := ⟨n1, c.s, H1, F1⟩
  refine ⟨fun i m σ H => ∃ c2 : Cf, c2.s = σ ∧ c2.H = H ∧ i ≤ ds.length ∧ m = ds.length - i ∧ Step c1 c2 ∧ Sim X.K c2 ∧ PstS X.K X.mg W c2 D (sForL gg f (ds.drop i) c2.n), ⟨ds.length, c1, rfl, rfl, Nat.zero_le _, rfl, Step.refl _, S1, h1⟩, ?_⟩
  rintro i m σ H ⟨c2, rfl, rfl, hi, rfl, st2, S2, h2⟩
  obtain ⟨gi, gs⟩ := gv c2 st2 S2 i hi
  by_cases hlt : i < ds.length
  · have ed : ds[i]? = some ds[i] := List.getElem?_eq_getElem hlt
    obtain ⟨go, gy⟩ := gi _ ed
    have edr : ds.drop i = ds[i] :: ds.drop (i + 1) := List.drop_eq_getElem_cons hlt
    rw [edr] at h2
    refine .inr ⟨go, fun σ' H' => ∃ c3 : Cf, c3.s = σ' ∧ c3.H = H' ∧ Step c1 c3 ∧ Sim X.K c3 ∧ PstS X.K X.mg W c3 D (sForL gg f (ds.drop (i + 1)) c3.n), fun σ' H' ⟨c3, e1, e2, st3, S3, h3⟩ => ⟨ds.length - (i + 1), by omega, c3, e1, e2, hlt, rfl, st3, S3, h3⟩, fun x H' y => ?_⟩
    obtain ⟨F', st3, S3, r3⟩ := gy x H' y
    unfold sForL at h2
    cases eg : gg ds[i] c2.n with
    | none => rw [eg] at h2; exact h2.elim
    | some n3 =>
      rw [eg] at h2
      refine sg ⟨c2.n, c2.s, H', F'⟩ _ x n3 _ S3 r3 eg fun σ4 st4 S4 _ _ => ?_
      have st24 : Step c2 ⟨n3, σ4, H', F'⟩ := st3.trans st4
      refine sb ⟨n3, σ4, H', F'⟩ _ S4 ?_
      dsimp only at h2
      cases er : f n3 with
      | nx n5 =>
        rw [er] at h2
        exact fun σ5 H5 F5 st5 S5 => ⟨⟨n5, σ5, H5, F5⟩, rfl, rfl, st2.trans (st24.trans st5), S5, PstS.step (c := c2) (st24.trans st5) h2⟩
      | ct n5 =>
        rw [er] at h2
        exact fun σ5 H5 F5 st5 S5 => ⟨⟨n5, σ5, H5, F5⟩, rfl, rfl, st2.trans (st24.trans st5), S5, PstS.step (c := c2) (st24.trans st5) h2⟩
      | brk n5 =>
        rw [er] at h2
        exact fun σ5 H5 F5 st5 S5 => h2 σ5 H5 F5 (st24.trans st5) S5
      | ret d n5 =>
        rw [er] at h2
        exact fun v5 σ5 H5 F5 st5 S5 r5 => h2 v5 σ5 H5 F5 (st24.trans st5) S5 r5
      | err x n5 =>
        rw [er] at h2
        exact fun cls d5 σ5 H5 F5 st5 S5 r5 => h2 cls d5 σ5 H5 F5 (st24.trans st5) S5 r5
      | bad => rw [er] at h2; exact h2.elim
  · have e : i = ds.length := by omega
    subst e
    refine .inl ⟨gs rfl, ?_⟩
    rw [List.drop_length] at h2
    exact h2 c2.s c2.H c2.F (Step.refl _) S2
/-- at most so many turns -/
def sWhile : Nat → (NSt → R Bool) → NStm → NStm
  | 0, _, _, _ => .bad
  | k + 1, t, body, n => (t n).st fun b n1 => if b = true then (match body n1 with
      | .nx n2 => sWhile k t body n2
      | .ct n2 => sWhile k t body n2
      | .brk n2 => .nx n2
      | r => r) else .nx n1
theorem ns_while (k : Nat) {c : Expr} {body : List Stmt} {t : NSt → R Bool} (hp : PassesOwn (model X.prog X.w) X.A X.env X.xe) (hc : NT X W c t) (hb : NSs X W body f) : NS X W (.While c body [] pos) (sWhile k t f) := by
  obtain ⟨tc, pc, sc⟩ := hc.ex
  obtain ⟨tb, pb, sb⟩ := hb.ex
  refine ⟨tWhile tc tb, ps_while hp pc pb, fun c D S h => ?_⟩
  refine ⟨fun m σ H => ∃ c2 : Cf, c2.s = σ ∧ c2.H = H ∧ Step c c2 ∧ Sim X.K c2 ∧ PstS X.K X.mg W c2 D (sWhile m t f c2.n), ⟨k, c, rfl, rfl, Step.refl _, S, h⟩, ?_⟩
  rintro m σ H ⟨c2, rfl, rfl, st2, S2, h2⟩
  cases m with
  | zero => exact h2.elim
  | succ m =>
    refine sc c2 _ S2 (Pst.seqS (rel := relT) h2 fun b n3 b' H3 F3 _ st3 S3 r h3 => ?_)
    cases r
    cases b with
    | false => exact iteF (h3 c2.s H3 F3 (Step.refl _) S3)
    | true =>
      refine iteT ⟨fun σ' H' => ∃ c3 : Cf, c3.s = σ' ∧ c3.H = H' ∧ Step c c3 ∧ Sim X.K c3 ∧ PstS X.K X.mg W c3 D (sWhile m t f c3.n), fun σ' H' q => ⟨m, Nat.lt_succ_self m, q⟩, ?_⟩
      refine sb ⟨n3, c2.s, H3, F3⟩ _ S3 ?_
      have h3 : PstS X.K X.mg W ⟨n3, c2.s, H3, F3⟩ D (match f n3 with
        | .nx n2 => sWhile m t f n2
        | .ct n2 => sWhile m t f n2
        | .brk n2 => .nx n2
        | r => r) := h3
      have st23 : Step c ⟨n3, c2.s, H3, F3⟩ := st2.trans st3
      cases er : f n3 with
      | nx n5 =>
        rw [er] at h3
        exact fun σ5 H5 F5 st5 S5 => ⟨⟨n5, σ5, H5, F5⟩, rfl, rfl, st23.trans st5, S5, PstS.step (c := ⟨n3, c2.s, H3, F3⟩) st5 h3⟩
      | ct n5 =>
        rw [er] at h3
        exact fun σ5 H5 F5 st5 S5 => ⟨⟨n5, σ5, H5, F5⟩, rfl, rfl, st23.trans st5, S5, PstS.step (c := ⟨n3, c2.s, H3, F3⟩) st5 h3⟩
      | brk n5 => rw [er] at h3; exact h3
      | ret d n5 => rw [er] at h3; exact h3
      | err x n5 => rw [er] at h3; exact h3
      | bad => rw [er] at h3; exact h3.elim
end

/-! ### defs -/
/-- a def's promise: g, over its arguments -/
def NProm (K : PySem.W.Frag) (mg : Str → Option Value) (k : Nat) (g : NExp) : Sp := fun vs H Q E => ∃ (a : NSt) (F : Fz), a.length = k ∧ (∀ (i : Nat) (xs : List PyData), a[i]? ≠ some (some (Sl.own xs))) ∧ (∀ o ∈ a, o ≠ none) ∧ Sim K ⟨a, vs.map some, H, F⟩ ∧
  Pst K mg (fun cls d _ H' => E cls d H') (relE K) ⟨a, vs.map some, H, F⟩ Q (g a)
/-- a def of the text, where it stands, what it promises -/
structure NFn (P : Program) (w : World) (K : PySem.W.Frag) (mg : Str → Option Value) (base : Heap) (k : Nat) (x : Str) (n : Nat) (g : NExp) : Prop where
  ex : ∃ (f : Addr) (fd : FuncData) (ps : List Str), FnOk P w K mg base (L2.CX P w) k f fd ps (NProm K mg n g) ∧ mg x = some (.ref f) ∧ PySem.W.keepIn K (.ref f) = true ∧ Binds K fd ps []
theorem NFn.mono {P : Program} {w : World} {K : PySem.W.Frag} {mg : Str → Option Value} {base : Heap} {k k' : Nat} {x : Str} {n : Nat} {g : NExp} (h : NFn P w K mg base k x n g) (hk : k ≤ k') : NFn P w K mg base k' x n g :=
  let ⟨f, fd, ps, F, m, kp, b⟩ := h.ex; ⟨f, fd, ps, F.mono hk, m, kp, b⟩
def outs (a n' : NSt) : NSt := List.zipWith (fun s s' => match s with
  | some (.lent _) => s'
  | s => s) a n'
def runD (N : Nat) (body : NStm) : NExp := fun a => match body (a ++ List.replicate (N - a.length) none) with
  | .ret d n' => .ok d (outs a n')
  | .nx n' => .ok .none (outs a n')
  | .err x n' => .err x (outs a n')
  | _ => .bad
theorem outs_get {a n' : NSt} {i : Nat} {s : Option Sl} (h : a[i]? = some s) (hl : a.length ≤ n'.length) : (outs a n')[i]? = some (match s with
  | some (.lent _) => n'[i]?.getD none
  | s => s) := by
  unfold outs
  have hi : i < a.length := lt_of_get h
  have hi' : i < n'.length := Nat.lt_of_lt_of_le hi hl
  rw [List.getElem?_zipWith]
  cases s with
  | none => simp [h, List.getElem?_eq_getElem hi']
  | some sl => cases sl <;> simp [h, List.getElem?_eq_getElem hi']
theorem outs_len {a n' : NSt} (hl : a.length ≤ n'.length) : (outs a n').length = a.length := by
  unfold outs
  rw [List.length_zipWith]
  omega
section
variable {K : PySem.W.Frag}
/-- behind a body, seen by its arguments -/
theorem Sim.outs {a n' : NSt} {vs : List V} {H H' : Hp} {F F' : Fz} {N : Nat} {σ' : L2.St} (S0 : Sim K ⟨a, vs.map some, H, F⟩) (hl : a.length ≤ N) (no : ∀ (i : Nat) (xs : List PyData), a[i]? ≠ some (some (Sl.own xs)))
    (st : Step ⟨a ++ List.replicate (N - a.length) none, vs.map some ++ List.replicate (N - a.length) none, H, F⟩ ⟨n', σ', H', F'⟩) (S : Sim K ⟨n', σ', H', F'⟩) :
    Step ⟨a, vs.map some, H, F⟩ ⟨NL.outs a n', vs.map some, H', F'⟩ ∧ Sim K ⟨NL.outs a n', vs.map some, H', F'⟩ := by
  have hN : n'.length = N := by
    have := st.ln
    simp only [List.length_append, List.length_replicate] at this
    omega
  have hln : a.length ≤ n'.length := by omega
  have hav : a.length = (vs.map some).length := S0.len
  have big : ∀ (i : Nat) (s : Sl), a[i]? = some (some s) → (a ++ List.replicate (N - a.length) none)[i]? = some (some s) := fun i s e => by
    rw [List.getElem?_append_left (lt_of_get e)]; exact e
  have small : ∀ (i : Nat) (s : Sl), (a ++ List.replicate (N - a.length) none)[i]? = some (some s) → a[i]? = some (some s) ∧ i < a.length := fun i s e => by
    by_cases hi : i < a.length
    · rw [List.getElem?_append_left hi] at e
      exact ⟨e, hi⟩
    · rw [List.getElem?_append_right (by omega), List.getElem?_replicate] at e
      split at e <;> cases e
  have sv : ∀ (i : Nat), i < a.length → (vs.map some ++ List.replicate (N - a.length) none : L2.St)[i]? = (vs.map some)[i]? := fun i hi => List.getElem?_append_left (by rw [← hav]; exact hi)
  let cA : Cf := ⟨a, vs.map some, H, F⟩
  let c0 : Cf := ⟨a ++ List.replicate (N - a.length) none, vs.map some ++ List.replicate (N - a.length) none, H, F⟩
  have hd0 : ∀ b, c0.Hd b → cA.Hd b := fun b ⟨i, s, e1, e2, e3⟩ => by
    obtain ⟨e4, hi⟩ := small i s e1
    exact ⟨i, s, e4, e2, by rw [← sv i hi]; exact e3⟩
  have hdA : ∀ b, cA.Hd b → c0.Hd b := fun b ⟨i, s, e1, e2, e3⟩ => ⟨i, s, big i s e1, e2, by
    show (vs.map some ++ List.replicate (N - a.length) none : L2.St)[i]? = _
    rw [sv i (lt_of_get e1)]; exact e3⟩
  have ow0 : ∀ b, ¬ c0.Ow b := fun b ⟨i, xs, e1, e2⟩ => no i xs (small i _ e1).1
  have frA : ∀ b, F b → F' b ∧ H' b = H b := fun b f => ⟨st.fz b f, st.keep b (S0.fz b f) fun z => S0.nohd (c := cA) f (hd0 b z)⟩
  -- a lent slot
  have lent : ∀ (i : Nat) (xs : List PyData), a[i]? = some (some (.lent xs)) → ∃ ys, n'[i]? = some (some (.lent ys)) ∧ σ'[i]? = (vs.map some)[i]? ∧ (NL.outs a n')[i]? = some (some (.lent ys)) := fun i xs e => by
    obtain ⟨ys, e1, e2⟩ := st.mu i xs (big i _ e)
    have e1' : n'[i]? = some (some (.lent ys)) := e1
    refine ⟨ys, e1', by rw [← sv i (lt_of_get e)]; exact e2, ?_⟩
    rw [outs_get e hln]
    show some (n'[i]?.getD none) = _
    rw [e1']; rfl
  have slotOf : ∀ (i : Nat) (s : Sl), (NL.outs a n')[i]? = some (some s) → (∃ xs, s = .lent xs ∧ ∃ ys, a[i]? = some (some (.lent ys)) ∧ n'[i]? = some (some (.lent xs)) ∧ σ'[i]? = (vs.map some)[i]?) ∨ (a[i]? = some (some s) ∧ s.held = false) := fun i s e => by
    have hi : i < a.length := by
      have := lt_of_get e
      rw [outs_len hln] at this; exact this
    cases q : a[i]? with
    | none => rw [List.getElem?_eq_getElem hi] at q; cases q
    | some o =>
      cases o with
      | none =>
        rw [outs_get q hln] at e
        cases e
      | some t =>
        cases t with
        | lent ys =>
          obtain ⟨zs, e1, e2, e3⟩ := lent i ys q
          rw [e3] at e
          cases e
          exact .inl ⟨zs, rfl, ys, rfl, e1, e2⟩
        | own ys => exact absurd q (no i ys)
        | val d =>
          rw [outs_get q hln] at e
          cases e
          exact .inr ⟨rfl, rfl⟩
        | scr d =>
          rw [outs_get q hln] at e
          cases e
          exact .inr ⟨rfl, rfl⟩
  have hdO : ∀ b, (⟨NL.outs a n', vs.map some, H', F'⟩ : Cf).Hd b → cA.Hd b := fun b ⟨i, s, e1, e2, e3⟩ => by
    rcases slotOf i s e1 with ⟨xs, rfl, ys, h1, h2, h3⟩ | ⟨h1, h2⟩
    · exact ⟨i, _, h1, rfl, e3⟩
    · rw [h2] at e2; cases e2
  refine ⟨⟨fun b n nh => st.keep b n fun z => nh (hd0 b z), st.live, st.fz, fun b f => ?_, fun b h => .inl (hdO b h), fun b ⟨i, xs, e1, e2⟩ => ?_, fun i xs e => ?_, outs_len hln⟩, ⟨by rw [show (NL.outs a n').length = a.length from outs_len hln]; exact hav, fun i s e => ?_, fun i j si sj b e1 e2 h1 h2 q1 q2 => ?_, S.fz⟩⟩
  · rcases st.fn b f with z | z | z
    · exact .inl z
    · exact .inr (.inl z)
    · exact absurd z (ow0 b)
  · rcases slotOf i _ e1 with ⟨zs, z, _⟩ | ⟨h1, h2⟩
    · cases z
    · cases h2
  · obtain ⟨ys, _, _, e3⟩ := lent i xs e
    exact ⟨ys, e3, rfl⟩
  · rcases slotOf i s e with ⟨xs, rfl, ys, h1, h2, h3⟩ | ⟨h1, h2⟩
    · obtain ⟨v, e1, r⟩ := S.slot i _ h2
      exact ⟨v, by show (vs.map some)[i]? = _; rw [← h3]; exact e1, r⟩
    · obtain ⟨v, e1, r⟩ := S0.slot i s h1
      refine ⟨v, e1, ?_⟩
      cases s with
      | val d => exact Rep.keep frA d v r
      | own d => cases h2
      | lent d => cases h2
      | scr d =>
        obtain ⟨b, ns, e2, e3, z⟩ := r
        refine ⟨b, ns, e2, e3, ?_⟩
        rcases z with ⟨o, z⟩ | z
        · refine .inl ⟨o, (st.keep b (by show H b ≠ none; rw [show H b = _ from z]; simp) fun hh => ?_).trans z⟩
          obtain ⟨k, t, q1, q2, q3⟩ := hd0 b hh
          obtain ⟨u, q4, q5⟩ := S0.slot k t q1
          have q3' : (vs.map some)[k]? = some (some (V.ref b)) := q3
          have q4' : (vs.map some)[k]? = some (some u) := q4
          rw [q3'] at q4'
          cases q4'
          cases t with
          | val d => cases q2
          | scr d => cases q2
          | own d =>
            obtain ⟨b', ws, y1, _, y2, _⟩ := q5
            cases y1
            have z2 := z.symm.trans y2
            cases z2
          | lent d =>
            obtain ⟨b', ws, y1, _, y2, _⟩ := q5
            cases y1
            have z2 := z.symm.trans y2
            cases z2
        · exact .inr z
  · have low : ∀ (i : Nat) (s : Sl), (NL.outs a n')[i]? = some (some s) → s.held = true → ∃ t : Sl, a[i]? = some (some t) ∧ t.held = true := fun i s e hh => by
      rcases slotOf i s e with ⟨xs, rfl, ys, h1, h2, h3⟩ | ⟨h1, h2⟩
      · exact ⟨_, h1, rfl⟩
      · rw [h2] at hh; cases hh
    obtain ⟨t1, z1, y1⟩ := low i si e1 h1
    obtain ⟨t2, z2, y2⟩ := low j sj e2 h2
    exact S0.sep i j t1 t2 b z1 z2 y1 y2 q1 q2
theorem map_some_none {vs : List V} {m : Nat} : (vs.map some ++ List.replicate m none : L2.St) = vs.map some ++ List.replicate m none := rfl
/-- ahead of a body -/
theorem Sim.enter {a : NSt} {vs : List V} {H : Hp} {F : Fz} (S : Sim K ⟨a, vs.map some, H, F⟩) (m : Nat) : Sim K ⟨a ++ List.replicate m none, vs.map some ++ List.replicate m none, H, F⟩ := by
  have hav : a.length = (vs.map some).length := S.len
  have small : ∀ (i : Nat) (s : Sl), (a ++ List.replicate m none)[i]? = some (some s) → a[i]? = some (some s) ∧ i < a.length := fun i s e => by
    by_cases hi : i < a.length
    · rw [List.getElem?_append_left hi] at e
      exact ⟨e, hi⟩
    · rw [List.getElem?_append_right (by omega), List.getElem?_replicate] at e
      split at e <;> cases e
  have sv : ∀ (i : Nat), i < a.length → (vs.map some ++ List.replicate m none : L2.St)[i]? = (vs.map some)[i]? := fun i hi => List.getElem?_append_left (by rw [← hav]; exact hi)
  refine ⟨by simp only [List.length_append, List.length_replicate]; rw [hav], fun i s e => ?_, fun i j si sj b e1 e2 h1 h2 q1 q2 => ?_, S.fz⟩
  · obtain ⟨e1, hi⟩ := small i s e
    obtain ⟨v, e2, r⟩ := S.slot i s e1
    exact ⟨v, by show (vs.map some ++ List.replicate m none : L2.St)[i]? = _; rw [sv i hi]; exact e2, r⟩
  · obtain ⟨e1, hi⟩ := small i si e1
    obtain ⟨e2, hj⟩ := small j sj e2
    refine S.sep i j si sj b e1 e2 h1 h2 ?_ ?_
    · show (vs.map some)[i]? = _
      rw [← sv i hi]; exact q1
    · show (vs.map some)[j]? = _
      rw [← sv j hj]; exact q2
end
section
variable {P : Program} {w : World} {K : PySem.W.Frag} {mg : Str → Option Value} {base : Heap}
/-- THE RULE for a def -/
theorem NFn.ok {nm qual : Str} {params : Arguments} {sbody : List Stmt} {scope : Scope} {f : Addr} {fd : FuncData} {N ps : List Str} {k n : Nat} {body : NStm} (F : FunD K nm qual params sbody scope [] [] f fd) (S : FnScope N ps scope)
    (hn : n = ps.length)
    (hbody : ∀ (cdv : Value) (A : Around) (outer : List Env) (s : Shared) (H : Hp) (E : XK), Room k (A.deeper (envOfC qual scope s.heap.objs.size f cdv)) →
      NSs (cxOf (L2.CX P w) P w K mg base N qual scope f cdv A outer s H E) (fun cls d _ H' => E cls d H') sbody body) : FnOk P w K mg base (L2.CX P w) (k + 1) f fd ps (NProm K mg n (runD N.length body)) := by
  refine F.ok S (fun vs H Q E ⟨a, F', hl, _, _, S0, _⟩ => ?_) fun cdv A outer s H vs Q E hr hsp => ?_
  · have h1 : a.length = (vs.map some).length := S0.len
    rw [List.length_map] at h1
    omega
  · obtain ⟨t, p, sd⟩ := (hbody cdv A outer s H E hr).ex
    refine ⟨t, p, ?_⟩
    obtain ⟨a, F', hl, no, _, S0, q⟩ := hsp
    have h1 : a.length = (vs.map some).length := S0.len
    have hvl : vs.length = a.length := by rw [List.length_map] at h1; exact h1.symm
    have hN : a.length ≤ N.length := by
      have := congrArg List.length S.pre
      rw [List.length_take] at this
      omega
    have est : start N vs = vs.map some ++ List.replicate (N.length - a.length) none := by
      unfold start
      rw [hvl]
    rw [est]
    refine sd ⟨a ++ List.replicate (N.length - a.length) none, vs.map some ++ List.replicate (N.length - a.length) none, H, F'⟩ _ (S0.enter _) ?_
    unfold runD at q
    cases er : body (a ++ List.replicate (N.length - a.length) none) with
    | nx n' =>
      rw [er] at q
      intro σ' H' F2 st S2
      obtain ⟨st3, S3⟩ := Sim.outs S0 hN no st S2
      exact q .non H' F2 st3 S3 Rep.mkNone
    | ret d n' =>
      rw [er] at q
      intro v σ' H' F2 st S2 r
      obtain ⟨st3, S3⟩ := Sim.outs S0 hN no st S2
      exact q v H' F2 st3 S3 r
    | err x n' =>
      rw [er] at q
      intro cls d σ' H' F2 st S2 r
      obtain ⟨st3, S3⟩ := Sim.outs S0 hN no st S2
      exact q cls d H' F2 st3 S3 r
    | brk n' => rw [er] at q; exact q.elim
    | ct n' => rw [er] at q; exact q.elim
    | bad => rw [er] at q; exact q.elim
theorem NFn.of {x nm qual : Str} {params : Arguments} {sbody : List Stmt} {scope : Scope} {f : Addr} {fd : FuncData} {N ps : List Str} {k n : Nat} {body : NStm} (F : FunD K nm qual params sbody scope [] [] f fd) (hm : mg x = some (.ref f)) (S : FnScope N ps scope)
    (hb : Binds K fd ps []) (hn : n = ps.length)
    (hbody : ∀ (cdv : Value) (A : Around) (outer : List Env) (s : Shared) (H : Hp) (E : XK), Room k (A.deeper (envOfC qual scope s.heap.objs.size f cdv)) →
      NSs (cxOf (L2.CX P w) P w K mg base N qual scope f cdv A outer s H E) (fun cls d _ H' => E cls d H') sbody body) : NFn P w K mg base (k + 1) x n (runD N.length body) :=
  ⟨f, fd, ps, NFn.ok F S hn hbody, hm, F.kp, hb⟩
end
/-! ### calls -/
/-- the arguments, resolved in the state of the call -/
def resolve (n : NSt) : List AV → Option NSt
  | [] => some []
  | .v d :: as => (resolve n as).map (some (Sl.val d) :: ·)
  | .o i :: as => match n[i]? with
    | some (some (.own xs)) => (resolve n as).map (some (Sl.lent xs) :: ·)
    | some (some (.lent xs)) => (resolve n as).map (some (Sl.lent xs) :: ·)
    | some (some (.scr xs)) => (resolve n as).map (some (Sl.scr xs) :: ·)
    | _ => none
def ixs : List AV → List Nat
  | [] => []
  | .v _ :: as => ixs as
  | .o i :: as => i :: ixs as
/-- the lent lists come back -/
def putBack (n : NSt) (i : Nat) (o : Option Sl) : NSt := match o with
  | some (.lent ys) => (match n[i]? with
    | some (some sl) => n.set i (some (sl.put ys))
    | _ => n)
  | _ => n
def back (n : NSt) : List AV → NSt → NSt
  | [], _ => n
  | .v _ :: as, os => back n as os.tail
  | .o i :: as, os => back (putBack n i (os.head?.getD none)) as os.tail
def nCall (g : NExp) (fs : NSt → R (List AV)) : NExp := fun n => (fs n).bind fun as n1 => if (ixs as).Nodup then (match resolve n1 as with
  | some a => match g a with
    | .ok d os => .ok d (back n1 as os)
    | .err x os => .err x (back n1 as os)
    | .bad => .bad
  | none => .bad) else .bad

section
variable {K : PySem.W.Frag}
theorem resolve_len : ∀ {as : List AV} {n a : NSt}, resolve n as = some a → a.length = as.length
  | [], n, a, h => by cases h; rfl
  | .v d :: as, n, a, h => by
    unfold resolve at h
    cases e : resolve n as with
    | none => rw [e] at h; cases h
    | some b => rw [e] at h; cases h; simp [resolve_len e]
  | .o i :: as, n, a, h => by
    unfold resolve at h
    split at h
    all_goals first | cases h | skip
    all_goals
      cases e : resolve n as with
      | none => rw [e] at h; cases h
      | some b => rw [e] at h; cases h; simp [resolve_len e]
/-- where the j-th argument comes from -/
def From (n : NSt) (av : AV) (o : Option Sl) : Prop := match av with
  | .v d => o = some (.val d)
  | .o i => (∃ xs, n[i]? = some (some (.own xs)) ∧ o = some (.lent xs)) ∨ (∃ xs, n[i]? = some (some (.lent xs)) ∧ o = some (.lent xs)) ∨ (∃ xs, n[i]? = some (some (.scr xs)) ∧ o = some (.scr xs))
theorem resolve_at : ∀ {as : List AV} {n a : NSt} {j : Nat} {o : Option Sl}, resolve n as = some a → a[j]? = some o → ∃ av, as[j]? = some av ∧ From n av o
  | [], n, a, j, o, h, e => by cases h; simp at e
  | .v d :: as, n, a, j, o, h, e => by
    unfold resolve at h
    cases q : resolve n as with
    | none => rw [q] at h; cases h
    | some b =>
      rw [q] at h
      cases h
      cases j with
      | zero => simp at e; exact ⟨_, rfl, e.symm⟩
      | succ j =>
        obtain ⟨av, h1, h2⟩ := resolve_at (j := j) q (by simpa using e)
        exact ⟨av, by simpa using h1, h2⟩
  | .o i :: as, n, a, j, o, h, e => by
    unfold resolve at h
    split at h
    · rename_i xs hx
      cases q : resolve n as with
      | none => rw [q] at h; cases h
      | some b =>
        rw [q] at h
        cases h
        cases j with
        | zero => simp at e; exact ⟨_, rfl, .inl ⟨xs, hx, e.symm⟩⟩
        | succ j =>
          obtain ⟨av, h1, h2⟩ := resolve_at (j := j) q (by simpa using e)
          exact ⟨av, by simpa using h1, h2⟩
    · rename_i xs hx
      cases q : resolve n as with
      | none => rw [q] at h; cases h
      | some b =>
        rw [q] at h
        cases h
        cases j with
        | zero => simp at e; exact ⟨_, rfl, .inr (.inl ⟨xs, hx, e.symm⟩)⟩
        | succ j =>
          obtain ⟨av, h1, h2⟩ := resolve_at (j := j) q (by simpa using e)
          exact ⟨av, by simpa using h1, h2⟩
    · rename_i xs hx
      cases q : resolve n as with
      | none => rw [q] at h; cases h
      | some b =>
        rw [q] at h
        cases h
        cases j with
        | zero => simp at e; exact ⟨_, rfl, .inr (.inr ⟨xs, hx, e.symm⟩)⟩
        | succ j =>
          obtain ⟨av, h1, h2⟩ := resolve_at (j := j) q (by simpa using e)
          exact ⟨av, by simpa using h1, h2⟩
    · cases h
theorem ixs_mem : ∀ {as : List AV} {j i : Nat}, as[j]? = some (.o i) → i ∈ ixs as
  | [], j, i, h => by simp at h
  | .v d :: as, 0, i, h => by simp at h
  | .v d :: as, j + 1, i, h => by
    have := ixs_mem (as := as) (j := j) (i := i) (by simpa using h)
    simpa [ixs] using this
  | .o k :: as, 0, i, h => by simp at h; simp [ixs, h]
  | .o k :: as, j + 1, i, h => by
    have := ixs_mem (as := as) (j := j) (i := i) (by simpa using h)
    simp [ixs, this]
theorem ixs_inj : ∀ {as : List AV} {j k i : Nat}, (ixs as).Nodup → as[j]? = some (.o i) → as[k]? = some (.o i) → j = k
  | [], j, k, i, _, h, _ => by simp at h
  | .v d :: as, 0, k, i, _, h, _ => by simp at h
  | .v d :: as, j + 1, 0, i, _, _, h => by simp at h
  | .v d :: as, j + 1, k + 1, i, nd, h, h' => by
    exact congrArg (· + 1) (ixs_inj (as := as) (i := i) (j := j) (k := k) nd (by simpa using h) (by simpa using h'))
  | .o m :: as, 0, 0, i, _, _, _ => rfl
  | .o m :: as, 0, k + 1, i, nd, h, h' => by
    have e : m = i := by simpa using h
    subst e
    have := ixs_mem (as := as) (j := k) (i := m) (by simpa using h')
    exact absurd this (List.nodup_cons.mp nd).1
  | .o m :: as, j + 1, 0, i, nd, h, h' => by
    have e : m = i := by simpa using h'
    subst e
    have := ixs_mem (as := as) (j := j) (i := m) (by simpa using h)
    exact absurd this (List.nodup_cons.mp nd).1
  | .o m :: as, j + 1, k + 1, i, nd, h, h' => by
    exact congrArg (· + 1) (ixs_inj (as := as) (i := i) (j := j) (k := k) (List.nodup_cons.mp nd).2 (by simpa using h) (by simpa using h'))
theorem paired_at {α β : Type} {G : α → β → Prop} {l : List α} {m : List β} (h : Paired G l m) : ∀ {j : Nat} {a : α} {b : β}, l[j]? = some a → m[j]? = some b → G a b := by
  induction h with
  | nil => intro j a b e; simp at e
  | cons r t ih =>
    intro j a b e1 e2
    cases j with
    | zero => simp at e1 e2; subst e1 e2; exact r
    | succ j => exact ih (by simpa using e1) (by simpa using e2)
/-- what stands in a slot behind the call -/
theorem putBack_len {n : NSt} {i : Nat} {o : Option Sl} : (putBack n i o).length = n.length := by
  unfold putBack
  split
  · split <;> simp
  · rfl
theorem putBack_out {n : NSt} {i k : Nat} {o : Option Sl} (h : k ≠ i) : (putBack n k o)[i]? = n[i]? := by
  unfold putBack
  split
  · split
    · rw [List.getElem?_set_ne h]
    · rfl
  · rfl
theorem putBack_lent {n : NSt} {i : Nat} {ys : List PyData} {sl : Sl} (h : n[i]? = some (some sl)) : (putBack n i (some (.lent ys)))[i]? = some (some (sl.put ys)) := by
  unfold putBack
  simp only [h]
  rw [List.getElem?_set_self (lt_of_get h)]
theorem putBack_else {n : NSt} {i : Nat} {o : Option Sl} (h : ∀ ys, o ≠ some (.lent ys)) : putBack n i o = n := by
  unfold putBack
  split
  · rename_i ys
    exact absurd rfl (h ys)
  · rfl
theorem back_len : ∀ {as : List AV} {n os : NSt}, (back n as os).length = n.length
  | [], n, os => rfl
  | .v d :: as, n, os => by
    show (back n as os.tail).length = _
    exact back_len
  | .o i :: as, n, os => by
    show (back (putBack n i _) as os.tail).length = _
    rw [back_len, putBack_len]
theorem back_out : ∀ {as : List AV} {n os : NSt} {i : Nat}, i ∉ ixs as → (back n as os)[i]? = n[i]?
  | [], n, os, i, _ => rfl
  | .v d :: as, n, os, i, h => by
    show (back n as os.tail)[i]? = _
    exact back_out (as := as) (by simpa [ixs] using h)
  | .o k :: as, n, os, i, h => by
    have h1 : k ≠ i := fun z => h (by simp [ixs, z])
    have h2 : i ∉ ixs as := fun z => h (by simp [ixs, z])
    show (back (putBack n k _) as os.tail)[i]? = _
    rw [back_out (as := as) h2, putBack_out h1]
theorem back_at : ∀ {as : List AV} {n os : NSt} {i j : Nat} {sl : Sl}, (ixs as).Nodup → as[j]? = some (.o i) → n[i]? = some (some sl) →
    (∀ ys, os[j]? = some (some (.lent ys)) → (back n as os)[i]? = some (some (sl.put ys))) ∧ ((∀ ys, os[j]? ≠ some (some (.lent ys))) → (back n as os)[i]? = some (some sl))
  | [], n, os, i, j, sl, _, h, _ => by simp at h
  | .v d :: as, n, os, i, 0, sl, _, h, _ => by simp at h
  | .v d :: as, n, os, i, j + 1, sl, nd, h, e => by
    have := back_at (as := as) (n := n) (os := os.tail) (i := i) (j := j) (sl := sl) nd (by simpa using h) e
    have et : os.tail[j]? = os[j + 1]? := by cases os <;> simp
    rw [et] at this
    exact this
  | .o k :: as, n, os, i, 0, sl, nd, h, e => by
    have ek : k = i := by simpa using h
    subst ek
    have hk : k ∉ ixs as := (List.nodup_cons.mp nd).1
    have e0 : os[0]? = os.head? := by cases os <;> simp
    refine ⟨fun ys hy => ?_, fun hn => ?_⟩
    · rw [e0] at hy
      show (back (putBack n k (os.head?.getD none)) as os.tail)[k]? = _
      rw [back_out hk, hy]
      exact putBack_lent e
    · show (back (putBack n k (os.head?.getD none)) as os.tail)[k]? = _
      rw [back_out hk, putBack_else]
      · exact e
      · intro ys z
        cases q : os.head? with
        | none => rw [q] at z; cases z
        | some o =>
          rw [q] at z
          have z' : o = some (.lent ys) := z
          exact hn ys (by rw [e0, q, z'])
  | .o k :: as, n, os, i, j + 1, sl, nd, h, e => by
    have h' : as[j]? = some (.o i) := by simpa using h
    have hne : k ≠ i := fun z => by
      subst z
      exact (List.nodup_cons.mp nd).1 (ixs_mem h')
    have := back_at (as := as) (n := putBack n k (os.head?.getD none)) (os := os.tail) (i := i) (j := j) (sl := sl) (List.nodup_cons.mp nd).2 h' (by rw [putBack_out hne]; exact e)
    have et : os.tail[j]? = os[j + 1]? := by cases os <;> simp
    rw [et] at this
    exact this
theorem mem_ixs : ∀ {as : List AV} {i : Nat}, i ∈ ixs as → ∃ j : Nat, as[j]? = some (AV.o i)
  | [], i, h => by simp [ixs] at h
  | .v d :: as, i, h => by
    obtain ⟨j, e⟩ := mem_ixs (as := as) (i := i) (by simpa [ixs] using h)
    exact ⟨j + 1, by simpa using e⟩
  | .o k :: as, i, h => by
    by_cases e : i = k
    · exact ⟨0, by simp [e]⟩
    · obtain ⟨j, q⟩ := mem_ixs (as := as) (i := i) (by simpa [ixs, e] using h)
      exact ⟨j + 1, by simpa using q⟩
/-- the arguments as a state of their own -/
theorem Sim.args {c : Cf} (S : Sim K c) {as : List AV} {vs : List V} {a : NSt} (nd : (ixs as).Nodup) (r : Paired (AVRep K c) as vs) (e : resolve c.n as = some a) :
    Sim K ⟨a, vs.map some, c.H, c.F⟩ ∧ (∀ (i : Nat) (xs : List PyData), a[i]? ≠ some (some (Sl.own xs))) ∧ (∀ o ∈ a, o ≠ none) ∧ (∀ b, (⟨a, vs.map some, c.H, c.F⟩ : Cf).Hd b → ∃ (j i : Nat) (sl : Sl), as[j]? = some (.o i) ∧ c.n[i]? = some (some sl) ∧ sl.held = true ∧ c.s[i]? = some (some (.ref b))) := by
  have hlen : a.length = as.length := resolve_len e
  have hv : as.length = vs.length := Paired.length r
  have valAt : ∀ (j : Nat) (av : AV), as[j]? = some av → ∃ v, vs[j]? = some v ∧ AVRep K c av v := fun j av q => by
    have hj : j < vs.length := by rw [← hv]; exact lt_of_get q
    exact ⟨vs[j], List.getElem?_eq_getElem hj, paired_at r q (List.getElem?_eq_getElem hj)⟩
  have heldAt : ∀ (j : Nat) (s : Sl), a[j]? = some (some s) → s.held = true → ∃ (i : Nat) (xs : List PyData) (sl : Sl), as[j]? = some (.o i) ∧ c.n[i]? = some (some sl) ∧ sl.held = true ∧ sl.list? = some xs ∧ s = .lent xs := fun j s q hh => by
    obtain ⟨av, h1, h2⟩ := resolve_at e q
    cases av with
    | v d =>
      have h2' : some s = some (Sl.val d) := h2
      cases h2'; cases hh
    | o i =>
      rcases h2 with ⟨xs, h3, h4⟩ | ⟨xs, h3, h4⟩ | ⟨xs, h3, h4⟩
      · cases h4; exact ⟨i, xs, _, h1, h3, rfl, rfl, rfl⟩
      · cases h4; exact ⟨i, xs, _, h1, h3, rfl, rfl, rfl⟩
      · cases h4; cases hh
  have hdAt : ∀ (j : Nat) (s : Sl) (b : Addr), a[j]? = some (some s) → s.held = true → (vs.map some)[j]? = some (some (V.ref b)) → ∃ (i : Nat) (sl : Sl), as[j]? = some (.o i) ∧ c.n[i]? = some (some sl) ∧ sl.held = true ∧ c.s[i]? = some (some (.ref b)) := fun j s b q hh es => by
    obtain ⟨i, xs, sl, h1, h2, h3, _, _⟩ := heldAt j s q hh
    obtain ⟨v, hv1, hv2⟩ := valAt j _ h1
    have es' : (vs.map some)[j]? = some (some v) := by rw [List.getElem?_map, hv1]; rfl
    rw [es'] at es
    cases es
    exact ⟨i, sl, h1, h2, h3, hv2⟩
  refine ⟨⟨by show a.length = (vs.map some).length; rw [List.length_map]; omega, fun j s q => ?_, fun j k sj sk b e1 e2 h1 h2 q1 q2 => ?_, S.fz⟩, fun j xs q => ?_, fun o ho => ?_, fun b ⟨j, s, q, hh, es⟩ => ?_⟩
  · obtain ⟨av, h1, h2⟩ := resolve_at e q
    obtain ⟨v, hv1, hv2⟩ := valAt j av h1
    refine ⟨v, by show (vs.map some)[j]? = _; rw [List.getElem?_map, hv1]; rfl, ?_⟩
    cases av with
    | v d =>
      have h2' : some s = some (Sl.val d) := h2
      cases h2'
      exact hv2
    | o i =>
      have hv2' : c.s[i]? = some (some v) := hv2
      rcases h2 with ⟨xs, h3, h4⟩ | ⟨xs, h3, h4⟩ | ⟨xs, h3, h4⟩
      · cases h4
        obtain ⟨u, u1, u2⟩ := S.slot i _ h3
        rw [hv2'] at u1; cases u1
        exact u2
      · cases h4
        obtain ⟨u, u1, u2⟩ := S.slot i _ h3
        rw [hv2'] at u1; cases u1
        exact u2
      · cases h4
        obtain ⟨u, u1, u2⟩ := S.slot i _ h3
        rw [hv2'] at u1; cases u1
        exact u2
  · obtain ⟨i1, s1, z1, z2, z3, z4⟩ := hdAt j sj b e1 h1 q1
    obtain ⟨i2, s2, y1, y2, y3, y4⟩ := hdAt k sk b e2 h2 q2
    have := S.sep i1 i2 s1 s2 b z2 y2 z3 y3 z4 y4
    subst this
    exact ixs_inj nd z1 y1
  · obtain ⟨av, h1, h2⟩ := resolve_at e q
    cases av with
    | v d =>
      have h2' : some (Sl.own xs) = some (Sl.val d) := h2
      cases h2'
    | o i => rcases h2 with ⟨xs, h3, h4⟩ | ⟨xs, h3, h4⟩ | ⟨xs, h3, h4⟩ <;> cases h4
  · obtain ⟨j, hj⟩ := List.mem_iff_getElem?.mp ho
    obtain ⟨av, h1, h2⟩ := resolve_at e hj
    cases av with
    | v d =>
      have h2' : o = some (Sl.val d) := h2
      rw [h2']; simp
    | o i => rcases h2 with ⟨xs, h3, h4⟩ | ⟨xs, h3, h4⟩ | ⟨xs, h3, h4⟩ <;> (rw [h4]; simp)
  · obtain ⟨i, sl, h1, h2, h3, h4⟩ := hdAt j s b q hh es
    exact ⟨j, i, sl, h1, h2, h3, h4⟩
/-- behind the call -/
theorem Sim.back {c : Cf} (S : Sim K c) {as : List AV} {vs : List V} {a os : NSt} {H' : Hp} {F' : Fz} (nd : (ixs as).Nodup) (r : Paired (AVRep K c) as vs) (e : resolve c.n as = some a)
    (st : Step ⟨a, vs.map some, c.H, c.F⟩ ⟨os, vs.map some, H', F'⟩) (S' : Sim K ⟨os, vs.map some, H', F'⟩) :
    Step c ⟨back c.n as os, c.s, H', F'⟩ ∧ Sim K ⟨back c.n as os, c.s, H', F'⟩ ∧ ∀ b, (⟨back c.n as os, c.s, H', F'⟩ : Cf).Hd b → c.Hd b := by
  obtain ⟨SA, noown, _, hdA⟩ := S.args nd r e
  have hv : as.length = vs.length := Paired.length r
  have hdC : ∀ b, (⟨a, vs.map some, c.H, c.F⟩ : Cf).Hd b → c.Hd b := fun b h => let ⟨j, i, sl, h1, h2, h3, h4⟩ := hdA b h; ⟨i, sl, h2, h3, h4⟩
  have fr : ∀ b, c.F b → F' b ∧ H' b = c.H b := fun b f => ⟨st.fz b f, st.keep b (S.fz b f) fun z => S.nohd f (hdC b z)⟩
  have f' : ∀ b, F' b → c.F b ∨ c.H b = none := fun b f => by
    rcases st.fn b f with z | z | ⟨i, xs, z, _⟩
    · exact .inl z
    · exact .inr z
    · exact absurd z (noown i xs)
  -- the kind of a slot is kept
  have kind : ∀ (i : Nat) (sl : Sl), (NL.back c.n as os)[i]? = some (some sl) → ∃ sl0 : Sl, c.n[i]? = some (some sl0) ∧ (sl = sl0 ∨ ∃ ys, sl = sl0.put ys) := fun i sl q => by
    by_cases hi : i ∈ ixs as
    · obtain ⟨j, hj⟩ := mem_ixs hi
      have hn : i < c.n.length := by
        have := lt_of_get q
        rw [back_len] at this; exact this
      cases q0 : c.n[i]? with
      | none => rw [List.getElem?_eq_getElem hn] at q0; cases q0
      | some o =>
        cases o with
        | none =>
          -- an unset slot can't be an argument
          have : ∀ {as : List AV} {n a : NSt} {j : Nat}, resolve n as = some a → as[j]? = some (.o i) → n[i]? ≠ some none := fun {as n a j} h1 h2 h3 => by
            have hl := resolve_len h1
            have hja : j < a.length := by rw [hl]; exact lt_of_get h2
            obtain ⟨av, h4, h5⟩ := resolve_at h1 (List.getElem?_eq_getElem hja)
            rw [h2] at h4
            cases h4
            rcases h5 with ⟨xs, h6, _⟩ | ⟨xs, h6, _⟩ | ⟨xs, h6, _⟩ <;> (rw [h3] at h6; cases h6)
          exact absurd q0 (this e hj)
        | some sl0 =>
          obtain ⟨b1, b2⟩ := back_at (os := os) nd hj q0
          refine ⟨sl0, rfl, ?_⟩
          by_cases hy : ∃ ys, os[j]? = some (some (.lent ys))
          · obtain ⟨ys, hy⟩ := hy
            rw [b1 ys hy] at q
            cases q
            exact .inr ⟨ys, rfl⟩
          · rw [b2 fun ys z => hy ⟨ys, z⟩] at q
            cases q
            exact .inl rfl
    · rw [back_out hi] at q
      exact ⟨sl, q, .inl rfl⟩
  have putHeld : ∀ (sl0 sl : Sl), (sl = sl0 ∨ ∃ ys, sl = sl0.put ys) → sl.held = true → sl0.held = true := fun sl0 sl h hh => by
    rcases h with rfl | ⟨ys, rfl⟩
    · exact hh
    · cases sl0 <;> first | rfl | exact hh
  have hd' : ∀ b, (⟨NL.back c.n as os, c.s, H', F'⟩ : Cf).Hd b → c.Hd b := fun b ⟨i, sl, q, hh, es⟩ => by
    obtain ⟨sl0, q0, k⟩ := kind i sl q
    exact ⟨i, sl0, q0, putHeld sl0 sl k hh, es⟩
  refine ⟨⟨fun b n nh => st.keep b n fun z => nh (hdC b z), st.live, st.fz, fun b f => ?_, fun b h => .inl (hd' b h), fun b ⟨i, xs, q, es⟩ => ?_, fun i xs q => ?_, back_len⟩, ⟨by show (NL.back c.n as os).length = _; rw [back_len]; exact S.len, fun i sl q => ?_, fun i j si sj b e1 e2 h1 h2 q1 q2 => ?_, S'.fz⟩, hd'⟩
  · rcases f' b f with z | z
    · exact .inl z
    · exact .inr (.inl z)
  · obtain ⟨sl0, q0, k⟩ := kind i _ q
    rcases k with k | ⟨ys, k⟩
    · subst k
      exact .inl ⟨i, xs, q0, es⟩
    · cases sl0 with
      | own zs => exact .inl ⟨i, zs, q0, es⟩
      | lent zs => cases k
      | val zs => cases k
      | scr zs => cases k
  · show ∃ ys : List PyData, (NL.back c.n as os)[i]? = some (some (Sl.lent ys)) ∧ c.s[i]? = c.s[i]?
    by_cases hi : i ∈ ixs as
    · obtain ⟨j, hj⟩ := mem_ixs hi
      obtain ⟨b1, b2⟩ := back_at (os := os) nd hj q
      by_cases hy : ∃ ys, os[j]? = some (some (.lent ys))
      · obtain ⟨ys, hy⟩ := hy
        exact ⟨ys, b1 ys hy, rfl⟩
      · exact ⟨xs, b2 fun ys z => hy ⟨ys, z⟩, rfl⟩
    · exact ⟨xs, by rw [back_out hi]; exact q, rfl⟩
  · obtain ⟨sl0, q0, k⟩ := kind i sl q
    obtain ⟨v, e1, rv⟩ := S.slot i sl0 q0
    refine ⟨v, e1, ?_⟩
    -- an own list that was not lent
    have away : ∀ (b : Addr) (sl1 : Sl), c.n[i]? = some (some sl1) → sl1.held = true → c.s[i]? = some (some (.ref b)) → i ∉ ixs as → H' b = c.H b := fun b sl1 q1 hh es hi => by
      refine st.keep b (S.hdH ⟨i, sl1, q1, hh, es⟩) fun z => ?_
      obtain ⟨j, k, sl2, h1, h2, h3, h4⟩ := hdA b z
      have := S.sep i k sl1 sl2 b q1 h2 hh h3 es h4
      subst this
      exact hi (ixs_mem h1)
    cases sl0 with
    | val d =>
      have : sl = .val d := by rcases k with k | ⟨ys, k⟩ <;> exact k
      subst this
      exact Rep.keep fr d v rv
    | scr d =>
      have : sl = .scr d := by rcases k with k | ⟨ys, k⟩ <;> exact k
      subst this
      obtain ⟨b, ns, e2, e3, z⟩ := rv
      refine ⟨b, ns, e2, e3, ?_⟩
      rcases z with ⟨o, z⟩ | z
      · refine .inl ⟨o, (st.keep b (by show c.H b ≠ none; rw [z]; simp) fun hh => ?_).trans z⟩
        obtain ⟨k1, t, q1, q2, q3⟩ := hdC b hh
        obtain ⟨u, q4, q5⟩ := S.slot k1 t q1
        rw [q3] at q4
        cases q4
        cases t with
        | val d => cases q2
        | scr d => cases q2
        | own d =>
          obtain ⟨b', ws, y1, _, y2, _⟩ := q5
          cases y1
          have z2 := z.symm.trans y2
          cases z2
        | lent d =>
          obtain ⟨b', ws, y1, _, y2, _⟩ := q5
          cases y1
          have z2 := z.symm.trans y2
          cases z2
      · exact .inr z
    | own xs =>
      obtain ⟨b, ws, rfl, nf, hH, rr⟩ := rv
      by_cases hi : i ∈ ixs as
      · obtain ⟨j, hj⟩ := mem_ixs hi
        obtain ⟨b1, b2⟩ := back_at (os := os) nd hj q0
        have haj : a[j]? = some (some (.lent xs)) := by
          have hja : j < a.length := by rw [resolve_len e]; exact lt_of_get hj
          obtain ⟨av, h4, h5⟩ := resolve_at e (List.getElem?_eq_getElem hja)
          rw [hj] at h4
          cases h4
          rcases h5 with ⟨zs, h6, h7⟩ | ⟨zs, h6, h7⟩ | ⟨zs, h6, h7⟩
          · rw [q0] at h6; cases h6
            rw [List.getElem?_eq_getElem hja, h7]
          · rw [q0] at h6; cases h6
          · rw [q0] at h6; cases h6
        obtain ⟨ys, o1, o2⟩ := st.mu j xs haj
        have o1' : os[j]? = some (some (.lent ys)) := o1
        have q' := q
        rw [b1 ys o1'] at q'
        cases q'
        obtain ⟨u, u1, u2⟩ := S'.slot j _ o1'
        have vj : vs[j]? = some (.ref b) := by
          have hjv : j < vs.length := by rw [← hv]; exact lt_of_get hj
          have := paired_at r hj (List.getElem?_eq_getElem hjv)
          have e1' : c.s[i]? = some (some vs[j]) := this
          have z := Option.some.inj (Option.some.inj (e1.symm.trans e1'))
          rw [List.getElem?_eq_getElem hjv, ← z]
        have u1' : (vs.map some)[j]? = some (some u) := u1
        rw [List.getElem?_map, vj] at u1'
        cases u1'
        exact u2
      · have q' := q
        rw [back_out hi, q0] at q'
        cases q'
        refine ⟨b, ws, rfl, fun z => ?_, (away b _ q0 rfl e1 hi).trans hH, Reps.keep fr _ _ rr⟩
        rcases f' b z with y | y
        · exact nf y
        · rw [hH] at y; cases y
    | lent xs =>
      obtain ⟨b, ws, rfl, nf, hH, rr⟩ := rv
      by_cases hi : i ∈ ixs as
      · obtain ⟨j, hj⟩ := mem_ixs hi
        obtain ⟨b1, b2⟩ := back_at (os := os) nd hj q0
        have haj : a[j]? = some (some (.lent xs)) := by
          have hja : j < a.length := by rw [resolve_len e]; exact lt_of_get hj
          obtain ⟨av, h4, h5⟩ := resolve_at e (List.getElem?_eq_getElem hja)
          rw [hj] at h4
          cases h4
          rcases h5 with ⟨zs, h6, h7⟩ | ⟨zs, h6, h7⟩ | ⟨zs, h6, h7⟩
          · rw [q0] at h6; cases h6
          · rw [q0] at h6; cases h6
            rw [List.getElem?_eq_getElem hja, h7]
          · rw [q0] at h6; cases h6
        obtain ⟨ys, o1, o2⟩ := st.mu j xs haj
        have o1' : os[j]? = some (some (.lent ys)) := o1
        have q' := q
        rw [b1 ys o1'] at q'
        cases q'
        obtain ⟨u, u1, u2⟩ := S'.slot j _ o1'
        have vj : vs[j]? = some (.ref b) := by
          have hjv : j < vs.length := by rw [← hv]; exact lt_of_get hj
          have := paired_at r hj (List.getElem?_eq_getElem hjv)
          have e1' : c.s[i]? = some (some vs[j]) := this
          have z := Option.some.inj (Option.some.inj (e1.symm.trans e1'))
          rw [List.getElem?_eq_getElem hjv, ← z]
        have u1' : (vs.map some)[j]? = some (some u) := u1
        rw [List.getElem?_map, vj] at u1'
        cases u1'
        exact u2
      · have q' := q
        rw [back_out hi, q0] at q'
        cases q'
        refine ⟨b, ws, rfl, fun z => ?_, (away b _ q0 rfl e1 hi).trans hH, Reps.keep fr _ _ rr⟩
        rcases f' b z with y | y
        · exact nf y
        · rw [hH] at y; cases y
  · obtain ⟨t1, z1, k1⟩ := kind i si e1
    obtain ⟨t2, z2, k2⟩ := kind j sj e2
    exact S.sep i j t1 t2 b z1 z2 (putHeld _ _ k1 h1) (putHeld _ _ k2 h2) q1 q2
end
section
variable {X : Cx} {W : WX}
/-- f(..), an own def -/
theorem ne_call {k n : Nat} {x : Str} {g : NExp} {e : Expr} {es : List Expr} {fs : NSt → R (List AV)} {p pos : Pos} (F : NFn X.prog X.w X.K X.mg X.base k x n g) (hr : Room k X.A) (tk : Takes X W) (ha : NA X W (e :: es) fs) (hn : (e :: es).length = n) (hg : Gl X x := by rfl)
    (hl : ∀ (m : NSt) (as : List AV) (m' : NSt), fs m = .ok as m' → as.length = n)
    (hdb : (x == ("__debug__" : Str)) = false := by decide) (he : starEach (e :: es) X.env = (false, eval e X.env) :: starEach es X.env := by rfl) (hpl : (backTo pos (starEach es X.env)).any (·.1) = false := by rfl) :
    NE X W (.Call (.Name x p) (e :: es) [] pos) (nCall g fs) := by
  obtain ⟨f, fd, ps, G, hm, hk, hb⟩ := F.ex
  obtain ⟨t, pa, s⟩ := ha.ex
  refine ⟨_, pe_callS G hr hg hm hk hb (passAt tk) pa hdb he hpl, fun c Q S h => ?_⟩
  refine s c _ S (Pst.seq (rel := relA X.K) (rel' := relE X.K) mono_E h fun as n1 vs H1 F1 eok st1 S1 r1 h1 => ?_)
  split at h1
  · rename_i nd
    cases er : resolve n1 as with
    | none => rw [er] at h1; exact h1.elim
    | some a =>
      rw [er] at h1
      obtain ⟨SA, no, nn, _⟩ := Sim.args (c := ⟨n1, c.s, H1, F1⟩) S1 nd r1 er
      refine ⟨a, F1, by rw [resolve_len er]; exact hl _ _ _ eok, no, nn, SA, ?_⟩
      dsimp only at h1
      cases eg : g a with
      | ok d os =>
        rw [eg] at h1
        intro v H' F' st S' rv
        obtain ⟨st2, S2, _⟩ := Sim.back (c := ⟨n1, c.s, H1, F1⟩) S1 nd r1 er st S'
        exact h1 v H' F' st2 S2 rv
      | err x os =>
        rw [eg] at h1
        intro cls d H' F' st S' rv
        obtain ⟨st2, S2, _⟩ := Sim.back (c := ⟨n1, c.s, H1, F1⟩) S1 nd r1 er st S'
        exact h1 cls d H' F' st2 S2 rv
      | bad => rw [eg] at h1; exact h1.elim
  · exact h1.elim
end
end NL
end L2
/-! NL6: what is walked; list comprehensions. -/
namespace L2
namespace NL
open PySem PySem.Spec PyProof.Rows

/-! ### readings by the plain result -/
def cE (K : PySem.W.Frag) (mg : Str → Option Value) (W : WX) (f : NExp) : TE := fun σ H Q => ∃ c : Cf, c.s = σ ∧ c.H = H ∧ Sim K c ∧ Pst K mg W (relE K) c Q (f c.n)
def cT (K : PySem.W.Frag) (mg : Str → Option Value) (W : WX) (f : NSt → R Bool) : TT := fun σ H Q => ∃ c : Cf, c.s = σ ∧ c.H = H ∧ Sim K c ∧ Pst K mg W relT c Q (f c.n)
def cG (K : PySem.W.Frag) (vs : List Nat) (g : PyData → NSt → Option NSt) : TG := fun v σ H Q => ∃ (c : Cf) (d : PyData) (n' : NSt), c.s = σ ∧ c.H = H ∧ Sim K c ∧ Rep K c.H c.F d v ∧ g d c.n = some n' ∧
  ∀ σ', Step c ⟨n', σ', c.H, c.F⟩ → Sim K ⟨n', σ', c.H, c.F⟩ → (∀ j, j ∉ vs → σ'[j]? = c.s[j]? ∧ n'[j]? = c.n[j]?) → σ'.length = c.s.length → Q σ' c.H
theorem NE.canon {X : Cx} {W : WX} {e : Expr} {f : NExp} (h : NE X W e f) : PE X e (cE X.K X.mg W f) := by
  obtain ⟨t, p, s⟩ := h.ex
  exact ⟨fun pins s0 σ H Q I ⟨c, e1, e2, S, q⟩ => by subst e1 e2; exact p.run pins s0 c.s c.H Q I (s c Q S q)⟩
theorem NT.canon {X : Cx} {W : WX} {e : Expr} {f : NSt → R Bool} (h : NT X W e f) : PT X e (cT X.K X.mg W f) := by
  obtain ⟨t, p, s⟩ := h.ex
  exact ⟨fun pins s0 σ H Q I ⟨c, e1, e2, S, q⟩ => by subst e1 e2; exact p.run pins s0 c.s c.H Q I (s c Q S q)⟩
theorem NG.canon {X : Cx} {tg : Expr} {vs : List Nat} {g : PyData → NSt → Option NSt} (h : NG X tg vs g) : PG X tg (cG X.K vs g) := by
  obtain ⟨t, p, s⟩ := h.ex
  exact ⟨fun pins s0 σ H v u Q I r ⟨c, d, n', e1, e2, S, rr, eg, q⟩ => by subst e1 e2; exact p.run pins s0 c.s c.H v u Q I r (s c d v n' Q S rr eg q)⟩
abbrev W0 : WX := fun _ _ _ _ => False

/-! ### wiped slots -/
def wipeN (n : NSt) : List Nat → NSt
  | [] => n
  | v :: vs => (wipeN n vs).set v none
def restoreN (n n1 : NSt) : List Nat → NSt
  | [] => n
  | v :: vs => (restoreN n n1 vs).set v (n1[v]?.getD none)
theorem wipeN_len {n : NSt} : ∀ {vs : List Nat}, (wipeN n vs).length = n.length
  | [] => rfl
  | v :: vs => by unfold wipeN; rw [List.length_set, wipeN_len]
theorem restoreN_len {n n1 : NSt} : ∀ {vs : List Nat}, (restoreN n n1 vs).length = n.length
  | [] => rfl
  | v :: vs => by unfold restoreN; rw [List.length_set, restoreN_len]
theorem wipeN_out {n : NSt} {j : Nat} : ∀ {vs : List Nat}, j ∉ vs → (wipeN n vs)[j]? = n[j]?
  | [], _ => rfl
  | v :: vs, h => by
    unfold wipeN
    rw [List.getElem?_set_ne (fun z => h (by simp [z])), wipeN_out fun z => h (by simp [z])]
theorem restoreN_out {n n1 : NSt} {j : Nat} : ∀ {vs : List Nat}, j ∉ vs → (restoreN n n1 vs)[j]? = n[j]?
  | [], _ => rfl
  | v :: vs, h => by
    unfold restoreN
    rw [List.getElem?_set_ne (fun z => h (by simp [z])), restoreN_out fun z => h (by simp [z])]
theorem wipeN_in {n : NSt} {j : Nat} {sl : Sl} : ∀ {vs : List Nat}, j ∈ vs → (wipeN n vs)[j]? ≠ some (some sl)
  | [], h => by simp at h
  | v :: vs, h => by
    unfold wipeN
    by_cases e : v = j
    · subst e
      by_cases hl : v < (wipeN n vs).length
      · rw [List.getElem?_set_self hl]; simp
      · rw [List.getElem?_eq_none (by simpa using hl)]; simp
    · rw [List.getElem?_set_ne e]
      exact wipeN_in (by simpa [Ne.symm e] using h)
theorem restoreN_in {n n1 : NSt} {j : Nat} (hl : n.length = n1.length) : ∀ {vs : List Nat}, j ∈ vs → (restoreN n n1 vs)[j]? = n1[j]?
  | [], h => by simp at h
  | v :: vs, h => by
    unfold restoreN
    by_cases e : v = j
    · subst e
      by_cases hv : v < n1.length
      · rw [List.getElem?_set_self (by rw [restoreN_len]; omega), List.getElem?_eq_getElem hv]; rfl
      · rw [List.getElem?_eq_none (by rw [List.length_set, restoreN_len]; omega), List.getElem?_eq_none (by omega)]
    · rw [List.getElem?_set_ne e]
      exact restoreN_in hl (by simpa [Ne.symm e] using h)
theorem wipe_out' {σ : L2.St} {j : Nat} : ∀ {vs : List Nat}, j ∉ vs → (wipe σ vs)[j]? = σ[j]?
  | [], _ => rfl
  | v :: vs, h => by
    unfold wipe
    rw [List.getElem?_set_ne (fun z => h (by simp [z])), wipe_out' fun z => h (by simp [z])]
theorem wipe_in {σ : L2.St} {j : Nat} : ∀ {vs : List Nat}, j ∈ vs → (wipe σ vs)[j]? = if j < σ.length then some none else none
  | [], h => by simp at h
  | v :: vs, h => by
    unfold wipe
    by_cases e : v = j
    · subst e
      by_cases hl : v < σ.length
      · rw [List.getElem?_set_self (by rw [wipe_length]; exact hl), if_pos hl]
      · rw [List.getElem?_eq_none (by rw [List.length_set, wipe_length]; omega), if_neg hl]
    · rw [List.getElem?_set_ne e]
      exact wipe_in (by simpa [Ne.symm e] using h)
theorem wipe_eq {σ τ : L2.St} {vs : List Nat} (hl : τ.length = σ.length) (h : ∀ j, j ∉ vs → τ[j]? = (wipe σ vs)[j]?) : wipe τ vs = wipe σ vs := by
  apply List.ext_getElem?
  intro j
  by_cases hj : j ∈ vs
  · rw [wipe_in hj, wipe_in hj, hl]
  · rw [wipe_out' hj]; exact h j hj
def noHeld (n : NSt) (vs : List Nat) : Bool := vs.all fun v => match n[v]? with
  | some (some sl) => !sl.held
  | _ => true
theorem noHeld_ok {n : NSt} {vs : List Nat} (h : noHeld n vs = true) {v : Nat} (hv : v ∈ vs) {sl : Sl} (e : n[v]? = some (some sl)) : sl.held = false := by
  have := List.all_eq_true.mp h v hv
  rw [e] at this
  simpa using this

/-! ### the comprehension -/
def nLcL (g : PyData → NSt → Option NSt) (t : NSt → R Bool) (f : NExp) (vs : List Nat) : List PyData → List PyData → NSt → R (List PyData)
  | [], acc, n => .ok acc n
  | d :: ds, acc, n => match g d n with
    | none => .bad
    | some n1 => (t n1).bind fun b n2 => if b = true then (f n2).bind fun y n3 => if acc.length < sizeLine then nLcL g t f vs ds (acc ++ [y]) (wipeN n3 vs) else .bad
      else nLcL g t f vs ds acc (wipeN n2 vs)
def nLc (fi : NSt → R (List PyData)) (g : PyData → NSt → Option NSt) (t : NSt → R Bool) (f : NExp) (vs : List Nat) : NSt → R (List PyData) := fun n => (fi n).bind fun ds n1 => if noHeld n1 vs = true then (match nLcL g t f vs ds [] (wipeN n1 vs) with
  | .ok acc n2 => .ok acc (restoreN n2 n1 vs)
  | _ => .bad) else .bad
section
variable {K : PySem.W.Frag}
/-- a list that stands apart: D, in none of the slots -/
structure Apart (K : PySem.W.Frag) (c : Cf) (D : Addr) (acc : List PyData) : Prop where
  ex : ∃ ws, c.H D = some (.lst ws) ∧ Reps K c.H c.F acc ws
  nf : ¬ c.F D
  nh : ¬ c.Hd D
theorem Apart.step {c c' : Cf} {D : Addr} {acc : List PyData} (a : Apart K c D acc) (S : Sim K c) (st : Step c c') : Apart K c' D acc := by
  obtain ⟨ws, h, r⟩ := a.ex
  have hn : c.H D ≠ none := by rw [h]; simp
  refine ⟨⟨ws, (st.keep D hn a.nh).trans h, st.reps S r⟩, fun f => ?_, fun hd => ?_⟩
  · rcases st.fn D f with z | z | z
    · exact a.nf z
    · exact hn z
    · exact a.nh z.hd
  · rcases st.hd D hd with z | z
    · exact a.nh z
    · exact hn z
/-- D is written, slots are wiped -/
theorem Sim.wipeD {c1 c4 : Cf} {vs : List Nat} {D : Addr} {acc acc' : List PyData} {us : List V} (nv : ∀ v ∈ vs, ∀ sl : Sl, c1.n[v]? = some (some sl) → sl.held = false) (st : Step c1 c4) (S : Sim K c4) (hD : c1.H D = none) (nfD : ¬ c4.F D) (nhD : ¬ c4.Hd D) (hDl : ∀ o u, c4.H D ≠ some (.frz o u)) (sl : wipe c4.s vs = wipe c1.s vs)
    (r : Reps K c4.H c4.F acc' us) :
    let c5 : Cf := ⟨wipeN c4.n vs, wipe c1.s vs, upd c4.H D (.lst us), c4.F⟩; Step c1 c5 ∧ Sim K c5 ∧ Apart K c5 D acc' := by
  intro c5
  have fr : ∀ a, c4.F a → c4.F a ∧ upd c4.H D (.lst us) a = c4.H a := fun a f => ⟨f, upd_ne fun z => by subst z; exact nfD f⟩
  have old : ∀ (j : Nat) (s : Sl), (wipeN c4.n vs)[j]? = some (some s) → j ∉ vs ∧ c4.n[j]? = some (some s) := fun j s e => by
    by_cases hj : j ∈ vs
    · exact absurd e (wipeN_in hj)
    · rw [wipeN_out hj] at e; exact ⟨hj, e⟩
  have oldS : ∀ {j : Nat}, j ∉ vs → (wipe c1.s vs)[j]? = c4.s[j]? := fun {j} hj => by rw [← sl, wipe_out' hj]
  have hd5 : ∀ a, c5.Hd a → c4.Hd a := fun a ⟨j, s, e, hh, es⟩ => by
    obtain ⟨hj, e1⟩ := old j s e
    exact ⟨j, s, e1, hh, by rw [← oldS hj]; exact es⟩
  have hlen : c4.s.length = c1.s.length := by
    have h1 := wipe_length c4.s vs
    have h2 := wipe_length c1.s vs
    rw [sl] at h1
    omega
  refine ⟨⟨fun a n nh => ?_, fun a n => ?_, st.fz, st.fn, fun a h => st.hd a (hd5 a h), fun a ⟨j, xs, e, es⟩ => ?_, fun i xs e => ?_, by show (wipeN c4.n vs).length = _; rw [wipeN_len]; exact st.ln⟩, ⟨?_, fun j s e => ?_, fun i j si sj b e1 e2 h1 h2 q1 q2 => ?_, fun a f => ?_⟩, ⟨⟨us, upd_same, Reps.keep fr _ _ r⟩, nfD, fun h => nhD (hd5 D h)⟩⟩
  · have : a ≠ D := fun z => by subst z; exact n hD
    show upd c4.H D (.lst us) a = _
    rw [upd_ne this]; exact st.keep a n nh
  · have : a ≠ D := fun z => by subst z; exact n hD
    show upd c4.H D (.lst us) a ≠ none
    rw [upd_ne this]; exact st.live a n
  · obtain ⟨hj, e1⟩ := old j _ e
    exact st.ow a ⟨j, xs, e1, by rw [← oldS hj]; exact es⟩
  · obtain ⟨ys, e1, e2⟩ := st.mu i xs e
    have hi : i ∉ vs := fun z => by have := nv i z _ e; cases this
    exact ⟨ys, by show (wipeN c4.n vs)[i]? = _; rw [wipeN_out hi]; exact e1, by show (wipe c1.s vs)[i]? = _; rw [wipe_out' hi]⟩
  · show (wipeN c4.n vs).length = (wipe c1.s vs).length
    rw [wipeN_len, wipe_length, ← hlen]; exact S.len
  · obtain ⟨hj, e1⟩ := old j s e
    obtain ⟨v, e2, q⟩ := S.slot j s e1
    refine ⟨v, by show (wipe c1.s vs)[j]? = _; rw [oldS hj]; exact e2, ?_⟩
    have away : ∀ b, s.held = true → v = .ref b → b ≠ D := fun b hh z y => by
      subst z; subst y
      exact nhD ⟨j, s, e1, hh, e2⟩
    cases s with
    | val d => exact Rep.keep fr d v q
    | own xs =>
      obtain ⟨b, ws, rfl, nb, hb, rb⟩ := q
      exact ⟨b, ws, rfl, nb, (upd_ne (away b rfl rfl)).trans hb, Reps.keep fr _ _ rb⟩
    | lent xs =>
      obtain ⟨b, ws, rfl, nb, hb, rb⟩ := q
      exact ⟨b, ws, rfl, nb, (upd_ne (away b rfl rfl)).trans hb, Reps.keep fr _ _ rb⟩
    | scr xs =>
      obtain ⟨b, ns, rfl, e3, z⟩ := q
      refine ⟨b, ns, rfl, e3, ?_⟩
      rcases z with ⟨o, z⟩ | z
      · refine .inl ⟨o, (upd_ne fun y => ?_).trans z⟩
        subst y
        exact hDl _ _ z
      · exact .inr z
  · obtain ⟨hi, e1⟩ := old i si e1
    obtain ⟨hj, e2⟩ := old j sj e2
    exact S.sep i j si sj b e1 e2 h1 h2 (by rw [← oldS hi]; exact q1) (by rw [← oldS hj]; exact q2)
  · show upd c4.H D (.lst us) a ≠ none
    rw [(fr a f).2]; exact S.fz a f
/-- the slots as they were -/
theorem Sim.restoreD {c c1 cc : Cf} {vs : List Nat} {D : Addr} {acc : List PyData} (nv : ∀ v ∈ vs, ∀ sl : Sl, c1.n[v]? = some (some sl) → sl.held = false) (st0 : Step c c1) (S1 : Sim K c1) (st : Step c1 cc) (S : Sim K cc) (hs : c1.s = c.s) (hs2 : cc.s = wipe c1.s vs) (hD : c1.H D = none) (ap : Apart K cc D acc) :
    let c6 : Cf := ⟨restoreN cc.n c1.n vs, c.s, cc.H, cc.F⟩; Step c c6 ∧ Sim K c6 ∧ relO K c c6 acc (.ref D) := by
  intro c6
  have hl : cc.n.length = c1.n.length := st.ln
  have old : ∀ (j : Nat) (s : Sl), (restoreN cc.n c1.n vs)[j]? = some (some s) → (j ∈ vs ∧ c1.n[j]? = some (some s) ∧ s.held = false) ∨ (j ∉ vs ∧ cc.n[j]? = some (some s)) := fun j s e => by
    by_cases hj : j ∈ vs
    · rw [restoreN_in hl hj] at e
      exact .inl ⟨hj, e, nv j hj s e⟩
    · rw [restoreN_out hj] at e; exact .inr ⟨hj, e⟩
  have oldS : ∀ {j : Nat}, j ∉ vs → c.s[j]? = cc.s[j]? := fun {j} hj => by rw [hs2, wipe_out' hj, hs]
  have hd6 : ∀ a, c6.Hd a → cc.Hd a := fun a ⟨j, s, e, hh, es⟩ => by
    rcases old j s e with ⟨_, _, z⟩ | ⟨hj, e1⟩
    · rw [z] at hh; cases hh
    · exact ⟨j, s, e1, hh, by rw [← oldS hj]; exact es⟩
  have st2 := st0.trans st
  have cD : c.H D = none := Classical.byContradiction fun z => st0.live D z hD
  refine ⟨⟨st2.keep, st2.live, st2.fz, st2.fn, fun a h => st2.hd a (hd6 a h), fun a ⟨j, xs, e, es⟩ => ?_, fun i xs e => ?_, by show (restoreN cc.n c1.n vs).length = _; rw [restoreN_len]; exact st2.ln⟩, ⟨?_, fun j s e => ?_, fun i j si sj b e1 e2 h1 h2 q1 q2 => ?_, S.fz⟩, ?_⟩
  · rcases old j _ e with ⟨_, _, z⟩ | ⟨hj, e1⟩
    · cases z
    · exact st2.ow a ⟨j, xs, e1, by rw [← oldS hj]; exact es⟩
  · obtain ⟨ys, e1, e2⟩ := st0.mu i xs e
    have hi : i ∉ vs := fun z => by have := nv i z _ e1; cases this
    obtain ⟨zs, e3, e4⟩ := st.mu i ys e1
    exact ⟨zs, by show (restoreN cc.n c1.n vs)[i]? = _; rw [restoreN_out hi]; exact e3, rfl⟩
  · show (restoreN cc.n c1.n vs).length = c.s.length
    rw [restoreN_len, hl, ← hs]; exact S1.len
  · rcases old j s e with ⟨hj, e1, z⟩ | ⟨hj, e1⟩
    · obtain ⟨v, e2, q⟩ := S1.slot j s e1
      refine ⟨v, by rw [← hs]; exact e2, ?_⟩
      cases s with
      | val d => exact st.rep S1 q
      | own d => cases z
      | lent d => cases z
      | scr d =>
        obtain ⟨b, ns, rfl, e3, y⟩ := q
        refine ⟨b, ns, rfl, e3, ?_⟩
        rcases y with ⟨o, y⟩ | y
        · refine .inl ⟨o, (st.keep b (by rw [y]; simp) fun hh => ?_).trans y⟩
          obtain ⟨k1, t, q1, q2, q3⟩ := hh
          obtain ⟨u, q4, q5⟩ := S1.slot k1 t q1
          rw [q3] at q4
          cases q4
          cases t with
          | val d => cases q2
          | scr d => cases q2
          | own d =>
            obtain ⟨b', ws, y1, _, y2, _⟩ := q5
            cases y1
            have z2 := y.symm.trans y2
            cases z2
          | lent d =>
            obtain ⟨b', ws, y1, _, y2, _⟩ := q5
            cases y1
            have z2 := y.symm.trans y2
            cases z2
        · exact .inr y
    · obtain ⟨v, e2, q⟩ := S.slot j s e1
      exact ⟨v, by show c.s[j]? = _; rw [oldS hj]; exact e2, q⟩
  · rcases old i si e1 with ⟨_, _, z⟩ | ⟨hi, e1⟩
    · rw [z] at h1; cases h1
    · rcases old j sj e2 with ⟨_, _, z⟩ | ⟨hj, e2⟩
      · rw [z] at h2; cases h2
      · exact S.sep i j si sj b e1 e2 h1 h2 (by rw [← oldS hi]; exact q1) (by rw [← oldS hj]; exact q2)
  · obtain ⟨ws, h, r⟩ := ap.ex
    exact ⟨D, ws, rfl, cD, ap.nf, h, fun hd => ap.nh (hd6 D hd), r⟩
end
section
variable {X : Cx} {W : WX}
theorem lc_st {own : List (Str × Nat)} {wi : TI} {fi : NSt → R (List PyData)} {gg : PyData → NSt → Option NSt} {t : NSt → R Bool} {f : NExp}
    (si : ∀ (c : Cf) (Q : It → Hp → Prop), Sim X.K c → Pst X.K X.mg W (fun _ c1 ds J => Gives X.K J ds c1) c Q (fi c.n) → wi c.s c.H Q)
    {c : Cf} {Q : VK} (S : Sim X.K c) (h : Pst X.K X.mg W (relO X.K) c Q (nLc fi gg t f (own.map (·.2)) c.n)) :
    tLc wi (cG X.K (own.map (·.2)) gg) (cT X.K X.mg W0 t) (cE X.K X.mg W0 f) (own.map (·.2)) c.s c.H Q := by
  generalize hvs : own.map (·.2) = vs at h ⊢
  refine si c _ S (Pst.seq (rel := fun _ c1 ds J => Gives X.K J ds c1) (rel' := relO X.K) mono_O h fun ds n1 J H1 F1 _ st1 S1 gv h1 => ?_)
  intro D hD
  split at h1
  · rename_i hnh
    have nv : ∀ v ∈ vs, ∀ sl : Sl, n1[v]? = some (some sl) → sl.held = false := fun v hv sl e => noHeld_ok hnh hv e
    cases el : nLcL gg t f vs ds [] (wipeN n1 vs) with
    | ok accF nF =>
      rw [el] at h1
      let c1 : Cf := ⟨n1, c.s, H1, F1⟩
      have S1' : Sim X.K c1 := S1
      have start := Sim.wipeD (K := X.K) (c1 := c1) (c4 := c1) (vs := vs) (D := D) (acc := []) (acc' := []) (us := []) nv (Step.refl _) S1' hD (fun f => S1'.fz D f hD) (fun hd => S1'.hdH hd hD) (fun o u z => by have z' : H1 D = _ := z; rw [hD] at z'; cases z') rfl Reps.nil
      refine ⟨fun i m H => ∃ (cc : Cf) (acc : List PyData), cc.s = wipe c.s vs ∧ cc.H = H ∧ i ≤ ds.length ∧ m = ds.length - i ∧ Step c1 cc ∧ Sim X.K cc ∧ Apart X.K cc D acc ∧ nLcL gg t f vs (ds.drop i) acc cc.n = .ok accF nF, ⟨ds.length, _, [], rfl, rfl, Nat.zero_le _, rfl, start.1, start.2.1, start.2.2, el⟩, ?_⟩
      rintro i m H ⟨cc, acc, hcs, rfl, hi, rfl, stc, Sc, ap, er⟩
      obtain ⟨gi, gs⟩ := gv cc stc Sc i hi
      by_cases hlt : i < ds.length
      · have ed : ds[i]? = some ds[i] := List.getElem?_eq_getElem hlt
        obtain ⟨go, gy⟩ := gi _ ed
        have edr : ds.drop i = ds[i] :: ds.drop (i + 1) := List.drop_eq_getElem_cons hlt
        rw [edr] at er
        unfold nLcL at er
        refine .inr ⟨go, fun H' => ∃ (cc' : Cf) (acc' : List PyData), cc'.s = wipe c.s vs ∧ cc'.H = H' ∧ Step c1 cc' ∧ Sim X.K cc' ∧ Apart X.K cc' D acc' ∧ nLcL gg t f vs (ds.drop (i + 1)) acc' cc'.n = .ok accF nF,
          fun H' ⟨cc', acc', z1, z2, z3, z4, z5, z6⟩ => ⟨ds.length - (i + 1), by omega, cc', acc', z1, z2, hlt, rfl, z3, z4, z5, z6⟩, fun x H' y => ?_⟩
        obtain ⟨F', st3, S3, r3⟩ := gy x H' y
        cases eg : gg ds[i] cc.n with
        | none => rw [eg] at er; cases er
        | some n3 =>
          rw [eg] at er
          dsimp only at er
          refine ⟨⟨cc.n, cc.s, H', F'⟩, ds[i], n3, hcs, rfl, S3, r3, eg, fun σ4 st4 S4 kk ll => ?_⟩
          have st34 : Step cc ⟨n3, σ4, H', F'⟩ := st3.trans st4
          have w4 : wipe σ4 vs = wipe c.s vs := wipe_eq (by have l1 : σ4.length = cc.s.length := ll; rw [l1, hcs, wipe_length]) fun j hj => by
            have := (kk j hj).1
            have this' : σ4[j]? = cc.s[j]? := this
            rw [this', hcs]
          refine ⟨w4, ⟨n3, σ4, H', F'⟩, rfl, rfl, S4, ?_⟩
          cases et : t n3 with
          | bad => rw [et] at er; cases er
          | err x n5 => rw [et] at er; cases er
          | ok b n5 =>
            rw [et] at er
            intro b' H5 F5 st5 S5 rb
            cases rb
            have st35 : Step cc ⟨n5, σ4, H5, F5⟩ := st34.trans st5
            have er' : (if b = true then (f n5).bind fun y n3 => if acc.length < sizeLine then nLcL gg t f vs (ds.drop (i + 1)) (acc ++ [y]) (wipeN n3 vs) else .bad
              else nLcL gg t f vs (ds.drop (i + 1)) acc (wipeN n5 vs)) = .ok accF nF := er
            cases b with
            | false =>
              refine iteF ?_
              have a5 := ap.step Sc st35
              obtain ⟨ws, hw, rw5⟩ := a5.ex
              have fin := Sim.wipeD (K := X.K) (c1 := c1) (c4 := ⟨n5, σ4, H5, F5⟩) (vs := vs) (D := D) (acc := acc) (acc' := acc) (us := ws) nv (stc.trans st35) S5 hD a5.nf a5.nh (fun o u z => by have z' := hw.symm.trans z; cases z') w4 rw5
              have eH : upd H5 D (.lst ws) = H5 := by
                funext b
                by_cases hb : b = D
                · subst hb; rw [upd_same]; exact hw.symm
                · rw [upd_ne hb]
              refine ⟨_, acc, rfl, ?_, fin.1, fin.2.1, fin.2.2, er'⟩
              exact eH
            | true =>
              refine iteT ?_
              refine ⟨⟨n5, σ4, H5, F5⟩, rfl, rfl, S5, ?_⟩
              cases ef : f n5 with
              | bad => simp only [if_true] at er'; rw [ef] at er'; cases er'
              | err x n6 => simp only [if_true] at er'; rw [ef] at er'; cases er'
              | ok y' n6 =>
                simp only [if_true] at er'
                rw [ef] at er'
                intro v6 H6 F6 st6 S6 r6
                have er2 : (if acc.length < sizeLine then nLcL gg t f vs (ds.drop (i + 1)) (acc ++ [y']) (wipeN n6 vs) else R.bad) = .ok accF nF := er'
                split at er2
                · rename_i hz
                  have st36 : Step cc ⟨n6, σ4, H6, F6⟩ := st35.trans st6
                  have a6 := ap.step Sc st36
                  obtain ⟨ws, hw, rw6⟩ := a6.ex
                  refine ⟨ws, hw, by rw [rw6.length]; exact hz, ?_⟩
                  have fin := Sim.wipeD (K := X.K) (c1 := c1) (c4 := ⟨n6, σ4, H6, F6⟩) (vs := vs) (D := D) (acc := acc) (acc' := acc ++ [y']) (us := ws ++ [v6]) nv (stc.trans st36) S6 hD a6.nf a6.nh (fun o u z => by have z' := hw.symm.trans z; cases z') w4 (rw6.append (Reps.cons r6 Reps.nil))
                  exact ⟨_, acc ++ [y'], rfl, rfl, fin.1, fin.2.1, fin.2.2, er2⟩
                · cases er2
      · have e : i = ds.length := by omega
        subst e
        refine .inl ⟨gs rfl, ?_⟩
        rw [List.drop_length] at er
        unfold nLcL at er
        cases er
        have fin := Sim.restoreD (K := X.K) (c := ⟨n1, c.s, H1, F1⟩) (c1 := c1) (cc := cc) nv (Step.refl _) S1' stc Sc rfl hcs hD ap
        exact h1 (.ref D) cc.H cc.F fin.1 fin.2.1 fin.2.2
    | err x n => rw [el] at h1; exact h1.elim
    | bad => rw [el] at h1; exact h1.elim
  · exact h1.elim
abbrev BX (X : Cx) (s : Shared) (H : Hp) (scope : Scope) (C : Addr) (cl : List (Str × Addr)) (fp : List Addr) : Cx := X.blk s H scope (compEnvC scope cl C X.env) fp
def tYesN : NSt → R Bool := fun n => .ok true n
theorem neo_lc {elt tg iter : Expr} {ifs : List Expr} {scope : Scope} {own : List (Str × Nat)} {pos : Pos} {fi : NSt → R (List PyData)} {gg : PyData → NSt → Option NSt} {t : NSt → R Bool} {f : NExp} (hc : X.calm = true) (hN : X.N.Nodup) (hi : NI X W tg iter fi) (ok : BlkOk X.N X.env.scope scope own)
    (hg : ∀ s H C cl fp, NG (BX X s H scope C cl fp) tg (own.map (·.2)) gg) (ht : ∀ s H C cl fp, PTs (BX X s H scope C cl fp) ifs (cT X.K X.mg W0 t)) (he : ∀ s H C cl fp, NE (BX X s H scope C cl fp) W0 elt f)
    (hs : ∀ x, foldedSetIterable iter X.env x = pure x := by intro _; rfl) : NEo X W (.ListComp elt [⟨tg, iter, ifs, 0⟩] scope pos) (nLc fi gg t f (own.map (·.2))) := by
  obtain ⟨wi, pi, si⟩ := hi.ex
  exact ⟨_, pe_lc hc hN pi ok (fun s H C cl fp => (hg s H C cl fp).canon) ht (fun s H C cl fp => (he s H C cl fp).canon) hs, fun c Q S h => lc_st si S h⟩
/-- x = [.. for ..] on one line -/
theorem ns_ownLc (i : Nat) {y : Str} {py : Pos} {elt tg iter : Expr} {ifs : List Expr} {scope : Scope} {own : List (Str × Nat)} {pos spos : Pos} {fi : NSt → R (List PyData)} {gg : PyData → NSt → Option NSt} {t : NSt → R Bool} {f : NExp} (hc : X.calm = true) (hN : X.N.Nodup) (hy : X.N[i]? = some y) (hyl : X.env.scope.names.lookup y = some .local)
    (hsw : swapsWith (.ListComp elt [⟨tg, iter, ifs, 0⟩] scope pos) (some (.Name y py)) spos.line X.env = pure true) (hi : NI X W tg iter fi) (ok : BlkOk X.N X.env.scope scope own)
    (hg : ∀ s H C cl fp, NG (BX X s H scope C cl fp) tg (own.map (·.2)) gg) (ht : ∀ s H C cl fp, PTs (BX X s H scope C cl fp) ifs (cT X.K X.mg W0 t)) (he : ∀ s H C cl fp, NE (BX X s H scope C cl fp) W0 elt f)
    (hs : ∀ x, foldedSetIterable iter X.env x = pure x := by intro _; rfl) : NS X W (.Assign [.Name y py] (.ListComp elt [⟨tg, iter, ifs, 0⟩] scope pos) spos) (sOwn i (nLc fi gg t f (own.map (·.2)))) := by
  obtain ⟨wi, pi, si⟩ := hi.ex
  exact ⟨_, ps_setLc hc hN hy hyl hsw pi ok (fun s H C cl fp => (hg s H C cl fp).canon) ht (fun s H C cl fp => (he s H C cl fp).canon) hs, fun c D S h => own_st (fun c Q S h => lc_st si S h) S h⟩
/-- .. a value -/
def sSetL (i : Nat) (fo : NSt → R (List PyData)) : NStm := fun n => (fo n).st fun xs n1 => if notLent n1 i = true then .nx (n1.set i (some (.val (.list xs)))) else .bad
theorem setL_st {i : Nat} {fo : NSt → R (List PyData)} {t : TE} (s : ∀ (c : Cf) (Q : VK), Sim X.K c → Pst X.K X.mg W (relO X.K) c Q (fo c.n) → t c.s c.H Q) {c : Cf} {D : Ends} (S : Sim X.K c) (h : PstS X.K X.mg W c D (sSetL i fo c.n)) :
    t c.s c.H fun x H1 => D.nx (c.s.set i (some x)) H1 := by
  refine s c _ S ?_
  unfold sSetL at h
  cases q : fo c.n with
  | ok xs n1 =>
    rw [q] at h
    intro x H1 F1 st1 S1 r
    have h' : PstS X.K X.mg W c D (if notLent n1 i = true then .nx (n1.set i (some (.val (.list xs)))) else .bad) := h
    split at h'
    · rename_i hl
      obtain ⟨F2, S2, st2, r2⟩ := Sim.freeze S st1 S1 r
      obtain ⟨S3, st3⟩ := Sim.setVal S2 hl r2
      exact h' _ _ _ (st2.trans st3) S3
    · exact h'.elim
  | err x n1 => rw [q] at h; exact fun cls d H' F' s1 S1 r1 => h cls d c.s H' F' s1 S1 r1
  | bad => rw [q] at h; exact h
theorem ns_setLc (i : Nat) {y : Str} {py : Pos} {elt tg iter : Expr} {ifs : List Expr} {scope : Scope} {own : List (Str × Nat)} {pos spos : Pos} {fi : NSt → R (List PyData)} {gg : PyData → NSt → Option NSt} {t : NSt → R Bool} {f : NExp} (hc : X.calm = true) (hN : X.N.Nodup) (hy : X.N[i]? = some y) (hyl : X.env.scope.names.lookup y = some .local)
    (hsw : swapsWith (.ListComp elt [⟨tg, iter, ifs, 0⟩] scope pos) (some (.Name y py)) spos.line X.env = pure true) (hi : NI X W tg iter fi) (ok : BlkOk X.N X.env.scope scope own)
    (hg : ∀ s H C cl fp, NG (BX X s H scope C cl fp) tg (own.map (·.2)) gg) (ht : ∀ s H C cl fp, PTs (BX X s H scope C cl fp) ifs (cT X.K X.mg W0 t)) (he : ∀ s H C cl fp, NE (BX X s H scope C cl fp) W0 elt f)
    (hs : ∀ x, foldedSetIterable iter X.env x = pure x := by intro _; rfl) : NS X W (.Assign [.Name y py] (.ListComp elt [⟨tg, iter, ifs, 0⟩] scope pos) spos) (sSetL i (nLc fi gg t f (own.map (·.2)))) := by
  obtain ⟨wi, pi, si⟩ := hi.ex
  exact ⟨_, ps_setLc hc hN hy hyl hsw pi ok (fun s H C cl fp => (hg s H C cl fp).canon) ht (fun s H C cl fp => (he s H C cl fp).canon) hs, fun c D S h => setL_st (fun c Q S h => lc_st si S h) S h⟩
theorem pts_nilN {s : Shared} {H : Hp} {scope : Scope} {C : Addr} {cl : List (Str × Addr)} {fp : List Addr} : PTs (BX X s H scope C cl fp) [] (cT X.K X.mg W0 tYesN) :=
  ⟨fun pins s0 σ H Q I ⟨c, e1, e2, S, q⟩ => by subst e1 e2; exact pts_nil.run pins s0 c.s c.H Q I (q true c.H c.F (Step.refl _) S rfl)⟩
theorem pts_oneN {s : Shared} {H : Hp} {scope : Scope} {C : Addr} {cl : List (Str × Addr)} {fp : List Addr} {e : Expr} {t : NSt → R Bool} (h : NT (BX X s H scope C cl fp) W0 e t) : PTs (BX X s H scope C cl fp) [e] (cT X.K X.mg W0 t) := pts_one h.canon
end
/-! ### what is walked -/
section
variable {X : Cx} {W : WX} {tg e : Expr} {f : NExp}
def iAnyN (K : PySem.W.Frag) (tl : TE) : TI := fun σ H R => tl σ H fun x H1 => (∃ a, x = .ref a ∧ (∃ xs, SqL K H1 a xs) ∧ R (Itl K a) H1) ∨ (∃ a, x = .ref a ∧ (∃ xs, SqT K H1 a xs) ∧ R (Itt K a) H1) ∨ (∃ x', x = .str x' ∧ R (Its x') H1)
theorem pi_anyN {l : Expr} {tl : TE} (hl : PE X l tl) : PI X tg l (iAnyN X.K tl) := by
  refine ⟨fun pins s σ H R I h => ?_⟩
  refine thn (hl.run pins s σ H _ I h) fun v s1 ⟨x, H1, I1, r1, q1⟩ => ?_
  rcases q1 with ⟨a, e, ⟨xs, hq⟩, q⟩ | ⟨a, e, ⟨xs, hq⟩, q⟩ | ⟨x', e, q⟩
  · subst e
    cases r1
    obtain ⟨its, rv, p, hz⟩ := I1.list hq
    refine wpAny_pyIter_list p.isList ?_
    refine ⟨s1.heap.objs.size, [s1.heap.objs.size], _, _, H1, rfl, I1.kept (t' := s1.toks) fun b o e => Heap.get?_push_of_some _ e, turn_list a _, ⟨_, Heap.get?_push_size _ rfl, rfl, rfl⟩, fun b hb => ?_, q⟩
    have e : b = s1.heap.objs.size := by simpa using hb
    subst e
    exact I1.fpOk (Nat.le_refl _) (I1.hok.fresh (Nat.le_refl _))
  · subst e
    cases r1
    obtain ⟨its, rv, p, hz⟩ := I1.tuple hq
    refine wpAny_pyIter_tuple (show s1.heap.IsTuple a its.toArray from p) ?_
    refine ⟨s1.heap.objs.size, [s1.heap.objs.size], _, _, H1, rfl, I1.kept (t' := s1.toks) fun b o e => Heap.get?_push_of_some _ e, turn_tuple a _, ⟨_, Heap.get?_push_size _ rfl, rfl, rfl⟩, fun b hb => ?_, q⟩
    have e : b = s1.heap.objs.size := by simpa using hb
    subst e
    exact I1.fpOk (Nat.le_refl _) (I1.hok.fresh (Nat.le_refl _))
  · subst e
    obtain ⟨t, rfl⟩ := r1
    cases ha : x'.cps.all (· < 128)
    · exact wpAny_pyIter_wide ha (pi_one (tk := s1.toks) I1 _ (turn_str _ x' t "str_iterator" (.inr rfl)) ⟨_, Heap.get?_push_size _ rfl, rfl, rfl⟩ q)
    · exact wpAny_pyIter_ascii ha (pi_one (tk := s1.toks) I1 _ (turn_str _ x' t "str_ascii_iterator" (.inl rfl)) ⟨_, Heap.get?_push_size _ rfl, rfl, rfl⟩ q)
def seqOf : PyData → Option (List PyData)
  | .list xs => some xs
  | .tuple xs => some xs
  | .str z => some (z.cps.toList.map fun c => .str ⟨#[c]⟩)
  | _ => none
theorem gives_list {K : PySem.W.Frag} {c1 : Cf} {a : Addr} {ds : List PyData} {vs : List V} (S1 : Sim K c1) (f : c1.F a) (h : c1.H a = some (.lst vs)) (r : Reps K c1.H c1.F ds vs) : Gives K (Itl K a) ds c1 := fun c2 st S2 i hi => by
  have h2 : SqL K c2.H a vs := SqL.of ((st.frz S1 a f).2.trans h)
  have r2 := st.reps S1 r
  refine ⟨fun d ed => ?_, fun e => ⟨vs, h2, by rw [r.length]; omega⟩⟩
  obtain ⟨v, ev, rv⟩ := r2.get ed
  refine ⟨⟨vs, v, h2, ev⟩, fun x H' ⟨e1, e2⟩ => ?_⟩
  subst e1
  have e3 := e2 vs h2
  rw [ev] at e3
  cases e3
  exact ⟨c2.F, Step.refl _, S2, rv⟩
theorem gives_tup {K : PySem.W.Frag} {c1 : Cf} {a : Addr} {ds : List PyData} {vs : List V} (S1 : Sim K c1) (f : (c1.F a ∧ c1.H a = some (.tup vs)) ∨ ∀ H', SqT K H' a vs) (r : Reps K c1.H c1.F ds vs) : Gives K (Itt K a) ds c1 := fun c2 st S2 i hi => by
  have h2 : SqT K c2.H a vs := by
    rcases f with ⟨f, h⟩ | f
    · exact SqT.of ((st.frz S1 a f).2.trans h)
    · exact f _
  have r2 := st.reps S1 r
  refine ⟨fun d ed => ?_, fun e => ⟨vs, h2, by rw [r.length]; omega⟩⟩
  obtain ⟨v, ev, rv⟩ := r2.get ed
  refine ⟨⟨vs, v, h2, ev⟩, fun x H' ⟨e1, e2⟩ => ?_⟩
  subst e1
  have e3 := e2 vs h2
  rw [ev] at e3
  cases e3
  exact ⟨c2.F, Step.refl _, S2, rv⟩
theorem gives_str {K : PySem.W.Frag} {c1 : Cf} {z : Str} : Gives K (Its z) (z.cps.toList.map fun c => PyData.str ⟨#[c]⟩) c1 := fun c2 st S2 i hi => by
  rw [List.length_map, Array.length_toList] at hi
  refine ⟨fun d ed => ?_, fun e => by rw [List.length_map, Array.length_toList] at e; exact Nat.le_of_eq e.symm⟩
  rw [List.getElem?_map, Array.getElem?_toList] at ed
  cases q : z.cps[i]? with
  | none => rw [q] at ed; cases ed
  | some k =>
    rw [q] at ed
    cases ed
    refine ⟨?_, fun x H' ⟨e1, k', e2, e3⟩ => ?_⟩
    · obtain ⟨hlt, _⟩ := Array.getElem?_eq_some_iff.mp q
      exact hlt
    · subst e1 e3
      rw [q] at e2
      cases e2
      exact ⟨c2.F, Step.refl _, S2, Rep.mkStr⟩
def iV (f : NExp) : NSt → R (List PyData) := fun n => (f n).bind fun d n' => liftO (seqOf d) n'
theorem ni_v (h : NE X W e f) : NI X W tg e (iV f) := by
  obtain ⟨t, p, s⟩ := h.ex
  refine ⟨iAnyN X.K t, pi_anyN p, fun c Q S q => ?_⟩
  refine s c _ S (Pst.seq (rel := relE X.K) (rel' := fun _ c1 ds J => Gives X.K J ds c1) mono_I q fun d n' v H' F' _ st S' r q' => ?_)
  cases d with
  | list xs =>
    obtain ⟨a, vs, rfl, f, h, rs⟩ := Rep.list (K := X.K) (H := H') (F := F') r
    exact .inl ⟨a, rfl, ⟨vs, SqL.of h⟩, q' (Itl X.K a) H' F' (Step.refl _) S' (gives_list S' f h rs)⟩
  | tuple xs =>
    have r' : Rep X.K H' F' (.tuple xs) v := r
    unfold Rep at r'
    obtain ⟨a, vs, rfl, f, rs⟩ := r'
    refine .inr (.inl ⟨a, rfl, ⟨vs, ?_⟩, q' (Itt X.K a) H' F' (Step.refl _) S' (gives_tup S' f rs)⟩)
    rcases f with ⟨f, h⟩ | f
    · exact SqT.of h
    · exact f _
  | str z => exact .inr (.inr ⟨z, Rep.str (K := X.K) (H := H') (F := F') r, q' (Its z) H' F' (Step.refl _) S' gives_str⟩)
  | _ => exact q'.elim
/-- the script -/
def iScr (i : Nat) : NSt → R (List PyData) := fun n => match n[i]? with
  | some (some (.scr xs)) => .ok xs n
  | _ => .bad
theorem ni_scr (i : Nat) {x : Str} {pos : Pos} (hN : X.N[i]? = some x := by rfl) (hv : Vis X.env.scope x := by first | exact Or.inl rfl | exact Or.inr (Or.inl rfl) | exact Or.inr (Or.inr rfl)) (hd : (x == ("__debug__" : Str)) = false := by decide)
    (hcd : (x == ("__classdict__" : Str)) = false := by decide) : NI X W tg (.Name x pos) (iScr i) := by
  refine ⟨iList X.K (tVar i), pi_list (pe_var hN hv hd hcd), fun c Q S q => ?_⟩
  unfold iScr at q
  split at q
  · rename_i xs e
    obtain ⟨v, e1, a, ns, rfl, e2, ok⟩ := S.slot i _ e
    subst e2
    refine ⟨_, e1, a, rfl, ⟨_, ok.sq⟩, q (Itl X.K a) c.H c.F (Step.refl _) S fun c2 st S2 j hj => ?_⟩
    have h2 : SqL X.K c2.H a (ns.map V.int) := by
      rcases ok with ⟨o, ok⟩ | ok
      · refine .inl (.inr ⟨o, (st.keep a (by rw [ok]; simp) fun hh => ?_).trans ok⟩)
        obtain ⟨k1, t, q1, q2, q3⟩ := hh
        obtain ⟨u, q4, q5⟩ := S.slot k1 t q1
        rw [q3] at q4
        cases q4
        cases t with
        | val d => cases q2
        | scr d => cases q2
        | own d =>
          obtain ⟨b', ws, y1, _, y2, _⟩ := q5
          cases y1
          have z2 := ok.symm.trans y2
          cases z2
        | lent d =>
          obtain ⟨b', ws, y1, _, y2, _⟩ := q5
          cases y1
          have z2 := ok.symm.trans y2
          cases z2
      · exact ok _
    rw [List.length_map] at hj
    refine ⟨fun d ed => ?_, fun e => ⟨_, h2, by rw [List.length_map]; rw [List.length_map] at e; omega⟩⟩
    rw [List.getElem?_map] at ed
    cases q0 : ns[j]? with
    | none => rw [q0] at ed; cases ed
    | some k =>
      rw [q0] at ed
      cases ed
      have ek : (ns.map V.int)[j]? = some (.int k) := by rw [List.getElem?_map, q0]; rfl
      refine ⟨⟨_, _, h2, ek⟩, fun x H' ⟨e1, e2⟩ => ?_⟩
      subst e1
      have e3 := e2 _ h2
      rw [ek] at e3
      cases e3
      exact ⟨c2.F, Step.refl _, S2, Rep.mkInt⟩
  · exact q.elim
def rgD (lo hi : Int) : List PyData := (List.range (hi - lo).toNat).map fun (i : Nat) => .int (lo + (i : Int))
def rgOk (i : Int) : Bool := decide (-(2 ^ 62) ≤ i) && decide (i < 2 ^ 62)
theorem gives_rng {K : PySem.W.Frag} {c1 : Cf} {lo hi : Int} : Gives K (Itr lo (hi - lo).toNat) (rgD lo hi) c1 := fun c2 st S2 i hi' => by
  unfold rgD at hi' ⊢
  rw [List.length_map, List.length_range] at hi'
  refine ⟨fun d ed => ?_, fun e => by rw [List.length_map, List.length_range] at e; exact Nat.le_of_eq e.symm⟩
  rw [List.getElem?_map] at ed
  cases q : (List.range (hi - lo).toNat)[i]? with
  | none => rw [q] at ed; cases ed
  | some k =>
    rw [q] at ed
    cases ed
    obtain ⟨hlt, hk⟩ := List.getElem?_eq_some_iff.mp q
    rw [List.length_range] at hlt
    rw [List.getElem_range] at hk
    subst hk
    exact ⟨hlt, fun x H' ⟨e1, e2⟩ => by subst e1 e2; exact ⟨c2.F, Step.refl _, S2, Rep.mkInt⟩⟩
def iRg1 (f : NSt → R (List AV)) : NSt → R (List PyData) := fun n => (f n).bind fun as n' => match as with
  | [.v (.int j)] => if rgOk j = true then .ok (rgD 0 j) n' else .bad
  | _ => .bad
theorem rgOk_ok {i : Int} (h : rgOk i = true) : -(2 ^ 62) ≤ i ∧ i < 2 ^ 62 := by
  unfold rgOk at h
  obtain ⟨h1, h2⟩ := Bool.and_eq_true_iff.mp h
  exact ⟨of_decide_eq_true h1, of_decide_eq_true h2⟩
theorem ni_rg1 {a : Expr} {fs : NSt → R (List AV)} {p pos : Pos} (hm : X.mg "range" = none) (ha : NA X W [a] fs) (hg : Gl X "range" := by rfl) (hs : starEach [a] X.env = [(false, eval a X.env)] := by rfl) : NI X W tg (.Call (.Name "range" p) [a] [] pos) (iRg1 fs) := by
  obtain ⟨t, pa, s⟩ := ha.ex
  refine ⟨iRng1 t, pi_range1 hg hm pa hs, fun c Q S q => ?_⟩
  refine s c _ S (Pst.seq (rel := relA X.K) (rel' := fun _ c1 ds J => Gives X.K J ds c1) mono_I q fun as n' vs H' F' _ st S' r q' => ?_)
  split at q'
  · rename_i j _
    split at q'
    · rename_i hz
      cases r with
      | cons r1 rr =>
        cases rr
        obtain ⟨h1, h2⟩ := rgOk_ok hz
        have e1 : _ = V.int j := Rep.int (K := X.K) (H := H') (F := F') r1
        subst e1
        have gg : Gives X.K (Itr 0 j.toNat) (rgD 0 j) ⟨n', c.s, H', F'⟩ := by
          have := gives_rng (K := X.K) (c1 := ⟨n', c.s, H', F'⟩) (lo := 0) (hi := j)
          rw [Int.sub_zero] at this
          exact this
        exact ⟨j, rfl, h1, h2, q' (Itr 0 j.toNat) H' F' (Step.refl _) S' gg⟩
    · exact q'.elim
  · exact q'.elim
def iRg2 (f : NSt → R (List AV)) : NSt → R (List PyData) := fun n => (f n).bind fun as n' => match as with
  | [.v (.int i), .v (.int j)] => if rgOk i = true ∧ rgOk j = true then .ok (rgD i j) n' else .bad
  | _ => .bad
theorem ni_rg2 {a b : Expr} {fs : NSt → R (List AV)} {p pos : Pos} (hm : X.mg "range" = none) (ha : NA X W [a, b] fs) (hg : Gl X "range" := by rfl) (hs : starEach [a, b] X.env = [(false, eval a X.env), (false, eval b X.env)] := by rfl) (hs2 : starEach [b] X.env = [(false, eval b X.env)] := by rfl) :
    NI X W tg (.Call (.Name "range" p) [a, b] [] pos) (iRg2 fs) := by
  obtain ⟨t, pa, s⟩ := ha.ex
  refine ⟨iRng2 t, pi_range2 hg hm pa hs hs2, fun c Q S q => ?_⟩
  refine s c _ S (Pst.seq (rel := relA X.K) (rel' := fun _ c1 ds J => Gives X.K J ds c1) mono_I q fun as n' vs H' F' _ st S' r q' => ?_)
  split at q'
  · rename_i i j _
    split at q'
    · rename_i hz
      cases r with
      | cons r1 rr =>
        cases rr with
        | cons r2 rr =>
          cases rr
          obtain ⟨h1, h2⟩ := rgOk_ok hz.1
          obtain ⟨h3, h4⟩ := rgOk_ok hz.2
          have e1 : _ = V.int i := Rep.int (K := X.K) (H := H') (F := F') r1
          have e2 : _ = V.int j := Rep.int (K := X.K) (H := H') (F := F') r2
          subst e1 e2
          exact ⟨i, j, rfl, ⟨h1, h2, h3, h4⟩, q' (Itr i (j - i).toNat) H' F' (Step.refl _) S' gives_rng⟩
    · exact q'.elim
  · exact q'.elim
/-- zip of two lists, of two tuples -/
def zipD (xs ys : List PyData) : List PyData := List.zipWith (fun x y => .tuple [x, y]) xs ys
def iZp (f : NSt → R (List AV)) : NSt → R (List PyData) := fun n => (f n).bind fun as n' => match as with
  | [.v (.list xs), .v (.list ys)] => .ok (zipD xs ys) n'
  | [.v (.tuple xs), .v (.tuple ys)] => .ok (zipD xs ys) n'
  | _ => .bad
theorem ni_zip {a b : Expr} {fs : NSt → R (List AV)} {p pos tpos : Pos} {elts : List Expr} {kk : Nat} (hm : X.mg "zip" = none) (ha : NA X W [a, b] fs) (hg : Gl X "zip" := by rfl) (hs : starEach [a, b] X.env = (false, eval a X.env) :: starEach [b] X.env := by rfl) (hpl : (backTo pos (starEach [b] X.env)).any (·.1) = false := by rfl) :
    NI X W (.Tuple elts kk tpos) (.Call (.Name "zip" p) [a, b] [] pos) (iZp fs) := by
  obtain ⟨t, pa, s⟩ := ha.ex
  refine ⟨RZ.iZipA X.K t, RZ.pi_zipA hg hm pa hs hpl, fun c Q S q => ?_⟩
  refine s c _ S (Pst.seq (rel := relA X.K) (rel' := fun _ c1 ds J => Gives X.K J ds c1) mono_I q fun as n' vs H' F' _ st S' r q' => ?_)
  have pair : ∀ (c2 : Cf) (x y : PyData) (u w : V) (T : Addr), Sim X.K c2 → Rep X.K c2.H c2.F x u → Rep X.K c2.H c2.F y w → c2.H T = none → ∃ F', Step c2 ⟨c2.n, c2.s, upd c2.H T (.tup [u, w]), F'⟩ ∧ Sim X.K ⟨c2.n, c2.s, upd c2.H T (.tup [u, w]), F'⟩ ∧ Rep X.K (upd c2.H T (.tup [u, w])) F' (.tuple [x, y]) (.ref T) := fun c2 x y u w T S2 r1 r2 hT => by
    obtain ⟨h1, h2, h3⟩ := S2.newTup (p := T) hT (Reps.cons r1 (Reps.cons r2 Reps.nil))
    exact ⟨_, h2, h1, h3⟩
  have zget : ∀ (xs ys : List PyData) (i : Nat) (d : PyData), (zipD xs ys)[i]? = some d → ∃ x y, xs[i]? = some x ∧ ys[i]? = some y ∧ d = .tuple [x, y] := fun xs ys i d e => by
    unfold zipD at e
    rw [List.getElem?_zipWith] at e
    cases e1 : xs[i]? with
    | none => rw [e1] at e; simp at e
    | some x =>
      cases e2 : ys[i]? with
      | none => rw [e1, e2] at e; simp at e
      | some y => rw [e1, e2] at e; simp at e; exact ⟨x, y, rfl, rfl, e.symm⟩
  split at q'
  · rename_i xs ys _
    cases r with
    | cons r1 rr =>
      cases rr with
      | cons r2 rr =>
        cases rr
        obtain ⟨a, us, rfl, fa, ha', ra⟩ := Rep.list (K := X.K) (H := H') (F := F') r1
        obtain ⟨b, ws, rfl, fb, hb', rb⟩ := Rep.list (K := X.K) (H := H') (F := F') r2
        refine ⟨a, b, us, ws, rfl, .inl ⟨SqL.of ha', SqL.of hb', q' (Itz X.K a b) H' F' (Step.refl _) S' fun c2 st2 S2 i hi => ?_⟩⟩
        have ha2 : SqL X.K c2.H a us := SqL.of ((st2.frz S' a fa).2.trans ha')
        have hb2 : SqL X.K c2.H b ws := SqL.of ((st2.frz S' b fb).2.trans hb')
        refine ⟨fun d ed => ?_, fun e => ⟨us, ws, ha2, hb2, ?_⟩⟩
        · obtain ⟨x, y, e1, e2, rfl⟩ := zget xs ys i d ed
          obtain ⟨u, eu, ru⟩ := (st2.reps S' ra).get e1
          obtain ⟨w, ew, rw'⟩ := (st2.reps S' rb).get e2
          refine ⟨⟨us, ws, u, w, ha2, hb2, eu, ew⟩, fun v H2 ⟨T, u', w', e3, hT, e4, e5, e6⟩ => ?_⟩
          have e5' := e5 us ha2
          have e6' := e6 ws hb2
          rw [eu] at e5'
          rw [ew] at e6'
          cases e5'
          cases e6'
          subst e3 e4
          exact pair c2 x y u w T S2 ru rw' hT
        · unfold zipD at e
          rw [List.length_zipWith] at e
          rw [ra.length, rb.length]
          omega
  · rename_i xs ys _
    cases r with
    | cons r1 rr =>
      cases rr with
      | cons r2 rr =>
        cases rr
        have r1' : Rep X.K H' F' (.tuple xs) _ := r1
        have r2' : Rep X.K H' F' (.tuple ys) _ := r2
        unfold Rep at r1' r2'
        obtain ⟨a, us, rfl, fa, ra⟩ := r1'
        obtain ⟨b, ws, rfl, fb, rb⟩ := r2'
        have sq : ∀ (a : Addr) (us : List V), ((F' a ∧ H' a = some (.tup us)) ∨ ∀ H', SqT X.K H' a us) → ∀ c2 : Cf, Step ⟨n', c.s, H', F'⟩ c2 → SqT X.K c2.H a us := fun a us f c2 st2 => by
          rcases f with ⟨f, h⟩ | f
          · exact SqT.of ((st2.frz S' a f).2.trans h)
          · exact f _
        refine ⟨a, b, us, ws, rfl, .inr ⟨sq a us fa _ (Step.refl _), sq b ws fb _ (Step.refl _), q' (RZ.ItzT X.K a b) H' F' (Step.refl _) S' fun c2 st2 S2 i hi => ?_⟩⟩
        have ha2 := sq a us fa c2 st2
        have hb2 := sq b ws fb c2 st2
        refine ⟨fun d ed => ?_, fun e => ⟨us, ws, ha2, hb2, ?_⟩⟩
        · obtain ⟨x, y, e1, e2, rfl⟩ := zget xs ys i d ed
          obtain ⟨u, eu, ru⟩ := (st2.reps S' ra).get e1
          obtain ⟨w, ew, rw'⟩ := (st2.reps S' rb).get e2
          refine ⟨⟨us, ws, u, w, ha2, hb2, eu, ew⟩, fun v H2 ⟨T, u', w', e3, hT, e4, e5, e6⟩ => ?_⟩
          have e5' := e5 us ha2
          have e6' := e6 ws hb2
          rw [eu] at e5'
          rw [ew] at e6'
          cases e5'
          cases e6'
          subst e3 e4
          exact pair c2 x y u w T S2 ru rw' hT
        · unfold zipD at e
          rw [List.length_zipWith] at e
          rw [ra.length, rb.length]
          omega
  · exact q'.elim
/-- enumerate of a list -/
def enumD (k : Nat) : List PyData → List PyData
  | [] => []
  | x :: xs => .tuple [.int (k : Nat), x] :: enumD (k + 1) xs
theorem enumD_get : ∀ {xs : List PyData} {k i : Nat}, (enumD k xs)[i]? = (xs[i]?).map fun x => PyData.tuple [.int ((k + i : Nat) : Int), x]
  | [], k, i => by simp [enumD]
  | x :: xs, k, 0 => by simp [enumD]
  | x :: xs, k, i + 1 => by
    simp only [enumD, List.getElem?_cons_succ]
    rw [enumD_get]
    have e : k + 1 + i = k + (i + 1) := by omega
    rw [e]
theorem enumD_len : ∀ {xs : List PyData} {k : Nat}, (enumD k xs).length = xs.length
  | [], k => rfl
  | x :: xs, k => by simp [enumD, enumD_len]
def iEn (f : NSt → R (List AV)) : NSt → R (List PyData) := fun n => (f n).bind fun as n' => match as with
  | [.v (.list xs)] => .ok (enumD 0 xs) n'
  | _ => .bad
theorem ni_enum {a : Expr} {fs : NSt → R (List AV)} {p pos tpos : Pos} {elts : List Expr} {kk : Nat} (hm : X.mg "enumerate" = none) (ha : NA X W [a] fs) (hg : Gl X "enumerate" := by rfl) (hs : starEach [a] X.env = [(false, eval a X.env)] := by rfl) :
    NI X W (.Tuple elts kk tpos) (.Call (.Name "enumerate" p) [a] [] pos) (iEn fs) := by
  obtain ⟨t, pa, s⟩ := ha.ex
  refine ⟨iEnum X.K t, pi_enum hg hm pa hs, fun c Q S q => ?_⟩
  refine s c _ S (Pst.seq (rel := relA X.K) (rel' := fun _ c1 ds J => Gives X.K J ds c1) mono_I q fun as n' vs H' F' _ st S' r q' => ?_)
  split at q'
  · rename_i xs _
    cases r with
    | cons r1 rr =>
      cases rr
      obtain ⟨a, us, rfl, fa, ha', ra⟩ := Rep.list (K := X.K) (H := H') (F := F') r1
      refine ⟨a, us, rfl, SqL.of ha', q' (Ite X.K a) H' F' (Step.refl _) S' fun c2 st2 S2 i hi => ?_⟩
      have ha2 : SqL X.K c2.H a us := SqL.of ((st2.frz S' a fa).2.trans ha')
      refine ⟨fun d ed => ?_, fun e => ⟨us, ha2, by rw [ra.length]; rw [enumD_len] at e; omega⟩⟩
      rw [enumD_get] at ed
      cases e1 : xs[i]? with
      | none => rw [e1] at ed; cases ed
      | some x =>
        rw [e1] at ed
        cases ed
        obtain ⟨u, eu, ru⟩ := (st2.reps S' ra).get e1
        refine ⟨⟨us, u, ha2, eu⟩, fun v H2 ⟨T, u', e3, hT, e4, e5⟩ => ?_⟩
        have e5' := e5 us ha2
        rw [eu] at e5'
        cases e5'
        subst e3 e4
        have e0 : 0 + i = i := Nat.zero_add i
        rw [e0]
        obtain ⟨h1, h2, h3⟩ := S2.newTup (p := T) hT (Reps.cons (Rep.mkInt (i := (i : Int))) (Reps.cons ru Reps.nil))
        exact ⟨_, h2, h1, h3⟩
  · exact q'.elim
end
end NL
end L2
/-! NL7: items, slices, built-ins, the methods of lists. -/
namespace L2
namespace NL
open PySem PySem.Spec PyProof.Rows

section
variable {K : PySem.W.Frag} {H : Hp} {F : Fz}
theorem Reps.at {ds : List PyData} {vs : List V} {i : Int} {d : PyData} (r : Reps K H F ds vs) (h : atI ds i = some d) : ∃ v, atI vs i = some v ∧ Rep K H F d v := by
  unfold atI at h ⊢
  rw [r.length]
  cases q : ixN ds.length i with
  | none => rw [q] at h; cases h
  | some j =>
    rw [q] at h
    exact r.get h
theorem Reps.bools : ∀ {bs : List Bool} {vs : List V}, Reps K H F (bs.map PyData.bool) vs → vs = bs.map V.bl
  | [], vs, r => by have r' : Reps K H F [] vs := r; unfold Reps at r'; exact r'
  | b :: bs, vs, r => by
    have r' : Reps K H F (.bool b :: bs.map PyData.bool) vs := r
    unfold Reps at r'
    obtain ⟨v, ws, rfl, r1, r2⟩ := r'
    rw [r1.bool, Reps.bools r2]; rfl
theorem Reps.ints' : ∀ {bs : List Int} {vs : List V}, Reps K H F (bs.map PyData.int) vs → vs = bs.map V.int
  | [], vs, r => by have r' : Reps K H F [] vs := r; unfold Reps at r'; exact r'
  | b :: bs, vs, r => by
    have r' : Reps K H F (.int b :: bs.map PyData.int) vs := r
    unfold Reps at r'
    obtain ⟨v, ws, rfl, r1, r2⟩ := r'
    rw [r1.int, Reps.ints' r2]; rfl
theorem Reps.strs' : ∀ {bs : List Str} {vs : List V}, Reps K H F (bs.map PyData.str) vs → vs = bs.map V.str
  | [], vs, r => by have r' : Reps K H F [] vs := r; unfold Reps at r'; exact r'
  | b :: bs, vs, r => by
    have r' : Reps K H F (.str b :: bs.map PyData.str) vs := r
    unfold Reps at r'
    obtain ⟨v, ws, rfl, r1, r2⟩ := r'
    rw [r1.str, Reps.strs' r2]; rfl
end
def boolsOf : List PyData → Option (List Bool)
  | [] => some []
  | .bool b :: ds => (boolsOf ds).map (b :: ·)
  | _ => none
def intsOf : List PyData → Option (List Int)
  | [] => some []
  | .int b :: ds => (intsOf ds).map (b :: ·)
  | _ => none
def strsOf : List PyData → Option (List Str)
  | [] => some []
  | .str b :: ds => (strsOf ds).map (b :: ·)
  | _ => none
theorem boolsOf_eq : ∀ {ds : List PyData} {bs : List Bool}, boolsOf ds = some bs → ds = bs.map PyData.bool
  | [], bs, h => by cases h; rfl
  | .bool b :: ds, bs, h => by
    unfold boolsOf at h
    cases q : boolsOf ds with
    | none => rw [q] at h; cases h
    | some cs => rw [q] at h; cases h; rw [boolsOf_eq q]; rfl
  | .none :: _, _, h => by cases h
  | .int _ :: _, _, h => by cases h
  | .str _ :: _, _, h => by cases h
  | .list _ :: _, _, h => by cases h
  | .tuple _ :: _, _, h => by cases h
  | .dict _ :: _, _, h => by cases h
theorem intsOf_eq : ∀ {ds : List PyData} {bs : List Int}, intsOf ds = some bs → ds = bs.map PyData.int
  | [], bs, h => by cases h; rfl
  | .int b :: ds, bs, h => by
    unfold intsOf at h
    cases q : intsOf ds with
    | none => rw [q] at h; cases h
    | some cs => rw [q] at h; cases h; rw [intsOf_eq q]; rfl
  | .none :: _, _, h => by cases h
  | .bool _ :: _, _, h => by cases h
  | .str _ :: _, _, h => by cases h
  | .list _ :: _, _, h => by cases h
  | .tuple _ :: _, _, h => by cases h
  | .dict _ :: _, _, h => by cases h
theorem strsOf_eq : ∀ {ds : List PyData} {bs : List Str}, strsOf ds = some bs → ds = bs.map PyData.str
  | [], bs, h => by cases h; rfl
  | .str b :: ds, bs, h => by
    unfold strsOf at h
    cases q : strsOf ds with
    | none => rw [q] at h; cases h
    | some cs => rw [q] at h; cases h; rw [strsOf_eq q]; rfl
  | .none :: _, _, h => by cases h
  | .bool _ :: _, _, h => by cases h
  | .int _ :: _, _, h => by cases h
  | .list _ :: _, _, h => by cases h
  | .tuple _ :: _, _, h => by cases h
  | .dict _ :: _, _, h => by cases h
theorem intsOf_map (ns : List Int) : intsOf (ns.map PyData.int) = some ns := by
  induction ns with
  | nil => rfl
  | cons n ns ih => show (intsOf (ns.map PyData.int)).map (n :: ·) = _; rw [ih]; rfl
theorem boolsOf_map (ns : List Bool) : boolsOf (ns.map PyData.bool) = some ns := by
  induction ns with
  | nil => rfl
  | cons n ns ih => show (boolsOf (ns.map PyData.bool)).map (n :: ·) = _; rw [ih]; rfl
theorem strsOf_map (ns : List Str) : strsOf (ns.map PyData.str) = some ns := by
  induction ns with
  | nil => rfl
  | cons n ns ih => show (strsOf (ns.map PyData.str)).map (n :: ·) = _; rw [ih]; rfl

section
variable {X : Cx} {W : WX} {e e2 : Expr} {p q : Opd} {pos : Pos}
/-! ### o[i] -/
def oIx : PyData → PyData → Option PyData
  | .list xs, .int i => atI xs i
  | .tuple xs, .int i => atI xs i
  | .str z, .int i => if z.length ≤ sizeLine then (atI z.cps.toList i).map fun c => .str ⟨#[c]⟩ else none
  | _, _ => none
theorem no_ix : Op2 X (rIx X.K) oIx := by
  intro c x y z vx vy Q S rx ry e h
  unfold oIx at e
  split at e
  · obtain ⟨a, vs, rfl, ha, ra⟩ := rx.list
    obtain ⟨v, ev, rv⟩ := ra.at e
    exact .inl ⟨a, vs, _, v, rfl, ry.int, SqL.of ha, ev, fin0 S h rv⟩
  · obtain ⟨a, vs, rfl, ha, ra⟩ := rx.tuple
    obtain ⟨v, ev, rv⟩ := ra.at e
    exact .inr (.inl ⟨a, vs, _, v, rfl, ry.int, ha, ev, fin0 S h rv⟩)
  · split at e
    · rename_i s i hz
      cases q : atI s.cps.toList i with
      | none => rw [q] at e; cases e
      | some k =>
        rw [q] at e
        cases e
        exact .inr (.inr ⟨s, i, k, rx.str, ry.int, hz, q, fin0 S h Rep.mkStr⟩)
    · cases e
  · cases e
theorem ne_ix (ha : NO X W e p) (hb : NO X W e2 q) (hs : PlainIx e2 := by exact fun _ _ => rfl) : NE X W (.Subscript e e2 pos) (nOp2 oIx p q) := by
  obtain ⟨ta, pa, sa⟩ := ha.ex
  obtain ⟨tb, pb, sb⟩ := hb.ex
  exact ⟨tOp (rIx X.K) ta tb, pe_ix ix_seq pa pb hs, fun c Q S h => two sa sb no_ix S h⟩
/-! ### o[i:j] -/
def cutP (xs : List PyData) (lo hi : Option Int) : List PyData := (xs.drop (HT.sIx xs.length 0 lo)).take (HT.sIx xs.length xs.length hi - HT.sIx xs.length 0 lo)
structure NP (X : Cx) (W : WX) (e : Option Expr) (f : NSt → R (Option Int)) : Prop where
  ex : ∃ t, PO X e t ∧ ∀ (c : Cf) (Q : Option Int → Hp → Prop), Sim X.K c → Pst X.K X.mg W (fun _ _ a b => a = b) c Q (f c.n) → t c.s c.H Q
def pNone : NSt → R (Option Int) := fun n => .ok none n
def pSome (f : NExp) : NSt → R (Option Int) := fun n => (f n).bind fun d n' => match d with
  | .int i => .ok (some i) n'
  | _ => .bad
theorem mono_P : Mono (fun (_ _ : Cf) (a b : Option Int) => a = b) := fun _ _ _ _ _ _ h => h
theorem np_none : NP X W none pNone := ⟨tNoPart, po_none, fun c Q S h => h none c.H c.F (Step.refl _) S rfl⟩
theorem np_some {f : NExp} (h : NE X W e f) : NP X W (some e) (pSome f) := by
  obtain ⟨t, pe, s⟩ := h.ex
  refine ⟨tPart t, po_some pe, fun c Q S q => ?_⟩
  refine s c _ S (Pst.seq (rel := relE X.K) (rel' := fun _ _ a b => a = b) mono_P q fun d n' v H' F' _ st S' r q' => ?_)
  cases d with
  | int i => exact ⟨i, Rep.int (K := X.K) (H := H') (F := F') r, q' (some i) H' F' (Step.refl _) S' rfl⟩
  | _ => exact q'.elim
def oSl (x : PyData) (lo hi : Option Int) : Option PyData := match x with
  | .list xs => some (.list (cutP xs lo hi))
  | .tuple xs => some (.tuple (cutP xs lo hi))
  | .str z => if z.length ≤ sizeLine then some (.str (cutS z lo hi)) else none
  | _ => none
def nSl (p : Opd) (fl fh : NSt → R (Option Int)) : NExp := fun n => (p.run n).bind fun a n1 => (fl n1).bind fun l n2 => (fh n2).bind fun h n3 => match a.get n3 with
  | some x => liftO (oSl x l h) n3
  | none => .bad
def rSlN (K : PySem.W.Frag) : V → Option Int → Option Int → Hp → VK → Prop := fun x lo hi H Q => rSlL K x lo hi H Q ∨ rSlA K x lo hi H Q ∨ rSlS x lo hi H Q
theorem sl_N : SlR X (rSlN X.K) := sl_list.or (sl_tupA.or sl_str)
theorem cut_rep {K : PySem.W.Frag} {H : Hp} {F : Fz} {ds : List PyData} {vs : List V} {lo hi : Option Int} (r : Reps K H F ds vs) : Reps K H F (cutP ds lo hi) (cutV vs lo hi) := by
  unfold cutP cutV
  rw [r.length]
  exact (r.drop _).take _
theorem ne_sl {lo hi : Option Expr} {fl fh : NSt → R (Option Int)} {p2 : Pos} (ha : NO X W e p) (hl : NP X W lo fl) (hh : NP X W hi fh) : NE X W (.Subscript e (.Slice lo hi none p2) pos) (nSl p fl fh) := by
  obtain ⟨ta, pa, sa⟩ := ha.ex
  obtain ⟨tl, pl, sl⟩ := hl.ex
  obtain ⟨th, ph, sh⟩ := hh.ex
  refine ⟨tSl (rSlN X.K) ta tl th, pe_slice sl_N pa pl ph, fun c Q S h => ?_⟩
  refine sa c _ S (Pst.seq (rel := relV X.K) (rel' := relE X.K) mono_E h fun a n1 vx H1 F1 _ st1 S1 rx h1 => ?_)
  refine sl ⟨n1, c.s, H1, F1⟩ _ S1 (Pst.seq (rel := fun _ _ a b => a = b) (rel' := relE X.K) mono_E h1 fun l n2 l' H2 F2 _ st2 S2 r2 h2 => ?_)
  refine sh ⟨n2, c.s, H2, F2⟩ _ S2 (Pst.seq (rel := fun _ _ a b => a = b) (rel' := relE X.K) mono_E h2 fun hh n3 h' H3 F3 _ st3 S3 r3 h3 => ?_)
  subst r2 r3
  have rx3 : AVRep X.K ⟨n3, c.s, H3, F3⟩ a vx := AVRep.step st3 S2 rfl (AVRep.step st2 S1 rfl rx)
  cases ea : a.get n3 with
  | none => rw [ea] at h3; exact h3.elim
  | some x =>
    rw [ea] at h3
    dsimp only at h3
    have rr := S3.avGet rx3 ea
    cases x with
    | list xs =>
      obtain ⟨a, vs, rfl, hA, ra⟩ := rr.list
      exact .inl ⟨a, vs, rfl, SqL.of hA, finLst S3 (fun v H' F' st' S' r' => h3 v H' F' st' S' r') (cut_rep ra)⟩
    | tuple xs =>
      obtain ⟨a, vs, rfl, hA, ra⟩ := rr.tuple
      refine .inr (.inl ⟨a, vs, rfl, hA, fun ⟨z1, z2⟩ => ?_, fun _ => finTup S3 (fun v H' F' st' S' r' => h3 v H' F' st' S' r') (cut_rep ra)⟩)
      refine fin0 S3 (fun v H' F' st' S' r' => h3 v H' F' st' S' r') ?_
      have e : cutP xs l hh = xs := by
        rw [ra.length] at z1 z2
        unfold cutP
        rw [z1, z2]; simp
      rw [e]
      exact tup_refl rr fun _ z => by cases z
    | str z =>
      have h4 : Pst X.K X.mg W (relE X.K) ⟨n3, c.s, H3, F3⟩ Q (liftO (if z.length ≤ sizeLine then some (.str (cutS z l hh)) else none) n3) := h3
      split at h4
      · rename_i hz
        exact .inr (.inr ⟨z, rr.str, hz, h4 _ H3 F3 (Step.refl _) S3 Rep.mkStr⟩)
      · exact h4.elim
    | _ => exact h3.elim
/-! ### built-ins -/
def bLen : List PyData → Option PyData
  | [.list xs] => some (.int xs.length)
  | [.tuple xs] => some (.int xs.length)
  | [.str z] => if z.length ≤ sizeLine then some (.int z.length) else none
  | _ => none
theorem cn_len : CallN X (fun xs H Q => ∃ x n, xs = [x] ∧ LenV X.K x H n ∧ Q (.int n) H) bLen := by
  intro c ds z vs Q S r e h
  unfold bLen at e
  split at e
  · cases e
    cases r with
    | cons r1 rr =>
      cases rr
      obtain ⟨a, us, rfl, ha, ra⟩ := r1.list
      refine ⟨_, _, rfl, .inl ⟨us, SqL.of ha, rfl⟩, fin0 S h ?_⟩
      rw [ra.length]; exact Rep.mkInt
  · cases e
    cases r with
    | cons r1 rr =>
      cases rr
      obtain ⟨a, us, rfl, ha, ra⟩ := r1.tuple
      refine ⟨_, _, rfl, .inr ⟨us, ha, rfl⟩, fin0 S h ?_⟩
      rw [ra.length]; exact Rep.mkInt
  · split at e
    · rename_i hz
      cases e
      cases r with
      | cons r1 rr =>
        cases rr
        have := r1.str
        subst this
        exact ⟨_, _, rfl, ⟨hz, rfl⟩, fin0 S h Rep.mkInt⟩
    · cases e
  · cases e
theorem ne_len {x : Expr} {fs : NSt → R (List AV)} {p : Pos} (hm : X.mg "len" = none) (ha : NA X W [x] fs) (hg : Gl X "len" := by rfl) (he : starEach [x] X.env = (false, eval x X.env) :: starEach [] X.env := by rfl) (hpl : (backTo pos (starEach [] X.env)).any (·.1) = false := by rfl) : NE X W (.Call (.Name "len" p) [x] [] pos) (nCB bLen fs) :=
  ne_cb call_len cn_len hm PySem.boot_len ha hg (by decide) (by decide) he hpl
def bAll : List PyData → Option PyData
  | [.list xs] => (boolsOf xs).map fun bs => .bool (bs.all id)
  | _ => none
def bAny : List PyData → Option PyData
  | [.list xs] => (boolsOf xs).map fun bs => .bool (bs.any id)
  | _ => none
theorem cn_all : CallN X (rAll X.K) bAll := by
  intro c ds z vs Q S r e h
  unfold bAll at e
  split at e
  · cases q : boolsOf _ with
    | none => rw [q] at e; cases e
    | some bs =>
      rw [q] at e
      cases e
      cases r with
      | cons r1 rr =>
        cases rr
        obtain ⟨a, us, rfl, ha, ra⟩ := r1.list
        rw [boolsOf_eq q] at ra
        have := ra.bools
        subst this
        exact ⟨a, bs, rfl, SqL.of ha, fin0 S h Rep.mkBool⟩
  · cases e
theorem cn_any : CallN X (rAny X.K) bAny := by
  intro c ds z vs Q S r e h
  unfold bAny at e
  split at e
  · cases q : boolsOf _ with
    | none => rw [q] at e; cases e
    | some bs =>
      rw [q] at e
      cases e
      cases r with
      | cons r1 rr =>
        cases rr
        obtain ⟨a, us, rfl, ha, ra⟩ := r1.list
        rw [boolsOf_eq q] at ra
        have := ra.bools
        subst this
        exact ⟨a, bs, rfl, SqL.of ha, fin0 S h Rep.mkBool⟩
  · cases e
def bSum : List PyData → Option PyData
  | [.list xs] => (intsOf xs).map fun ns => .int ns.sum
  | _ => none
theorem cn_sum : CallN X (rSum X.K) bSum := by
  intro c ds z vs Q S r e h
  unfold bSum at e
  split at e
  · cases q : intsOf _ with
    | none => rw [q] at e; cases e
    | some bs =>
      rw [q] at e
      cases e
      cases r with
      | cons r1 rr =>
        cases rr
        obtain ⟨a, us, rfl, ha, ra⟩ := r1.list
        rw [intsOf_eq q] at ra
        have := ra.ints'
        subst this
        exact ⟨a, bs, rfl, SqL.of ha, fin0 S h Rep.mkInt⟩
  · cases e
def maxL : List Int → Int
  | [] => 0
  | [x] => x
  | x :: y :: r => max x (maxL (y :: r))
def minL : List Int → Int
  | [] => 0
  | [x] => x
  | x :: y :: r => min x (minL (y :: r))
theorem maxL_ge : ∀ {ns : List Int} {y : Int}, y ∈ ns → y ≤ maxL ns
  | [x], y, h => by simp at h; subst h; exact Int.le_refl _
  | x :: z :: r, y, h => by
    unfold maxL
    rcases List.mem_cons.mp h with h | h
    · subst h; omega
    · have := maxL_ge h; omega
theorem maxL_mem : ∀ {ns : List Int}, ns ≠ [] → maxL ns ∈ ns
  | [x], _ => by simp [maxL]
  | x :: z :: r, _ => by
    have h := maxL_mem (ns := z :: r) (by simp)
    unfold maxL
    by_cases q : x ≤ maxL (z :: r)
    · rw [Int.max_eq_right q]; exact List.mem_cons_of_mem _ h
    · rw [Int.max_eq_left (by omega)]; exact List.mem_cons_self
theorem minL_le : ∀ {ns : List Int} {y : Int}, y ∈ ns → minL ns ≤ y
  | [x], y, h => by simp at h; subst h; exact Int.le_refl _
  | x :: z :: r, y, h => by
    unfold minL
    rcases List.mem_cons.mp h with h | h
    · subst h; omega
    · have := minL_le h; omega
theorem minL_mem : ∀ {ns : List Int}, ns ≠ [] → minL ns ∈ ns
  | [x], _ => by simp [minL]
  | x :: z :: r, _ => by
    have h := minL_mem (ns := z :: r) (by simp)
    unfold minL
    by_cases q : x ≤ minL (z :: r)
    · rw [Int.min_eq_left q]; exact List.mem_cons_self
    · rw [Int.min_eq_right (by omega)]; exact List.mem_cons_of_mem _ h
def bMax : List PyData → Option PyData
  | [.list xs] => (intsOf xs).bind fun ns => if ns = [] then none else some (.int (maxL ns))
  | [.int a, .int b] => some (.int (max a b))
  | _ => none
def bMin : List PyData → Option PyData
  | [.list xs] => (intsOf xs).bind fun ns => if ns = [] then none else some (.int (minL ns))
  | [.int a, .int b] => some (.int (min a b))
  | _ => none
def rMaxN (K : PySem.W.Frag) : List V → Hp → VK → Prop := fun xs H Q => rMax K xs H Q ∨ ∃ i j, xs = [.int i, .int j] ∧ Q (.int (if j > i then j else i)) H
def rMinN (K : PySem.W.Frag) : List V → Hp → VK → Prop := fun xs H Q => rMin K xs H Q ∨ ∃ i j, xs = [.int i, .int j] ∧ Q (.int (if j < i then j else i)) H
theorem cr_maxN (hc : X.calm = true) : CallR X (.builtin "max") (rMaxN X.K) := (cr_max hc).or (call_max2 hc)
theorem cr_minN (hc : X.calm = true) : CallR X (.builtin "min") (rMinN X.K) := (cr_min hc).or (call_min2 hc)
theorem cn_max : CallN X (rMaxN X.K) bMax := by
  intro c ds z vs Q S r e h
  unfold bMax at e
  split at e
  · cases q : intsOf _ with
    | none => rw [q] at e; cases e
    | some bs =>
      rw [q] at e
      have e' : (if bs = [] then none else some (PyData.int (maxL bs))) = some z := e
      split at e'
      · cases e'
      · rename_i hne
        cases e'
        cases r with
        | cons r1 rr =>
          cases rr
          obtain ⟨a, us, rfl, ha, ra⟩ := r1.list
          rw [intsOf_eq q] at ra
          have := ra.ints'
          subst this
          refine .inl ⟨a, bs, rfl, SqL.of ha, List.length_pos_iff.mpr hne, fun m hm hle => ?_⟩
          have h1 := hle _ (maxL_mem hne)
          have h2 := maxL_ge hm
          have : m = maxL bs := by omega
          subst this
          exact fin0 S h Rep.mkInt
  · cases e
    cases r with
    | cons r1 rr =>
      cases rr with
      | cons r2 rr =>
        cases rr
        have e1 := r1.int
        have e2 := r2.int
        subst e1 e2
        refine .inr ⟨_, _, rfl, ?_⟩
        rename_i i j
        have : (if j > i then j else i) = max i j := by split <;> omega
        rw [this]
        exact fin0 S h Rep.mkInt
  · cases e
theorem cn_min : CallN X (rMinN X.K) bMin := by
  intro c ds z vs Q S r e h
  unfold bMin at e
  split at e
  · cases q : intsOf _ with
    | none => rw [q] at e; cases e
    | some bs =>
      rw [q] at e
      have e' : (if bs = [] then none else some (PyData.int (minL bs))) = some z := e
      split at e'
      · cases e'
      · rename_i hne
        cases e'
        cases r with
        | cons r1 rr =>
          cases rr
          obtain ⟨a, us, rfl, ha, ra⟩ := r1.list
          rw [intsOf_eq q] at ra
          have := ra.ints'
          subst this
          refine .inl ⟨a, bs, rfl, SqL.of ha, List.length_pos_iff.mpr hne, fun m hm hle => ?_⟩
          have h1 := hle _ (minL_mem hne)
          have h2 := minL_le hm
          have : m = minL bs := by omega
          subst this
          exact fin0 S h Rep.mkInt
  · cases e
    cases r with
    | cons r1 rr =>
      cases rr with
      | cons r2 rr =>
        cases rr
        have e1 := r1.int
        have e2 := r2.int
        subst e1 e2
        refine .inr ⟨_, _, rfl, ?_⟩
        rename_i i j
        have : (if j < i then j else i) = min i j := by split <;> omega
        rw [this]
        exact fin0 S h Rep.mkInt
  · cases e
def bAbs : List PyData → Option PyData
  | [.int i] => some (.int (i.natAbs : Nat))
  | _ => none
theorem cn_abs : CallN X (fun xs H Q => ∃ i, xs = [.int i] ∧ Q (.int (if i < 0 then -i else i)) H) bAbs := by
  intro c ds z vs Q S r e h
  unfold bAbs at e
  split at e
  · cases e
    cases r with
    | cons r1 rr =>
      cases rr
      have e1 := r1.int
      subst e1
      rename_i i
      refine ⟨i, rfl, ?_⟩
      have : (if i < 0 then -i else i) = (i.natAbs : Nat) := by split <;> omega
      rw [this]
      exact fin0 S h Rep.mkInt
  · cases e
def bInt : List PyData → Option PyData
  | [.int i] => some (.int i)
  | [.bool k] => some (.int (if k then 1 else 0))
  | _ => none
theorem cn_int : CallN X (fun xs H Q => (∃ i, xs = [.int i] ∧ Q (.int i) H) ∨ ∃ k, xs = [.bl k] ∧ Q (.int (if k then 1 else 0)) H) bInt := by
  intro c ds z vs Q S r e h
  unfold bInt at e
  split at e
  · cases e
    cases r with
    | cons r1 rr =>
      cases rr
      have e1 := r1.int
      subst e1
      exact .inl ⟨_, rfl, fin0 S h Rep.mkInt⟩
  · cases e
    cases r with
    | cons r1 rr =>
      cases rr
      have e1 := r1.bool
      subst e1
      exact .inr ⟨_, rfl, fin0 S h Rep.mkInt⟩
  · cases e
def bList : List PyData → Option PyData
  | [.list xs] => some (.list xs)
  | [.tuple xs] => some (.list xs)
  | _ => none
theorem cn_list : CallN X (fun xs H Q => ∃ p ys, xs = [.ref p] ∧ (SqL X.K H p ys ∨ SqT X.K H p ys) ∧ ∀ l, H l = none → Q (.ref l) (upd H l (.lst ys))) bList := by
  intro c ds z vs Q S r e h
  unfold bList at e
  split at e
  · cases e
    cases r with
    | cons r1 rr =>
      cases rr
      obtain ⟨a, us, rfl, ha, ra⟩ := r1.list
      exact ⟨a, us, rfl, .inl (SqL.of ha), finLst S h ra⟩
  · cases e
    cases r with
    | cons r1 rr =>
      cases rr
      obtain ⟨a, us, rfl, ha, ra⟩ := r1.tuple
      exact ⟨a, us, rfl, .inr ha, finLst S h ra⟩
  · cases e
def bTuple : List PyData → Option PyData
  | [.list xs] => some (.tuple xs)
  | [.tuple xs] => some (.tuple xs)
  | _ => none
theorem cn_tuple : CallN X (fun xs H Q => ∃ p ys, xs = [.ref p] ∧ ((SqL X.K H p ys ∧ ∀ l, H l = none → Q (.ref l) (upd H l (.tup ys))) ∨ (SqT X.K H p ys ∧ Q (.ref p) H))) bTuple := by
  intro c ds z vs Q S r e h
  unfold bTuple at e
  split at e
  · cases e
    cases r with
    | cons r1 rr =>
      cases rr
      obtain ⟨a, us, rfl, ha, ra⟩ := r1.list
      exact ⟨a, us, rfl, .inl ⟨SqL.of ha, finTup S h ra⟩⟩
  · cases e
    cases r with
    | cons r1 rr =>
      cases rr
      obtain ⟨a, us, e1, ha, ra⟩ := r1.tuple
      subst e1
      exact ⟨a, us, rfl, .inr ⟨ha, fin0 S h (tup_refl r1 fun _ z => by cases z)⟩⟩
  · cases e
/-! ### isinstance -/
def tyN : PyData → String
  | .none => "NoneType"
  | .bool _ => "bool"
  | .int _ => "int"
  | .str _ => "str"
  | .list _ => "list"
  | .tuple _ => "tuple"
  | .dict _ => "dict"
def isTy (T : String) (d : PyData) : Bool := tyN d == T || (T == "int" && tyN d == "bool")
theorem Rep1.tyX {K : PySem.W.Frag} {H : Hp} {F : Fz} {d : PyData} {v : V} (r : Rep1 K H F d v) : TyX K H v (.type (tyN d)) := by
  cases d with
  | none => rw [r.none]; exact .base .non
  | bool b => rw [r.bool]; exact .base (.bl _)
  | int b => rw [r.int]; exact .base (.int _)
  | str b => rw [r.str]; exact .base (.str _)
  | list b =>
    obtain ⟨a, us, rfl, ha, ra⟩ := r.list
    exact .base (.lst ha)
  | tuple b =>
    rcases r with r | ⟨a, ws, xs, e, _⟩
    · unfold Rep at r
      obtain ⟨a, us, rfl, f, ra⟩ := r
      rcases f with ⟨f, hq⟩ | f
      · exact .base (.tup hq)
      · rcases f (fun _ => Option.none) with z | ⟨o, its, n, z1, z2, _⟩
        · rcases z with z | ⟨o, z⟩ <;> cases z
        · exact .kTuple z1 z2
    · cases e
  | dict b =>
    obtain ⟨a, ws, rfl, _, o, _⟩ := r.dict.dict
    rcases o with ⟨kx, h, _⟩ | ⟨tx, h, _⟩
    · exact .base (.dK h)
    · exact .base (.dT h)
def kitAll (T : String) : Bool := decide (kitB "NoneType" T = some ("NoneType" == T || (T == "int" && "NoneType" == "bool"))) && (decide (kitB "bool" T = some ("bool" == T || (T == "int" && "bool" == "bool"))) && (decide (kitB "int" T = some ("int" == T || (T == "int" && "int" == "bool"))) &&
  (decide (kitB "str" T = some ("str" == T || (T == "int" && "str" == "bool"))) && (decide (kitB "list" T = some ("list" == T || (T == "int" && "list" == "bool"))) && (decide (kitB "tuple" T = some ("tuple" == T || (T == "int" && "tuple" == "bool"))) && decide (kitB "dict" T = some ("dict" == T || (T == "int" && "dict" == "bool")))))))) 
theorem kitAll_ok {T : String} (h : kitAll T = true) (d : PyData) : kitB (tyN d) T = some (isTy T d) := by
  unfold kitAll at h
  simp only [Bool.and_eq_true, decide_eq_true_eq] at h
  obtain ⟨h1, h2, h3, h4, h5, h6, h7⟩ := h
  cases d <;> assumption
theorem kit_int : kitAll "int" = true := by decide +kernel
theorem kit_bool : kitAll "bool" = true := by decide +kernel
theorem kit_str : kitAll "str" = true := by decide +kernel
theorem kit_list : kitAll "list" = true := by decide +kernel
theorem kit_tuple : kitAll "tuple" = true := by decide +kernel
theorem kit_dict : kitAll "dict" = true := by decide +kernel
def nIsi (T : String) (p : Opd) : NExp := fun n => (p.run n).bind fun a n1 => match a.get n1 with
  | some d => .ok (.bool (isTy T d)) n1
  | none => .bad
theorem ne_isi {T : String} {x : Str} {p0 p1 : Pos} (k : kitAll T = true) (ha : NO X W e p) (hm : X.mg "isinstance" = none) (hm2 : X.mg x = none) (hv : bootBuiltins x = some (.type T)) (hg : Gl X "isinstance" := by rfl) (hg2 : Gl X x := by rfl) (hn : x ≠ "__name__" := by decide) (hdb : (x == ("__debug__" : Str)) = false := by decide)
    (he : starEach [e, .Name x p1] X.env = (false, eval e X.env) :: starEach [.Name x p1] X.env := by rfl) (he2 : starEach [.Name x p1] X.env = (false, eval (.Name x p1) X.env) :: starEach [] X.env := by rfl) (hpl : (backTo pos (starEach [.Name x p1] X.env)).any (·.1) = false := by rfl) :
    NE X W (.Call (.Name "isinstance" p0) [e, .Name x p1] [] pos) (nIsi T p) := by
  obtain ⟨t, pa, s⟩ := ha.ex
  refine ⟨_, pe_callB call_isi hg hm (by decide +kernel) (pa_cons pa (pa_cons (pe_bltn (v := .ty T) hg2 hm2 hv rfl hn hdb) pa_nil he2) he) (by decide) (by decide) he hpl, fun c Q S h => ?_⟩
  refine s c _ S (Pst.seq (rel := relV X.K) (rel' := relE X.K) mono_E h fun a n1 vx H1 F1 _ st1 S1 rx h1 => ?_)
  cases ea : a.get n1 with
  | none => rw [ea] at h1; exact h1.elim
  | some d =>
    rw [ea] at h1
    exact ⟨vx, .ty T, .type (tyN d), .type T, isTy T d, rfl, .ty T, (S1.avGet rx ea).tyX, kit_ty (kitAll_ok k d), h1 _ H1 F1 (Step.refl _) S1 Rep.mkBool⟩
/-! ### the methods of a held list -/
def heldAt (n : NSt) (i : Nat) : Option (Sl × List PyData) := match n[i]? with
  | some (some sl) => sl.list?.map fun xs => (sl, xs)
  | _ => none
theorem heldAt_ok {n : NSt} {i : Nat} {sl : Sl} {xs : List PyData} (h : heldAt n i = some (sl, xs)) : n[i]? = some (some sl) ∧ sl.list? = some xs := by
  unfold heldAt at h
  split at h
  · rename_i s e
    cases q : s.list? with
    | none => rw [q] at h; cases h
    | some ys =>
      rw [q] at h
      cases h
      exact ⟨e, q⟩
  · cases h
theorem Sim.tyHeld {K : PySem.W.Frag} {c : Cf} (S : Sim K c) {i : Nat} {sl : Sl} {xs : List PyData} (h : heldAt c.n i = some (sl, xs)) :
    sl.held = true ∧ ∃ a ws, c.s[i]? = some (some (.ref a)) ∧ ¬ c.F a ∧ c.H a = some (.lst ws) ∧ Reps K c.H c.F xs ws ∧ tyV K "list" (.ref a) c.H := by
  obtain ⟨e1, e2⟩ := heldAt_ok h
  obtain ⟨hh, a, ws, es, nf, hH, r⟩ := S.held e1 e2
  exact ⟨hh, a, ws, es, nf, hH, r, .inl ⟨rfl, ws, SqL.of hH⟩⟩
/-- o.m(e): what becomes of the list, what is handed back -/
def nMeth1 (i : Nat) (m : List PyData → PyData → Option (List PyData × PyData)) (p : Opd) : NExp := fun n => match heldAt n i with
  | none => .bad
  | some _ => (p.run n).bind fun a n1 => match heldAt n1 i, a.get n1 with
    | some (sl, xs), some d => (match m xs d with
      | some (ys, z) => .ok z (n1.set i (some (sl.put ys)))
      | none => .bad)
    | _, _ => .bad
def Meth1 (X : Cx) (r : V → List V → Hp → VK → Prop) (m : List PyData → PyData → Option (List PyData × PyData)) : Prop := ∀ (c : Cf) (xs ys : List PyData) (d z : PyData) (a : Addr) (ws : List V) (vx : V) (Q : VK), c.H a = some (.lst ws) → Reps X.K c.H c.F xs ws → Rep1 X.K c.H c.F d vx → m xs d = some (ys, z) →
  (∀ us vz, Reps X.K c.H c.F ys us → Rep X.K c.H c.F z vz → Q vz (upd c.H a (.lst us))) → r (.ref a) [vx] c.H Q
theorem meth1_st {i : Nat} {m : List PyData → PyData → Option (List PyData × PyData)} {r : V → List V → Hp → VK → Prop} {t : TE} (sa : ∀ (c : Cf) (Q : VK), Sim X.K c → Pst X.K X.mg W (relV X.K) c Q (p.run c.n) → t c.s c.H Q) (no : Meth1 X r m)
    {c : Cf} {Q : VK} (S : Sim X.K c) (h : Pst X.K X.mg W (relE X.K) c Q (nMeth1 i m p c.n)) : tBM X.K "list" r (tVar i) (tCons t tNil) c.s c.H Q := by
  unfold nMeth1 at h
  cases q0 : heldAt c.n i with
  | none => rw [q0] at h; exact h.elim
  | some q =>
    obtain ⟨sl0, xs0⟩ := q
    rw [q0] at h
    obtain ⟨_, a0, ws0, es0, _, _, _, ty0⟩ := S.tyHeld q0
    refine ⟨_, es0, ty0, ?_⟩
    refine sa c _ S (Pst.seq (rel := relV X.K) (rel' := relE X.K) mono_E h fun av n1 vx H1 F1 _ st1 S1 rx h1 => ?_)
    cases q1 : heldAt n1 i with
    | none => rw [q1] at h1; exact h1.elim
    | some q =>
      obtain ⟨sl, xs⟩ := q
      cases ea : av.get n1 with
      | none => rw [q1, ea] at h1; exact h1.elim
      | some d =>
        rw [q1, ea] at h1
        dsimp only at h1
        cases em : m xs d with
        | none => rw [em] at h1; exact h1.elim
        | some yz =>
          obtain ⟨ys, z⟩ := yz
          rw [em] at h1
          obtain ⟨hh, a, ws, es, nf, hH, rr, _⟩ := S1.tyHeld q1
          have es' : c.s[i]? = some (some (V.ref a)) := es
          rw [es0] at es'
          cases es'
          refine no ⟨n1, c.s, H1, F1⟩ xs ys d z a0 ws vx Q hH rr (S1.avGet rx ea) em fun us vz ru rz => ?_
          obtain ⟨S2, st2⟩ := S1.write (heldAt_ok q1).1 hh es nf hH ru
          exact h1 vz _ F1 st2 S2 (st2.rep S1 rz)
theorem ne_meth1 (i : Nat) {x m0 : Str} {p0 apos : Pos} {id : String} {r : V → List V → Hp → VK → Prop} {m : List PyData → PyData → Option (List PyData × PyData)} (slot : Slot "list" m0 id) (hty : typeOf (.builtin id) = pure (.type "method_descriptor")) (hm : MtR X id r) (no : Meth1 X r m) (ha : NO X W e p)
    (hN : X.N[i]? = some x := by rfl) (hv : Vis X.env.scope x := by first | exact Or.inl rfl | exact Or.inr (Or.inl rfl) | exact Or.inr (Or.inr rfl)) (hd : (x == ("__debug__" : Str)) = false := by decide) (hcd : (x == ("__classdict__" : Str)) = false := by decide)
    (hbase : attributeBase (.Name x p0) m0 X.env (eval (.Name x p0) X.env) = eval (.Name x p0) X.env := by rfl)
    (hfew : ((backTo pos (starEach [e] X.env)).all (fun x => !x.1) && (backToKw pos (keywordEach [] X.env)).all (fun x => x.1.isSome)
      && decide ([e].length + ([] : List Keyword).length + (if ([] : List Keyword).isEmpty then 0 else 1) < 30)) = true := by rfl)
    (hline : (apos.endLine == pos.line) = true := by rfl) (hs : starEach [e] X.env = (false, eval e X.env) :: starEach [] X.env := by rfl) (hplain : (backTo pos (starEach [] X.env)).any (·.1) = false := by rfl) :
    NE X W (.Call (.Attribute (.Name x p0) m0 apos) [e] [] pos) (nMeth1 i m p) := by
  obtain ⟨t, pa, s⟩ := ha.ex
  exact ⟨_, pe_bm PySem.F.plainAttrs_list slot hty hm (pe_var hN hv hd hcd) (pa_cons pa pa_nil hs) hbase hfew hline hs hplain, fun c Q S h => meth1_st s no S h⟩
def mAppend (xs : List PyData) (d : PyData) : Option (List PyData × PyData) := if xs.length < sizeLine ∧ noList d = true then some (xs ++ [d], .none) else none
where noList : PyData → Bool
  | _ => true
/-- .. an item is appended: a value -/
def nAppend (i : Nat) (f : NExp) : NExp := fun n => match heldAt n i with
  | none => .bad
  | some _ => (f n).bind fun d n1 => match heldAt n1 i with
    | some (sl, xs) => if xs.length < sizeLine then .ok .none (n1.set i (some (sl.put (xs ++ [d])))) else .bad
    | none => .bad
theorem ne_append (i : Nat) {x : Str} {p0 apos : Pos} {f : NExp} (ha : NE X W e f)
    (hN : X.N[i]? = some x := by rfl) (hv : Vis X.env.scope x := by first | exact Or.inl rfl | exact Or.inr (Or.inl rfl) | exact Or.inr (Or.inr rfl)) (hd : (x == ("__debug__" : Str)) = false := by decide) (hcd : (x == ("__classdict__" : Str)) = false := by decide)
    (hbase : attributeBase (.Name x p0) "append" X.env (eval (.Name x p0) X.env) = eval (.Name x p0) X.env := by rfl)
    (hfew : ((backTo pos (starEach [e] X.env)).all (fun x => !x.1) && (backToKw pos (keywordEach [] X.env)).all (fun x => x.1.isSome)
      && decide ([e].length + ([] : List Keyword).length + (if ([] : List Keyword).isEmpty then 0 else 1) < 30)) = true := by rfl)
    (hline : (apos.endLine == pos.line) = true := by rfl) (hs : starEach [e] X.env = (false, eval e X.env) :: starEach [] X.env := by rfl) (hplain : (backTo pos (starEach [] X.env)).any (·.1) = false := by rfl) :
    NE X W (.Call (.Attribute (.Name x p0) "append" apos) [e] [] pos) (nAppend i f) := by
  obtain ⟨t, pa, s⟩ := ha.ex
  refine ⟨_, pe_bm PySem.F.plainAttrs_list PySem.F.slot_list_append PySem.F.type_list_append mt_append (pe_var hN hv hd hcd) (pa_cons pa pa_nil hs) hbase hfew hline hs hplain, fun c Q S h => ?_⟩
  unfold nAppend at h
  cases q0 : heldAt c.n i with
  | none => rw [q0] at h; exact h.elim
  | some q =>
    obtain ⟨sl0, xs0⟩ := q
    rw [q0] at h
    obtain ⟨_, a0, ws0, es0, _, _, _, ty0⟩ := S.tyHeld q0
    refine ⟨_, es0, ty0, ?_⟩
    refine s c _ S (Pst.seq (rel := relE X.K) (rel' := relE X.K) mono_E h fun d n1 vx H1 F1 _ st1 S1 rx h1 => ?_)
    cases q1 : heldAt n1 i with
    | none => rw [q1] at h1; exact h1.elim
    | some q =>
      obtain ⟨sl, xs⟩ := q
      rw [q1] at h1
      dsimp only at h1
      split at h1
      · rename_i hz
        obtain ⟨hh, a, ws, es, nf, hH, rr, _⟩ := S1.tyHeld q1
        have es' : c.s[i]? = some (some (V.ref a)) := es
        rw [es0] at es'
        cases es'
        refine ⟨a0, ws, vx, rfl, rfl, hH, by rw [rr.length]; exact hz, ?_⟩
        obtain ⟨S2, st2⟩ := S1.write (heldAt_ok q1).1 hh es nf hH (rr.append (Reps.cons rx Reps.nil))
        exact h1 .non _ F1 st2 S2 Rep.mkNone
      · exact h1.elim
/-- o.pop() -/
def nPop (i : Nat) : NExp := fun n => match heldAt n i with
  | some (sl, xs) => (match xs[xs.length - 1]? with
    | some d => .ok d (n.set i (some (sl.put xs.dropLast)))
    | none => .bad)
  | none => .bad
theorem ne_pop (i : Nat) {x : Str} {p0 apos : Pos}
    (hN : X.N[i]? = some x := by rfl) (hv : Vis X.env.scope x := by first | exact Or.inl rfl | exact Or.inr (Or.inl rfl) | exact Or.inr (Or.inr rfl)) (hd : (x == ("__debug__" : Str)) = false := by decide) (hcd : (x == ("__classdict__" : Str)) = false := by decide)
    (hbase : attributeBase (.Name x p0) "pop" X.env (eval (.Name x p0) X.env) = eval (.Name x p0) X.env := by rfl) (hline : (apos.endLine == pos.line) = true := by rfl) :
    NE X W (.Call (.Attribute (.Name x p0) "pop" apos) [] [] pos) (nPop i) := by
  refine ⟨_, pe_bm0 PySem.F.plainAttrs_list PySem.F.slot_list_pop PySem.F.type_list_pop mt_pop (pe_var hN hv hd hcd) hbase hline, fun c Q S h => ?_⟩
  unfold nPop at h
  cases q0 : heldAt c.n i with
  | none => rw [q0] at h; exact h.elim
  | some q =>
    obtain ⟨sl, xs⟩ := q
    rw [q0] at h
    dsimp only at h
    obtain ⟨hh, a, ws, es, nf, hH, rr, ty⟩ := S.tyHeld q0
    cases ed : xs[xs.length - 1]? with
    | none => rw [ed] at h; exact h.elim
    | some d =>
      rw [ed] at h
      obtain ⟨v, ev, rv⟩ := rr.get ed
      refine ⟨_, es, ty, a, ws, v, rfl, rfl, hH, by rw [rr.length]; exact ev, ?_⟩
      obtain ⟨S2, st2⟩ := S.write (heldAt_ok q0).1 hh es nf hH rr.dropLast
      exact h v _ c.F st2 S2 (st2.rep S rv)
/-- list(reversed(o)) -/
def nLstRev (p : Opd) : NSt → R (List PyData) := fun n => (p.run n).bind fun a n1 => match a.get n1 with
  | some (.list xs) => .ok xs.reverse n1
  | _ => .bad
theorem neo_listRev {p0 p2 pos2 : Pos} (hc : X.calm = true) (hm : X.mg "list" = none) (hm2 : X.mg "reversed" = none) (ha : NO X W e p) (hg : Gl X "list" := by rfl) (hg2 : Gl X "reversed" := by rfl)
    (hs : starEach [e] X.env = (false, eval e X.env) :: starEach [] X.env := by rfl)
    (hs2 : starEach [.Call (.Name "reversed" p2) [e] [] pos2] X.env = (false, eval (.Call (.Name "reversed" p2) [e] [] pos2) X.env) :: starEach [] X.env := by rfl) :
    NEo X W (.Call (.Name "list" p0) [.Call (.Name "reversed" p2) [e] [] pos2] [] pos) (nLstRev p) := by
  obtain ⟨t, pa, s⟩ := ha.ex
  refine ⟨_, pe_listRev hc hg hm hg2 hm2 pa hs hs2, fun c Q S h => ?_⟩
  refine s c _ S (Pst.seq (rel := relV X.K) (rel' := relO X.K) mono_O h fun a n1 vx H1 F1 _ st1 S1 rx h1 => ?_)
  cases ea : a.get n1 with
  | none => rw [ea] at h1; exact h1.elim
  | some d =>
    rw [ea] at h1
    cases d with
    | list xs =>
      obtain ⟨b, ws, rfl, hH, rr⟩ := (S1.avGet rx ea).list
      refine ⟨b, ws, rfl, SqL.of hH, fun q hq => ?_⟩
      obtain ⟨S2, st2, r2⟩ := S1.newLst (p := q) hq rr.reverse
      exact h1 _ _ _ st2 S2 r2
    | _ => exact h1.elim
/-- list(x), a list of one's own -/
def nListO (p : Opd) : NSt → R (List PyData) := fun n => (p.run n).bind fun a n1 => match a.get n1 with
  | some (.list xs) => .ok xs n1
  | some (.tuple xs) => .ok xs n1
  | _ => .bad
theorem neo_list {x : Expr} {p0 : Pos} (hm : X.mg "list" = none) (ha : NO X W x p) (hg : Gl X "list" := by rfl) (he : starEach [x] X.env = (false, eval x X.env) :: starEach [] X.env := by rfl) (hpl : (backTo pos (starEach [] X.env)).any (·.1) = false := by rfl) :
    NEo X W (.Call (.Name "list" p0) [x] [] pos) (nListO p) := by
  obtain ⟨t, pa, s⟩ := ha.ex
  refine ⟨_, pe_callTy call_list_of hg hm boot_list (pa_cons pa pa_nil he) (by decide) (by decide) he hpl, fun c Q S h => ?_⟩
  refine s c _ S (Pst.seq (rel := relV X.K) (rel' := relO X.K) mono_O h fun a n1 vx H1 F1 _ st1 S1 rx h1 => ?_)
  cases ea : a.get n1 with
  | none => rw [ea] at h1; exact h1.elim
  | some d =>
    rw [ea] at h1
    cases d with
    | list xs =>
      obtain ⟨b, ws, rfl, hH, rr⟩ := (S1.avGet rx ea).list
      refine ⟨b, ws, rfl, .inl (SqL.of hH), fun q hq => ?_⟩
      obtain ⟨S2, st2, r2⟩ := S1.newLst (p := q) hq rr
      exact h1 _ _ _ st2 S2 r2
    | tuple xs =>
      obtain ⟨b, ws, rfl, hH, rr⟩ := (S1.avGet rx ea).tuple
      refine ⟨b, ws, rfl, .inr hH, fun q hq => ?_⟩
      obtain ⟨S2, st2, r2⟩ := S1.newLst (p := q) hq rr
      exact h1 _ _ _ st2 S2 r2
    | _ => exact h1.elim
/-- any operator that makes a list, a list of one's own -/
def Op2O (X : Cx) (r : R2) (o : PyData → PyData → Option (List PyData)) : Prop := ∀ (c : Cf) (x y : PyData) (zs : List PyData) (vx vy : V) (Q : VK), Sim X.K c → Rep1 X.K c.H c.F x vx → Rep1 X.K c.H c.F y vy → o x y = some zs →
  (∀ v H' F', Step c ⟨c.n, c.s, H', F'⟩ → Sim X.K ⟨c.n, c.s, H', F'⟩ → relO X.K c ⟨c.n, c.s, H', F'⟩ zs v → Q v H') → r vx vy c.H Q
def nOp2O (o : PyData → PyData → Option (List PyData)) (p q : Opd) : NSt → R (List PyData) := fun n => (p.run n).bind fun a n1 => (q.run n1).bind fun b n2 => match a.get n2, b.get n2 with
  | some x, some y => liftO (o x y) n2
  | _, _ => .bad
theorem neo_op {op : Operator} {r : R2} {o : PyData → PyData → Option (List PyData)} (ho : OpR X (binaryOp op) r) (no : Op2O X r o) (ha : NO X W e p) (hb : NO X W e2 q) : NEo X W (.BinOp e op e2 pos) (nOp2O o p q) := by
  obtain ⟨ta, pa, sa⟩ := ha.ex
  obtain ⟨tb, pb, sb⟩ := hb.ex
  refine ⟨tOp r ta tb, pe_op ho pa pb, fun c Q S h => ?_⟩
  refine sa c _ S (Pst.seq (rel := relV X.K) (rel' := relO X.K) mono_O h fun a n1 vx H1 F1 _ st1 S1 rx h1 => ?_)
  refine sb ⟨n1, c.s, H1, F1⟩ _ S1 (Pst.seq (rel := relV X.K) (rel' := relO X.K) mono_O h1 fun b n2 vy H2 F2 _ st2 S2 ry h2 => ?_)
  cases ea : a.get n2 with
  | none => rw [ea] at h2; exact h2.elim
  | some x =>
    cases eb : b.get n2 with
    | none => rw [ea, eb] at h2; exact h2.elim
    | some y =>
      rw [ea, eb] at h2
      dsimp only at h2
      cases eo : o x y with
      | none => rw [eo] at h2; exact h2.elim
      | some z =>
        rw [eo] at h2
        exact no ⟨n2, c.s, H2, F2⟩ x y z vx vy Q S2 (S2.avGet (AVRep.step st2 S1 rfl rx) ea) (S2.avGet ry eb) eo fun v H' F' st' S' r' => h2 v H' F' st' S' r'
def oCatO : PyData → PyData → Option (List PyData)
  | .list a, .list b => if a.length + b.length ≤ sizeLine then some (a ++ b) else none
  | _, _ => none
theorem no_catO : Op2O X (rAddN X.K) oCatO := by
  intro c x y z vx vy Q S rx ry e h
  unfold oCatO at e
  split at e
  · split at e
    · rename_i hz
      cases e
      obtain ⟨a, vs, rfl, ha, ra⟩ := rx.list
      obtain ⟨b, ws, rfl, hb, rb⟩ := ry.list
      refine .inr (.inr (.inr ⟨a, b, vs, ws, rfl, rfl, ha, hb, by rw [ra.length, rb.length]; exact hz, fun p hp => ?_⟩))
      obtain ⟨S2, st2, r2⟩ := S.newLst (p := p) hp (ra.append rb)
      exact h _ _ _ st2 S2 r2
    · cases e
  · cases e
def oRepO : PyData → PyData → Option (List PyData)
  | .list a, .int k => if -(2 ^ 63) ≤ k ∧ k < 2 ^ 63 ∧ a.length * k.toNat ≤ sizeLine then some (List.replicate k.toNat a).flatten else none
  | _, _ => none
theorem no_repO : Op2O X (rMulN X.K) oRepO := by
  intro c x y z vx vy Q S rx ry e h
  unfold oRepO at e
  split at e
  · split at e
    · rename_i hz
      cases e
      obtain ⟨a, vs, rfl, ha, ra⟩ := rx.list
      refine .inr (.inr (.inl ⟨a, _, vs, rfl, ry.int, ha, hz.1, hz.2.1, by rw [ra.length]; exact hz.2.2, fun p hp => ?_⟩))
      obtain ⟨S2, st2, r2⟩ := S.newLst (p := p) hp (ra.rep _)
      exact h _ _ _ st2 S2 r2
    · cases e
  · cases e
/-! ### o.extend(e), o[i] = e -/
def mExtend (xs : List PyData) : PyData → Option (List PyData × PyData)
  | .list zs => if xs.length + zs.length ≤ sizeLine then some (xs ++ zs, .none) else none
  | _ => none
theorem me_extend : Meth1 X rExtend mExtend := by
  intro c xs ys d z a ws vx Q hH r rd e h
  unfold mExtend at e
  split at e
  · split at e
    · rename_i hz
      cases e
      obtain ⟨b, us, rfl, hb, rb⟩ := rd.list
      exact ⟨a, b, ws, us, rfl, rfl, hH, hb, by rw [r.length, rb.length]; exact hz, h _ _ (r.append rb) Rep.mkNone⟩
    · cases e
  · cases e
/-- o[k] = e of a held list -/
def sSetI (i : Nat) (fk fe : NExp) : NStm := fun n => (fe n).st fun d n1 => match heldAt n1 i with
  | none => .bad
  | some _ => (fk n1).st fun k n2 => match heldAt n2 i, k with
    | some (sl, xs), .int j => (match ixN xs.length j with
      | some m => .nx (n2.set i (some (sl.put (xs.set m d))))
      | none => .bad)
    | _, _ => .bad
theorem ns_seti (i : Nat) {x : Str} {k : Expr} {p0 pos2 : Pos} {fk fe : NExp} (he : NE X W e fe) (hk : NE X W k fk)
    (hN : X.N[i]? = some x := by rfl) (hv : Vis X.env.scope x := by first | exact Or.inl rfl | exact Or.inr (Or.inl rfl) | exact Or.inr (Or.inr rfl)) (hd : (x == ("__debug__" : Str)) = false := by decide) (hcd : (x == ("__classdict__" : Str)) = false := by decide)
    (ha : ∀ v, assign (.Subscript (.Name x p0) k pos2) X.env v = (do
      let ov ← holding [v] (eval (.Name x p0) X.env)
      let iv ← holding [v, ov] (eval k X.env)
      standAt pos2
      holding [v, ov, iv] (setItem ov iv v)
      release [v, ov, iv] []) := by intro _; rfl)
    (hs : swapsWithSole [.Subscript (.Name x p0) k pos2] e pos.line X.env = pure false := by rfl) (hw : swappedStores [.Subscript (.Name x p0) k pos2] e X.env = pure none := by rfl) (h1 : (assignEach [.Subscript (.Name x p0) k pos2] X.env).map (·.2) = [assign (.Subscript (.Name x p0) k pos2) X.env] := by rfl) :
    NS X W (.Assign [.Subscript (.Name x p0) k pos2] e pos) (sSetI i fk fe) := by
  obtain ⟨te, pe, se⟩ := he.ex
  obtain ⟨tk, pk, sk⟩ := hk.ex
  refine ⟨_, ps_asg pe (pg_sub (pe_var hN hv hd hcd) pk set_list ha) hs hw h1, fun c D S h => ?_⟩
  refine se c _ S (Pst.seqS (rel := relE X.K) h fun d n1 vx H1 F1 _ st1 S1 rx h1 => ?_)
  cases q0 : heldAt n1 i with
  | none => rw [q0] at h1; exact h1.elim
  | some q =>
    obtain ⟨sl0, xs0⟩ := q
    rw [q0] at h1
    obtain ⟨_, a0, ws0, es0, _⟩ := S1.tyHeld q0
    refine ⟨_, es0, ?_⟩
    refine sk ⟨n1, c.s, H1, F1⟩ _ S1 (Pst.seqS (rel := relE X.K) h1 fun dk n2 vk H2 F2 _ st2 S2 rk h2 => ?_)
    cases q1 : heldAt n2 i with
    | none => rw [q1] at h2; exact h2.elim
    | some q =>
      obtain ⟨sl, xs⟩ := q
      rw [q1] at h2
      cases dk with
      | int j =>
        dsimp only at h2
        cases em : ixN xs.length j with
        | none => rw [em] at h2; exact h2.elim
        | some m =>
          rw [em] at h2
          obtain ⟨hh, a, ws, es, nf, hH, rr, _⟩ := S2.tyHeld q1
          have es' : c.s[i]? = some (some (V.ref a)) := es
          have es0' : c.s[i]? = some (some (V.ref a0)) := es0
          rw [es0'] at es'
          cases es'
          refine ⟨a0, ws, j, m, rfl, Rep.int (K := X.K) (H := H2) (F := F2) rk, hH, by rw [rr.length]; exact em, ?_⟩
          obtain ⟨S3, st3⟩ := S2.write (heldAt_ok q1).1 hh es nf hH (rr.set m (st2.rep S1 rx))
          exact h2 c.s _ F2 st3 S3
      | _ => exact h2.elim
/-- x += e of a value -/
def sAug (i : Nat) (o : PyData → PyData → Option PyData) (q : Opd) : NStm := fun n => match n[i]? with
  | some (some (.val x)) => (q.run n).st fun b n1 => match b.get n1 with
    | some y => (match o x y with
      | some z => if notLent n1 i = true then .nx (n1.set i (some (.val z))) else .bad
      | none => .bad)
    | none => .bad
  | _ => .bad
theorem ns_aug (i : Nat) {x : Str} {op : Operator} {ti : TIp} {o : PyData → PyData → Option PyData} {p0 : Pos} (ho : PIp X op ti) (no : Op2 X ti o) (hb : NO X W e q) (hN : X.N.Nodup) (hi : X.N[i]? = some x) (hx : Loc X.env.scope x)
    (hf : X.fn x = true ∨ X.env.scope.names.lookup x = some .local := by first | exact .inl rfl | exact .inr rfl | assumption) : NS X W (.AugAssign (.Name x p0) op e pos) (sAug i o q) := by
  obtain ⟨t, pe, s⟩ := hb.ex
  refine ⟨tAug i t ti, ps_aug hN hi hx pe ho hf, fun c D S h => ?_⟩
  unfold sAug at h
  split at h
  · rename_i dx e1
    obtain ⟨vx, e2, rx⟩ := S.slot i _ e1
    refine ⟨vx, e2, ?_⟩
    refine s c _ S (Pst.seqS (rel := relV X.K) h fun b n1 vy H1 F1 _ st1 S1 ry h1 => ?_)
    cases eb : b.get n1 with
    | none => rw [eb] at h1; exact h1.elim
    | some y =>
      rw [eb] at h1
      dsimp only at h1
      cases eo : o dx y with
      | none => rw [eo] at h1; exact h1.elim
      | some z =>
        rw [eo] at h1
        dsimp only at h1
        split at h1
        · rename_i hl
          refine no ⟨n1, c.s, H1, F1⟩ dx y z vx vy _ S1 (.inl (st1.rep S rx)) (S1.avGet ry eb) eo fun v H' F' st' S' r' => ?_
          obtain ⟨S3, st3⟩ := Sim.setVal S' hl r'
          exact h1 _ H' F' (st'.trans st3) S3
        · exact h1.elim
  · exact h.elim
theorem pip_of {op : Operator} {r : R2} (h : OpR X (inplaceOp op) r) : PIp X op r := fun pins s σ H x y v u Q I rx ry q => h pins s σ H x y v u Q I rx ry q
end
end NL
end L2
/-! NL8: two stores at one stroke, raise, try with its flags, a def chosen from a list. -/
namespace L2
namespace NL
open PySem PySem.Spec PyProof.Rows

/-! ### a, b = x, y -/
inductive EV where
  | v (d : PyData) | w (xs : List PyData)
def EV.sl : EV → Sl
  | .v d => .val d
  | .w xs => .own xs
def relEV (K : PySem.W.Frag) : Rel EV V := fun c0 c e v => match e with
  | .v d => Rep K c.H c.F d v
  | .w xs => relO K c0 c xs v
theorem mono_EV {K : PySem.W.Frag} : Mono (relEV K) := fun c c1 c2 a b st h => by
  cases a with
  | v d => exact h
  | w xs => exact mono_O c c1 c2 xs b st h
structure NV (X : Cx) (W : WX) (e : Expr) (f : NSt → R EV) : Prop where
  ex : ∃ t, PE X e t ∧ ∀ (c : Cf) (Q : VK), Sim X.K c → Pst X.K X.mg W (relEV X.K) c Q (f c.n) → t c.s c.H Q
def evV (f : NExp) : NSt → R EV := fun n => (f n).bind fun d n' => .ok (.v d) n'
def evO (f : NSt → R (List PyData)) : NSt → R EV := fun n => (f n).bind fun d n' => .ok (.w d) n'
section
variable {X : Cx} {W : WX} {e : Expr}
theorem nv_v {f : NExp} (h : NE X W e f) : NV X W e (evV f) := by
  obtain ⟨t, pe, s⟩ := h.ex
  exact ⟨t, pe, fun c Q S p => s c Q S (Pst.seq (rel := relE X.K) (rel' := relEV X.K) mono_EV p fun d n' v H' F' _ st S' r q => q v H' F' (Step.refl _) S' r)⟩
theorem nv_o {f : NSt → R (List PyData)} (h : NEo X W e f) : NV X W e (evO f) := by
  obtain ⟨t, pe, s⟩ := h.ex
  refine ⟨t, pe, fun c Q S p => s c Q S ?_⟩
  unfold evO at p
  cases q : f c.n with
  | ok xs n' =>
    rw [q] at p
    exact p
  | err x n' => rw [q] at p; exact p
  | bad => rw [q] at p; exact p
theorem relO.step {K : PySem.W.Frag} {c0 c1 c2 : Cf} {xs : List PyData} {v : V} (r : relO K c0 c1 xs v) (S1 : Sim K c1) (st : Step c1 c2) : relO K c0 c2 xs v := by
  obtain ⟨a, ws, e, h0, nf, hH, nh, rr⟩ := r
  have hn : c1.H a ≠ none := by rw [hH]; simp
  refine ⟨a, ws, e, h0, fun f => ?_, (st.keep a hn nh).trans hH, fun h => ?_, st.reps S1 rr⟩
  · rcases st.fn a f with z | z | z
    · exact nf z
    · exact hn z
    · exact nh z.hd
  · rcases st.hd a h with z | z
    · exact nh z
    · exact hn z
theorem relEV.step {K : PySem.W.Frag} {c0 c1 c2 : Cf} {x : EV} {v : V} (r : relEV K c0 c1 x v) (S1 : Sim K c1) (st : Step c1 c2) : relEV K c0 c2 x v := by
  cases x with
  | v d => exact st.rep S1 r
  | w xs => exact relO.step r S1 st
/-- a slot takes what has come -/
theorem Sim.setEV {K : PySem.W.Frag} {c0 c : Cf} (st : Step c0 c) (S : Sim K c) {i : Nat} {x : EV} {v : V} (hl : notLent c.n i = true) (r : relEV K c0 c x v) :
    let c' : Cf := ⟨c.n.set i (some x.sl), c.s.set i (some v), c.H, c.F⟩; Sim K c' ∧ Step c0 c' := by
  cases x with
  | v d =>
    obtain ⟨S', st'⟩ := Sim.setVal S hl r
    exact ⟨S', st.trans st'⟩
  | w xs => exact Sim.setOwn st S hl r
theorem hd_setEV {c : Cf} {i : Nat} {x : EV} {v : V} {b : Addr} (h : (⟨c.n.set i (some x.sl), c.s.set i (some v), c.H, c.F⟩ : Cf).Hd b) : c.Hd b ∨ v = .ref b := by
  obtain ⟨j, sl, e1, e2, e3⟩ := h
  by_cases hj : i = j
  · subst hj
    have hs : i < c.s.length := by
      have := lt_of_get e3
      simpa using this
    have e3' : (c.s.set i (some v))[i]? = some (some (V.ref b)) := e3
    rw [List.getElem?_set_self hs] at e3'
    exact .inr (Option.some.inj (Option.some.inj e3'))
  · have e1' : (c.n.set i (some x.sl))[j]? = some (some sl) := e1
    have e3' : (c.s.set i (some v))[j]? = some (some (V.ref b)) := e3
    rw [List.getElem?_set_ne hj] at e1' e3'
    exact .inl ⟨j, sl, e1', e2, e3'⟩
def sPar (i j : Nat) (fa fb : NSt → R EV) : NStm := fun n => (fa n).st fun x n1 => (fb n1).st fun y n2 => if notLent n2 i = true ∧ notLent n2 j = true then .nx ((n2.set i (some x.sl)).set j (some y.sl)) else .bad
theorem notLent_set {n : NSt} {i j : Nat} {x : EV} (h : notLent n j = true) : notLent (n.set i (some x.sl)) j = true := by
  obtain ⟨hj, nl⟩ := notLent_ok h
  unfold notLent
  by_cases e : i = j
  · subst e
    rw [List.getElem?_set_self hj]
    cases x <;> rfl
  · rw [List.getElem?_set_ne e]
    exact h
theorem mono_EVr {K : PySem.W.Frag} : Mono (relEV K) := mono_EV
theorem ns_par (i j : Nat) {x y : Str} {a b : Expr} {fa fb : NSt → R EV} {px py pt pos : Pos} {kt k2 pt2} (hc : X.calm = true) (hN : X.N.Nodup) (hi : X.N[i]? = some x) (hj : X.N[j]? = some y) (hij : i ≠ j)
    (hx : X.env.scope.names.lookup x = some .local) (hy : X.env.scope.names.lookup y = some .local) (ha : NV X W a fa) (hb : NV X W b fb)
    (hw : swappedStores [.Tuple [.Name x px, .Name y py] kt pt] (.Tuple [a, b] k2 pt2) X.env = pure (some [x, y]) := by rfl)
    (hs : swapsWithSole [.Tuple [.Name x px, .Name y py] kt pt] (.Tuple [a, b] k2 pt2) pos.line X.env = pure false := by rfl)
    (h1 : starEach [a, b] X.env = (false, eval a X.env) :: starEach [b] X.env := by rfl) (h2 : starEach [b] X.env = (false, eval b X.env) :: starEach [] X.env := by rfl) :
    NS X W (.Assign [.Tuple [.Name x px, .Name y py] kt pt] (.Tuple [a, b] k2 pt2) pos) (sPar i j fa fb) := by
  obtain ⟨ta, pa, sa⟩ := ha.ex
  obtain ⟨tb, pb, sb⟩ := hb.ex
  refine ⟨_, ps_par hc hN hi hj hij hx hy (pa_cons pa (pa_cons pb pa_nil h2) h1) hw hs, fun c D S h => ?_⟩
  show ta c.s c.H fun u H1 => tb c.s H1 fun v H2 => ∃ v', ∃ w', [u, v] = [v', w'] ∧ D.nx ((c.s.set i (some v')).set j (some w')) H2
  refine sa c _ S ?_
  unfold sPar at h
  cases q : fa c.n with
  | bad => rw [q] at h; exact h
  | err z n' => rw [q] at h; exact fun cls d H' F' s1 S1 r1 => h cls d c.s H' F' s1 S1 r1
  | ok ex n1 =>
    rw [q] at h
    intro u H1 F1 st1 S1 ru
    have h : PstS X.K X.mg W c D ((fb n1).st fun y n2 => if notLent n2 i = true ∧ notLent n2 j = true then .nx ((n2.set i (some ex.sl)).set j (some y.sl)) else .bad) := h
    refine sb ⟨n1, c.s, H1, F1⟩ _ S1 ?_
    cases q2 : fb n1 with
    | bad => rw [q2] at h; exact h
    | err z n' => rw [q2] at h; exact fun cls d H' F' s1 S2 r1 => h cls d c.s H' F' (st1.trans s1) S2 r1
    | ok ey n2 =>
      rw [q2] at h
      intro v H2 F2 st2 S2 rv
      have h : PstS X.K X.mg W c D (if notLent n2 i = true ∧ notLent n2 j = true then .nx ((n2.set i (some ex.sl)).set j (some ey.sl)) else .bad) := h
      refine ⟨u, v, rfl, ?_⟩
      split at h
      · rename_i hl
        have st12 : Step c ⟨n2, c.s, H2, F2⟩ := st1.trans st2
        have ru2 : relEV X.K c ⟨n2, c.s, H2, F2⟩ ex u := relEV.step ru S1 st2
        obtain ⟨S3, st3⟩ := Sim.setEV (c0 := c) (c := ⟨n2, c.s, H2, F2⟩) st12 S2 hl.1 ru2
        have rv3 : relEV X.K c ⟨n2.set i (some ex.sl), c.s.set i (some u), H2, F2⟩ ey v := by
          cases ey with
          | v d => exact rv
          | w ys =>
            obtain ⟨b', ws, e, h0, nf, hH, nh, rr⟩ := rv
            have hc0 : c.H b' = none := Classical.byContradiction fun z => st1.live b' z h0
            refine ⟨b', ws, e, hc0, nf, hH, fun hd => ?_, rr⟩
            rcases hd_setEV (c := ⟨n2, c.s, H2, F2⟩) hd with z | z
            · exact nh z
            · -- the first one stood ahead of the second
              cases ex with
              | v d =>
                have hd' : (⟨n2.set i (some (.val d)), c.s.set i (some u), H2, F2⟩ : Cf).Hd b' := hd
                obtain ⟨k, sl, e1, e2, e3⟩ := hd'
                by_cases hk : i = k
                · subst hk
                  have e1' : (n2.set i (some (.val d)))[i]? = some (some sl) := e1
                  rw [List.getElem?_set_self (notLent_ok hl.1).1] at e1'
                  cases e1'; cases e2
                · have e1' : (n2.set i (some (.val d)))[k]? = some (some sl) := e1
                  have e3' : (c.s.set i (some u))[k]? = some (some (V.ref b')) := e3
                  rw [List.getElem?_set_ne hk] at e1' e3'
                  exact nh ⟨k, sl, e1', e2, e3'⟩
              | w xs =>
                obtain ⟨a', us, ea, _, _, hHa, _, _⟩ := ru
                rw [ea] at z
                cases z
                have h0' : H1 b' = none := h0
                have hHa' : H1 b' = some (.lst us) := hHa
                rw [h0'] at hHa'
                cases hHa'
        obtain ⟨S4, st4⟩ := Sim.setEV (c0 := c) (c := ⟨n2.set i (some ex.sl), c.s.set i (some u), H2, F2⟩) st3 S3 (notLent_set hl.2) rv3
        exact h _ _ _ st4 S4
      · exact h.elim
end
/-! ### raise -/
structure ExcF (K : PySem.W.Frag) (mg : Str → Option Value) (x : Str) : Prop where
  ex : ∃ C, mg x = some (.ref C) ∧ PySem.W.excIn K C He.veBase "ValueError.__new__" = true ∧ PySem.W.keepIn K (.ref C) = true ∧ PySem.W.subIn K (.ref C) (.type "BaseException") = some true ∧ PySem.W.typeIn K (.ref C) = some (.type "type")
def sRaise (x : Str) : NStm := fun n => .err ⟨x, none⟩ n
section
variable {X : Cx} {W : WX}
theorem ns_raise {x m : Str} {j : Nat} {p p2 pos pos' : Pos} (E : ExcF X.K X.mg x) (hc : X.calm = true) (tk : Takes X W) (hg : Gl X x := by rfl) (hdb : (x == ("__debug__" : Str)) = false := by decide) :
    NS X W (.Raise (some (.Call (.Name x p) [.Constant (.str m) j p2] [] pos)) none pos') (sRaise x) := by
  obtain ⟨C, gC, q, kC, sC, tC⟩ := E.ex
  refine ⟨_, ps_raise hc tk (pmk_own PySem.F.excBase_ValueError q gC kC (raises_own sC tC) hg hdb), fun c D S h => ?_⟩
  exact h (.ref C) none c.s c.H c.F (Step.refl _) S ⟨gC, ⟨C, rfl⟩, rfl⟩
end
/-! ### the flags of a caught exception -/
/-- a def called where p's object is handled; it lets nothing out -/
structure FnQ (P : Program) (w : World) (K : PySem.W.Frag) (mg : Str → Option Value) (base : Heap) (k : Nat) (f : Addr) (fd : FuncData) (ps : List Str) (Z : Addr × Obj → Prop) (sp : Addr × Obj → List V → Hp → VK → Prop) : Prop where
  len : ∀ p vs H Q, sp p vs H Q → vs.length = ps.length
  run : ∀ (A : Around) (outer : List Env) (s : Shared) (H : Hp) (args : Args) (us : List Value) (vs : List V) (Q : VK) (p : Addr × Obj), L2H.RoomH k A → Z p → L2H.PinOk outer H s p → Env0 P w K mg base A outer s H → BindsTo s fd args (ps.zip us) → Vals vs us → sp p vs H Q →
    codeAny (model P w) A (.call (.ref f) args) (CR CX0 outer P w H s Q E0) s
theorem fn_ofQ {P : Program} {w : World} {K : PySem.W.Frag} {mg : Str → Option Value} {base : Heap} {k : Nat} {f : Addr} {name qual : Str} {params : Arguments} {body : List Stmt} {scope : Scope} {dV kV doc pm cdv ct oc : Value} {an od : Option Addr}
    {osl : Array (Option Value)} {N ps : List Str} {Z : Addr × Obj → Prop} {sp : Addr × Obj → List V → Hp → VK → Prop} (lk : K.lookup f = some ⟨oc, od, .func (PySem.W.fnOf name qual params body scope dV kV doc pm an cdv ct), osl⟩) (hcd : PySem.W.codeIn K cdv qual = true) (S : FnScope N ps scope)
    (len : ∀ p vs H Q, sp p vs H Q → vs.length = ps.length)
    (hbody : ∀ (A : Around) (outer : List Env) (s : Shared) (H : Hp) (vs : List V) (Q : VK) (p : Addr × Obj), Z p → L2H.RoomH k (A.deeper (envOfC qual scope s.heap.objs.size f cdv)) → sp p vs H Q →
      ∃ t, PSs (L2H.cxH CX0 P w K mg base N qual scope f cdv A outer s H E0 p).nox body t ∧ t { nx := fun _ H' => Q .non H', rt := Q } (L2.start N vs) H) :
    FnQ P w K mg base (k + 1) f (PySem.W.fnOf name qual params body scope dV kV doc pm an cdv ct) ps Z sp := by
  refine ⟨len, fun A outer s H args us vs Q p hr hot hpin e0 hb r hsp => ?_⟩
  have hl := len _ _ _ _ hsp
  have KX : K.In s.heap := e0.mod.kin.keeps fun b o e => (e0.bs b o e).1
  have lim : s.heap.NoLimit := e0.mod.nolimit.keeps fun b o e => (e0.bs b o e).1
  have hkind : ∀ y ∈ ps.zip us, scope.names.lookup y.1 = some .local ∨ (scope.names.lookup y.1 = some .cell ∧ ((cellsFrom (s.heap.objs.size + 1) scope.names []).lookup y.1).isSome = true) := fun ⟨n, v⟩ hy => by
    rcases S.par n (List.of_mem_zip hy).1 with q | q
    · exact .inl q
    · exact .inr ⟨q, PySem.W.cellsFrom_some _ _ _ (.inl q)⟩
  refine codeAny_call_function hr.depth (KX _ _ lk) rfl S.co S.gen rfl (PySem.W.codeRec_of KX hcd) (hb _ _ _ _ ?_)
  refine wpAny_newFunctionEnv_cells S.kind hkind fun env he s1 x => ?_
  subst he
  refine ⟨lim.keeps x.toInCall.keep, codeAny_func ?_⟩
  obtain ⟨t, ht, hq⟩ := hbody A outer s H vs Q p hot (hr.deeper _) hsp
  have I : Inv (L2H.cxH CX0 P w K mg base N qual scope f cdv A outer s H E0 p) [] (L2.start N vs) H s1 := L2H.inv_startH S hpin e0 hl r x
  refine wpAny_mono ((PSs.nox ht).run [] s1 (L2.start N vs) H _ I hq) (fun fl s' hs => ?_) fun e s' hs => hs
  have fin : ∀ {σ' : St} {H' : Hp} {v : V} {u : Value}, Inv (L2H.cxH CX0 P w K mg base N qual scope f cdv A outer s H E0 p) [] σ' H' s' → RelV v u → Q v H' → CE outer P w H s Q u s' :=
    fun {σ' H' v u} J rv q => ⟨v, H', J.os, J.bare, J.base, J.hok, rv, q⟩
  cases fl with
  | ret u =>
    obtain ⟨v, σ', H', J, rv, q⟩ := hs
    exact fin J rv q
  | next =>
    obtain ⟨σ', H', J, q⟩ := hs
    exact fin (v := V.non) (u := Value.none) J rfl q
  | brk =>
    obtain ⟨_, _, _, q⟩ := hs
    exact False.elim q
  | cont =>
    obtain ⟨_, _, _, q⟩ := hs
    exact False.elim q
section
variable {X : Cx} {k : Nat} {f : Addr} {fd : FuncData} {ps : List Str} {Z : Addr × Obj → Prop} {sp : Addr × Obj → List V → Hp → VK → Prop} {x : Str} {q pos : Pos} {e : Expr} {es : List Expr} {t : TA}
theorem pe_callQ {p : Addr × Obj} (F : FnQ X.prog X.w X.K X.mg X.base k f fd ps Z sp) (hr : L2H.RoomH k X.A) (hz : Z p) (hp : p ∈ X.pn) (hg : Gl X x) (hm : X.mg x = some (.ref f)) (hk : PySem.W.keepIn X.K (.ref f) = true) (hb : Binds X.K fd ps [])
    (ha : PA X (e :: es) t) (hdb : (x == ("__debug__" : Str)) = false := by decide) (he : starEach (e :: es) X.env = (false, eval e X.env) :: starEach es X.env := by rfl) (hpl : (backTo pos (starEach es X.env)).any (·.1) = false := by rfl) :
    PE X (.Call (.Name x q) (e :: es) [] pos) (fun σ H Q => t σ H fun vs H1 => sp p vs H1 Q) := by
  refine ⟨fun pins s σ H Q I h => ?_⟩
  refine wpAny_Call_Name_kw (ld_glob I hg hm ?_ hdb)
  refine PySem.W.callWith_K (h₀ := X.base) I.ok.mod.kin hk (thn (ha.run pos pins s σ H _ I h) fun us s1 ⟨vs, H1, I1, r, q⟩ => ⟨I1.kIn, ?_⟩) he hpl
  have hl : us.length = ps.length := by rw [← r.length]; exact F.len _ _ _ _ q
  have b := hb s1 us I1.kIn (by rw [List.append_nil]; exact hl)
  rw [List.append_nil] at b
  have P1 := I1.pin p (List.mem_append_left _ hp)
  have hpin : L2H.PinOk X.stack H1 s1 p := ⟨P1.1, P1.2.1, fun hm => (List.mem_cons.mp (I1.stkSub p.1 hm)).elim P1.2.2.1 P1.2.2.2.1, P1.2.2.2.2⟩
  refine wpAny_call (codeAny_mono (F.run X.A X.stack s1 H1 ⟨us, []⟩ us vs Q p hr hz hpin I1.env0 b r q) fun r s' hq => ?_)
  cases r with
  | error e => exact (show False from hq).elim
  | ok fl =>
    cases fl with
    | ret u => exact I1.after hq
    | next => exact False.elim hq
    | brk => exact False.elim hq
    | cont => exact False.elim hq
end
/-- isinstance(e, C), e the object of a pin -/
theorem call_isQ {X : Cx} {a D : Addr} {oe : Obj} (C : ExcC X.K D) (hz : Zc (.ref D) none oe) (hf : ∃ vs, oe.data = .fields vs) (hp : (a, oe) ∈ X.pn) : CallR X (.builtin "isinstance") (rIsE X.K D a) := by
  intro pins s σ H xs us Q I r h
  obtain ⟨c, cv, b, rfl, hcv, e, q⟩ := h
  cases r with
  | cons rx rr =>
    cases rr with
    | cons rt rr =>
      cases rr
      cases rx
      have ec := hcv _ rt
      subst ec
      obtain ⟨hget, _⟩ := I.pin (a, oe) (List.mem_append.mpr (.inl hp))
      obtain ⟨vs, hv⟩ := hf
      have J : PySem.W.InstAt s.heap a oe D none := by
        obtain ⟨oc, od, oda, osl⟩ := oe
        obtain ⟨h1, h2⟩ := hz
        dsimp only at h1 h2 hv
        subst h1 h2 hv
        exact ⟨hget, rfl, rfl, trivial⟩
      exact PySem.W.kia_one (PySem.W.handS_kitx_exc C.hg C.hk C.hs C.hd C.ha C.hn C.ht C.hm) I.kIn J e (fun z => nomatch z) fun tk => ⟨.bl b, H, I.kept (t' := tk) fun _ _ z => z, rfl, q⟩
/-- the classes that are asked, as the class D answers -/
structure Flg (K : PySem.W.Frag) (mg : Str → Option Value) (sub : Str → Str → Bool) (tbl : List Str) (x : Str) (D : Addr) : Prop where
  g : mg x = some (.ref D)
  c : ExcC K D
  a : ∀ y ∈ tbl, ∃ C, mg y = some (.ref C) ∧ PySem.W.kitOne K (.ref D) (.ref C) = some (sub x y)
/-- what the handled exception is -/
def ZF (K : PySem.W.Frag) (mg : Str → Option Value) (sub : Str → Str → Bool) (tbl : List Str) (p : Addr × Obj) : Prop := ∃ (x : Str) (D : Addr), Flg K mg sub tbl x D ∧ Zc (.ref D) none p.2 ∧ ∃ vs, p.2.data = .fields vs
/-- the flags' def: one row of isinstance(e, C) -/
def spFlags (K : PySem.W.Frag) (mg : Str → Option Value) (sub : Str → Str → Bool) (tbl : List Str) (p : Addr × Obj) : List V → Hp → VK → Prop := fun vs H Q => vs = [.ref p.1] ∧ ∀ (x : Str) (D : Addr), Flg K mg sub tbl x D → Zc (.ref D) none p.2 → ∀ q, H q = none → Q (.ref q) (upd H q (.lst (tbl.map fun y => V.bl (sub x y))))
/-- the items of the row -/
structure PFl (X : Cx) (p : Addr × Obj) (sub : Str → Str → Bool) (x : Str) (tbl : List Str) (es : List Expr) : Prop where
  run : PA X es (fun σ H Q => σ[0]? = some (some (.ref p.1)) ∧ Q (tbl.map fun y => V.bl (sub x y)) H)
section
variable {X : Cx} {p : Addr × Obj} {sub : Str → Str → Bool} {x : Str}
theorem pfl_nil : PFl X p sub x [] [] := ⟨⟨fun pos pins s σ H Q I h => pa_nil.run pos pins s σ H Q I h.2⟩⟩
theorem pfl_cons {y ev : Str} {tbl : List Str} {es : List Expr} {D C : Addr} {p0 p1 p2 pos : Pos} (hp : p ∈ X.pn) (cD : ExcC X.K D) (hz : Zc (.ref D) none p.2) (hf : ∃ vs, p.2.data = .fields vs) (gC : X.mg y = some (.ref C)) (k : PySem.W.kitOne X.K (.ref D) (.ref C) = some (sub x y)) (hm : X.mg "isinstance" = none)
    (h : PFl X p sub x tbl es) (hN : X.N[0]? = some ev) (hv : Vis X.env.scope ev) (hd : (ev == ("__debug__" : Str)) = false) (hcd : (ev == ("__classdict__" : Str)) = false) (hg : Gl X "isinstance") (hgy : Gl X y) (hdy : (y == ("__debug__" : Str)) = false)
    (he : starEach [.Name ev p1, .Name y p2] X.env = (false, eval (.Name ev p1) X.env) :: starEach [.Name y p2] X.env := by rfl) (he2 : starEach [.Name y p2] X.env = (false, eval (.Name y p2) X.env) :: starEach [] X.env := by rfl) (hpl : (backTo pos (starEach [.Name y p2] X.env)).any (·.1) = false := by rfl)
    (hs : starEach (.Call (.Name "isinstance" p0) [.Name ev p1, .Name y p2] [] pos :: es) X.env = (false, eval (.Call (.Name "isinstance" p0) [.Name ev p1, .Name y p2] [] pos) X.env) :: starEach es X.env := by rfl) :
    PFl X p sub x (y :: tbl) (.Call (.Name "isinstance" p0) [.Name ev p1, .Name y p2] [] pos :: es) := by
  refine ⟨⟨fun pos' pins s σ H Q I h' => ?_⟩⟩
  refine (pa_cons (pe_callB (call_isQ (a := p.1) (oe := p.2) cD hz hf hp) hg hm (by decide +kernel) (pa_cons (pe_var hN hv hd hcd) (pa_cons (pe_glob hgy gC (v := .ref C) rfl hdy) pa_nil he2) he) (by decide) (by decide) he hpl) h.run hs).run pos' pins s σ H Q I ?_
  exact ⟨_, h'.1, .ref C, .ref C, sub x y, rfl, fun u r => r, k, h'.1, h'.2⟩
end
section
variable {P : Program} {w : World} {K : PySem.W.Frag} {mg : Str → Option Value} {base : Heap}
structure NFl (P : Program) (w : World) (K : PySem.W.Frag) (mg : Str → Option Value) (base : Heap) (k : Nat) (x : Str) (sub : Str → Str → Bool) (tbl : List Str) : Prop where
  ex : ∃ (f : Addr) (fd : FuncData) (ps : List Str), FnQ P w K mg base k f fd ps (ZF K mg sub tbl) (spFlags K mg sub tbl) ∧ mg x = some (.ref f) ∧ PySem.W.keepIn K (.ref f) = true ∧ Binds K fd ps []
theorem NFl.of {x nm qual ev : Str} {params : Arguments} {scope : Scope} {f : Addr} {fd : FuncData} {N : List Str} {es : List Expr} {pos pos2 : Pos} {sub : Str → Str → Bool} {tbl : List Str} (F : FunD K nm qual params [.Return (some (.List es pos)) pos2] scope [] [] f fd) (hm : mg x = some (.ref f)) (S : FnScope N [ev] scope)
    (hb : Binds K fd [ev] []) (hsz : tbl.length ≤ sizeLine)
    (hes : ∀ (A : Around) (outer : List Env) (s : Shared) (H : Hp) (p : Addr × Obj) (cdv : Value) (x : Str) (D : Addr), Flg K mg sub tbl x D → Zc (.ref D) none p.2 → (∃ vs, p.2.data = .fields vs) →
      PFl (L2H.cxH CX0 P w K mg base N qual scope f cdv A outer s H E0 p).nox p sub x tbl es) : NFl P w K mg base 1 x sub tbl := by
  obtain ⟨oc, od, dV, kV, doc, pm, an, cdv, ct, osl, rfl, lk, hcd, _, _⟩ := F.ex
  refine ⟨f, _, [ev], ?_, hm, F.kp, hb⟩
  refine fn_ofQ lk hcd S (fun p vs H Q h => by rw [h.1]; rfl) fun A outer s H vs Q p hz hr hsp => ?_
  obtain ⟨y, D, fl, zc, vf⟩ := hz
  refine ⟨_, pss_one (ps_ret (pe_lst (hes A outer s H p cdv y D fl zc vf).run)), ?_⟩
  obtain ⟨rfl, hq⟩ := hsp
  refine ⟨?_, by rw [List.length_map]; exact hsz, fun q hq' => hq y D fl zc q hq'⟩
  show (L2.start N [V.ref p.1])[0]? = _
  rfl
end
/-- try: body, except x as e: return flags(e) -/
def sTryF (i : Nat) (sub : Str → Str → Bool) (tbl known : List Str) (f : NStm) : NStm := fun n => match f n with
  | .err x n' => match x.at_ with
    | none => if x.cls ∈ known ∧ i < n.length then .ret (.list (tbl.map fun y => .bool (sub x.cls y))) n' else .bad
    | some _ => .bad
  | r => r
def cSs (K : PySem.W.Frag) (mg : Str → Option Value) (f : NStm) (W : WX) : TS := fun D σ H => ∃ c : Cf, c.s = σ ∧ c.H = H ∧ Sim K c ∧ PstS K mg W c D (f c.n)
theorem NSs.canon {X : Cx} {W : WX} {b : List Stmt} {f : NStm} (h : NSs X W b f) : PSs X b (cSs X.K X.mg f W) := by
  obtain ⟨t, p, s⟩ := h.ex
  exact ⟨fun pins s0 σ H D I ⟨c, e1, e2, S, q⟩ => by subst e1 e2; exact p.run pins s0 c.s c.H D I (s c D S q)⟩
section
variable {X : Cx} {W : WX}
theorem Reps.bls {K : PySem.W.Frag} {H : Hp} {F : Fz} : ∀ (bs : List Bool), Reps K H F (bs.map PyData.bool) (bs.map V.bl)
  | [] => Reps.nil
  | b :: bs => Reps.cons Rep.mkBool (Reps.bls bs)
theorem ns_tryF {x ev fl : Str} {i k : Nat} {body : List Stmt} {np p1 p2 p3 p4 p5 pos : Pos} {f : NStm} {sub : Str → Str → Bool} {tbl known : List Str} {C : Addr} (hs : X.stack = X.env :: X.outer) (hf : X.env.frame = some X.env.locals) (hN : X.N.Nodup) (hi : X.N[i]? = some ev) (hln : X.env.kindOf ev = some .local) (gC : X.mg x = some (.ref C)) (tk : Takes X W) (hr : Room k X.A)
    (G : NFl X.prog X.w X.K X.mg X.base k fl sub tbl) (known_ok : ∀ y ∈ known, ∃ D, Flg X.K X.mg sub tbl y D ∧ PySem.W.exmOne X.K (.ref D) (.ref C) = some true)
    (hb : ∀ (W : WX) (pn : List (Addr × Obj)) (xe : Value → Shared → Prop), Takes (X.tr pn xe) W → PassesOwn (model X.prog X.w) X.A X.env xe → NSs (X.tr pn xe) W body f)
    (hgx : Gl X x) (hdx : (x == ("__debug__" : Str)) = false) (hgf : Gl X fl) (hdf : (fl == ("__debug__" : Str)) = false) (hv : Vis X.env.scope ev) (hd : (ev == ("__debug__" : Str)) = false) (hcd : (ev == ("__classdict__" : Str)) = false)
    (he : starEach [.Name ev p2] X.env = (false, eval (.Name ev p2) X.env) :: starEach [] X.env := by rfl) (hpl : (backTo p3 (starEach [] X.env)).any (·.1) = false := by rfl) :
    NS X W (.Try body [.ExceptHandler (some (.Name x np)) (some ev) [.Return (some (.Call (.Name fl p1) [.Name ev p2] [] p3)) p4] p5] [] [] pos) (sTryF i sub tbl known f) := by
  obtain ⟨fa, fd, ps, F, gf, kf, bf⟩ := G.ex
  let ts : Addr → Value → Option Addr → TS := fun a cls d D σ H => ∃ oe0 : Obj, d = none ∧ (∃ (y : Str) (D0 : Addr), cls = .ref D0 ∧ Flg X.K X.mg sub tbl y D0) ∧ σ[i]? = some (some (.ref a)) ∧ ∀ (y : Str) (D0 : Addr), Flg X.K X.mg sub tbl y D0 → cls = .ref D0 → ∀ q, H q = none → D.rt (.ref q) (upd H q (.lst (tbl.map fun z => V.bl (sub y z))))
  have hsu : ∀ (a : Addr) (oe : Obj) (cls : Value) (d : Option Addr) (pn : List (Addr × Obj)), Zc cls d oe → (∃ vs, oe.data = .fields vs) → PSs (X.suite a ((a, oe) :: pn)) [.Return (some (.Call (.Name fl p1) [.Name ev p2] [] p3)) p4] (ts a cls d) := by
    intro a oe cls d pn hz hvs
    refine ⟨fun pins s σ H D I h => ?_⟩
    obtain ⟨_, hd0, ⟨y, D0, hcls, fg⟩, hσ, hq⟩ := h
    subst hd0
    subst hcls
    have room : L2H.RoomH k (X.suite a ((a, oe) :: pn)).A := ⟨hr.dp, hr.un⟩
    have zf : ZF X.K X.mg sub tbl (a, oe) := ⟨y, D0, fg, hz, hvs⟩
    refine (pss_one (ps_ret (pe_callQ (X := X.suite a ((a, oe) :: pn)) (p := (a, oe)) F room zf List.mem_cons_self hgf gf kf bf (pa_cons (pe_var hi hv hd hcd) pa_nil he) hdf he hpl))).run pins s σ H D I ?_
    exact ⟨_, hσ, rfl, fun y' D' g' z' q hq' => hq y' D' g' (by
      have : oe.cls = .ref D' := z'.1
      rw [hz.1] at this; exact this) q hq'⟩
  refine ⟨_, ps_try_as hs hf hN hi hln ⟨hgx, hdx, .inl gC⟩ (tb := fun W => cSs X.K X.mg f W) tk (fun W pn xe t p => (hb W pn xe t p).canon) hsu, fun c D S h => ?_⟩
  refine ⟨c, rfl, rfl, S, ?_⟩
  unfold sTryF at h
  cases er : f c.n with
  | err z n' =>
    rw [er] at h
    intro cls d σ' H' F' st S' xr
    dsimp only at h
    split at h
    · rename_i hat
      split at h
      · rename_i hk
        obtain ⟨hk, hil⟩ := hk
        obtain ⟨gz, ⟨C', hC'⟩, hd'⟩ := xr
        rw [hat] at hd'
        have hd' : d = none := hd'
        subst hd'
        obtain ⟨D0, fg, hx⟩ := known_ok _ hk
        have e1 : cls = .ref D0 := by
          have := gz.symm.trans fg.g
          exact Option.some.inj this
        subst e1
        refine ⟨true, hx, fun _ a ha => ⟨default, rfl, ⟨z.cls, D0, rfl, fg⟩, ?_, fun y D1 gy hD q hq => ?_⟩, fun z => nomatch z⟩
        · have hi' : i < σ'.length := by
            have h1 : n'.length = c.n.length := st.ln
            have h2 : n'.length = σ'.length := S'.len
            omega
          rw [List.getElem?_set_self hi']
        · cases hD
          have et : (tbl.map fun t => V.bl (sub y t)) = (tbl.map fun t => V.bl (sub z.cls t)) := List.map_congr_left fun t ht => by
            obtain ⟨C1, g1, k1⟩ := gy.a t ht
            obtain ⟨C2, g2, k2⟩ := fg.a t ht
            have : C1 = C2 := by
              have := g1.symm.trans g2
              injection this with this
              injection this
            subst this
            rw [k1] at k2
            rw [Option.some.inj k2]
          rw [et]
          obtain ⟨S2, st2, ro⟩ := Sim.newLst S' (p := q) (ds := tbl.map fun t => PyData.bool (sub z.cls t)) hq (by
            have := Reps.bls (K := X.K) (H := H') (F := F') (tbl.map fun t => sub z.cls t)
            rwa [List.map_map, List.map_map] at this)
          obtain ⟨F3, S3, st3, r3⟩ := Sim.freeze S' st2 S2 ro
          exact h _ _ _ _ (st.trans st3) S3 r3
      · exact h.elim
    · exact h.elim
  | nx n' => rw [er] at h; exact h
  | ret d n' => rw [er] at h; exact h
  | brk n' => rw [er] at h; exact h
  | ct n' => rw [er] at h; exact h
  | bad => rw [er] at h; exact h
end
end NL
end L2
/-! NL9: a def chosen from a row; the empty dict. -/
namespace L2
namespace NL
open PySem PySem.Spec PyProof.Rows
section
variable {X : Cx} {W : WX} {k n : Nat}
/-- the names of a row of defs -/
inductive PickOk (X : Cx) (k n : Nat) : List Expr → List NExp → List Addr → Prop
  | nil : PickOk X k n [] [] []
  | cons {x : Str} {g : NExp} {f : Addr} {fd : FuncData} {ps : List Str} {p : Pos} {es : List Expr} {gs : List NExp} {fs : List Addr} (G : FnOk X.prog X.w X.K X.mg X.base (L2.CX X.prog X.w) k f fd ps (NProm X.K X.mg n g)) (hm : X.mg x = some (.ref f)) (hk : PySem.W.keepIn X.K (.ref f) = true) (hb : Binds X.K fd ps [])
      (hg : Gl X x) (hdb : (x == ("__debug__" : Str)) = false) (he : starEach (.Name x p :: es) X.env = (false, eval (.Name x p) X.env) :: starEach es X.env) (r : PickOk X k n es gs fs) : PickOk X k n (.Name x p :: es) (g :: gs) (f :: fs)
def Picks (X : Cx) (k n : Nat) (es : List Expr) (gs : List NExp) : Prop := ∃ fs, PickOk X k n es gs fs
theorem picks_nil : Picks X k n [] [] := ⟨[], .nil⟩
theorem picks_cons {x : Str} {g : NExp} {k' : Nat} {p : Pos} {es : List Expr} {gs : List NExp} (F : NFn X.prog X.w X.K X.mg X.base k' x n g) (hk : k' ≤ k) (r : Picks X k n es gs) (hg : Gl X x := by rfl) (hdb : (x == ("__debug__" : Str)) = false := by decide)
    (he : starEach (.Name x p :: es) X.env = (false, eval (.Name x p) X.env) :: starEach es X.env := by rfl) : Picks X k n (.Name x p :: es) (g :: gs) := by
  obtain ⟨f, fd, ps, G, hm, hkp, hb⟩ := F.ex
  obtain ⟨fs, r⟩ := r
  exact ⟨f :: fs, .cons (G.mono hk) hm hkp hb hg hdb he r⟩
theorem PickOk.pa {es : List Expr} {gs : List NExp} {fs : List Addr} : PickOk X k n es gs fs → ∃ t, PA X es t ∧ ∀ (c : Cf) (Q : List V → Hp → Prop), Q (fs.map V.ref) c.H → t c.s c.H Q
  | .nil => ⟨_, pa_nil, fun c Q h => h⟩
  | .cons G hm hk hb hg hdb he r => by
    obtain ⟨t, pa, s⟩ := r.pa
    exact ⟨_, pa_cons (pe_glob hg hm (v := .ref _) rfl hdb) pa he, fun c Q h => s c _ h⟩
theorem PickOk.at : ∀ {es : List Expr} {gs : List NExp} {fs : List Addr} {i : Nat} {g : NExp}, PickOk X k n es gs fs → gs[i]? = some g → ∃ f, fs[i]? = some f ∧ ∃ (fd : FuncData) (ps : List Str), FnOk X.prog X.w X.K X.mg X.base (L2.CX X.prog X.w) k f fd ps (NProm X.K X.mg n g) ∧ PySem.W.keepIn X.K (.ref f) = true ∧ Binds X.K fd ps []
  | _, _, _, _, _, .nil, h => by simp at h
  | _, _, _, 0, _, .cons G hm hk hb hg hdb he r, h => by
    simp at h; subst h
    exact ⟨_, rfl, _, _, G, hk, hb⟩
  | _, _, _, i + 1, _, .cons G hm hk hb hg hdb he r, h => by
    obtain ⟨f, e, q⟩ := PickOk.at (i := i) r (by simpa using h)
    exact ⟨f, by simpa using e, q⟩
theorem PickOk.len {es : List Expr} {gs : List NExp} {fs : List Addr} : PickOk X k n es gs fs → gs.length = fs.length
  | .nil => rfl
  | .cons _ _ _ _ _ _ _ r => by simp [r.len]
def nPick (gs : List NExp) (fi : NExp) (fs : NSt → R (List AV)) : NExp := fun m => (fi m).bind fun d n1 => match d with
  | .int i => if 0 ≤ i then (match gs[i.toNat]? with
    | some g => nCall g fs n1
    | none => .bad) else .bad
  | _ => .bad
theorem ne_pick {names : List Expr} {gs : List NExp} {fi : NExp} {ie : Expr} {e : Expr} {es : List Expr} {fs : NSt → R (List AV)} {lp sp pos : Pos} (P : Picks X k n names gs) (hz : gs.length ≤ sizeLine) (hr : Room k X.A) (tk : Takes X W) (hi : NE X W ie fi) (ha : NA X W (e :: es) fs) (hn : (e :: es).length = n)
    (hl : ∀ (m : NSt) (as : List AV) (m' : NSt), fs m = .ok as m' → as.length = n)
    (hs : PlainIx ie := by exact fun _ _ => rfl) (he : starEach (e :: es) X.env = (false, eval e X.env) :: starEach es X.env := by rfl) (hpl : (backTo pos (starEach es X.env)).any (·.1) = false := by rfl)
    (hev : eval (.Call (.Subscript (.List names lp) ie sp) (e :: es) [] pos) X.env = (do callWith pos (← eval (.Subscript (.List names lp) ie sp) X.env) [] (backTo pos (starEach (e :: es) X.env)) (backToKw pos (keywordEach [] X.env))) := by rfl) :
    NE X W (.Call (.Subscript (.List names lp) ie sp) (e :: es) [] pos) (nPick gs fi fs) := by
  obtain ⟨fas, P⟩ := P
  obtain ⟨tn, pn, sn⟩ := P.pa
  obtain ⟨ti, pi, si⟩ := hi.ex
  obtain ⟨ta, pa, sa⟩ := ha.ex
  refine ⟨fun σ H Q => tOp (rIx X.K) (tLst tn) ti σ H fun v H1 => ∃ (f : Addr) (fd : FuncData) (ps : List Str) (g : NExp), v = .ref f ∧ FnOk X.prog X.w X.K X.mg X.base (L2.CX X.prog X.w) k f fd ps (NProm X.K X.mg n g) ∧ PySem.W.keepIn X.K (.ref f) = true ∧ Binds X.K fd ps [] ∧
    ta σ H1 fun vs H2 => NProm X.K X.mg n g vs H2 Q (WE W σ), ?_, ?_⟩
  · refine ⟨fun pins s σ H Q I h => ?_⟩
    refine Call_ (thn ((pe_ix ix_seq (pe_lst pn) pi hs).run pins s σ H _ I h) fun u s1 ⟨v, H1, I1, rv, f, fd, ps, g, ev, G, hk, hb, q⟩ => ?_) hev
    subst ev
    cases (show u = Value.ref f from rv)
    exact PySem.W.callWith_K (h₀ := X.base) I1.ok.mod.kin hk (thn (pa.run pos pins s1 σ H1 _ I1 q) fun us s2 ⟨vs, H2, I2, r, q2⟩ => ⟨I2.kIn, run_fnS G hr hb (passAt tk σ) I2 r q2⟩) he hpl
  · intro c Q S h
    refine sn c _ ⟨by rw [List.length_map, ← P.len]; exact hz, fun p hp => ?_⟩
    obtain ⟨S1, st1⟩ := S.ext (H' := upd c.H p (.lst (fas.map V.ref))) (F' := c.F) (upd_old hp) (fun _ f => f) fun a f => .inl f
    refine si ⟨c.n, c.s, upd c.H p (.lst (fas.map V.ref)), c.F⟩ _ S1 ?_
    have h1 : Pst X.K X.mg W (relE X.K) ⟨c.n, c.s, upd c.H p (.lst (fas.map V.ref)), c.F⟩ Q (nPick gs fi fs c.n) := Pst.step (c := c) (c1 := ⟨c.n, c.s, upd c.H p (.lst (fas.map V.ref)), c.F⟩) mono_E rfl st1 h
    refine Pst.seq (rel := relE X.K) (rel' := relE X.K) mono_E h1 fun d n1 v H2 F2 _ st2 S2 r2 h2 => ?_
    cases d with
    | int i =>
      dsimp only at h2
      split at h2
      · rename_i h0
        cases eg : gs[i.toNat]? with
        | none => rw [eg] at h2; exact h2.elim
        | some g =>
          rw [eg] at h2
          obtain ⟨f, ef, fd, ps, G, hk, hb⟩ := P.at eg
          have hH2 : H2 p = some (.lst (fas.map V.ref)) := by
            refine (st2.keep p ?_ fun hd => ?_).trans ?_
            · show upd c.H p _ p ≠ none
              rw [upd_same]; simp
            · exact S.hdH (show c.Hd p from hd) hp
            · show upd c.H p _ p = _
              rw [upd_same]
          have ev : v = .int i := Rep.int (K := X.K) (H := H2) (F := F2) r2
          subst ev
          refine .inl ⟨p, fas.map V.ref, i, .ref f, rfl, rfl, SqL.of hH2, ?_, f, fd, ps, g, rfl, G, hk, hb, ?_⟩
          · have hlt : i.toNat < fas.length := lt_of_get ef
            unfold atI ixN
            rw [if_pos h0, if_pos (by rw [List.length_map]; omega)]
            simp only [Option.bind_some, List.getElem?_map, ef, Option.map_some]
          · refine sa ⟨n1, c.s, H2, F2⟩ _ S2 (Pst.seq (rel := relA X.K) (rel' := relE X.K) mono_E h2 fun as n2 vs H3 F3 eok st3 S3 r3 h3 => ?_)
            split at h3
            · rename_i nd
              cases er : resolve n2 as with
              | none => rw [er] at h3; exact h3.elim
              | some a =>
                rw [er] at h3
                obtain ⟨SA, no, nn, _⟩ := Sim.args (c := ⟨n2, c.s, H3, F3⟩) S3 nd r3 er
                refine ⟨a, F3, by rw [resolve_len er]; exact hl _ _ _ eok, no, nn, SA, ?_⟩
                dsimp only at h3
                cases eg : g a with
                | ok d os =>
                  rw [eg] at h3
                  intro v H' F' st S' rv
                  obtain ⟨st2, S2, _⟩ := Sim.back (c := ⟨n2, c.s, H3, F3⟩) S3 nd r3 er st S'
                  exact h3 v H' F' st2 S2 rv
                | err x os =>
                  rw [eg] at h3
                  intro cls d H' F' st S' rv
                  obtain ⟨st2, S2, _⟩ := Sim.back (c := ⟨n2, c.s, H3, F3⟩) S3 nd r3 er st S'
                  exact h3 cls d H' F' st2 S2 rv
                | bad => rw [eg] at h3; exact h3.elim
            · exact h3.elim
      · exact h2.elim
    | _ => exact h2.elim
/-- {} -/
theorem ne_dict0 {pos : Pos} : NE X W (.Dict [] [] pos) (fun m => .ok (.dict []) m) := by
  refine ⟨tDNewK, pe_dnewK, fun c Q S h p hp => ?_⟩
  obtain ⟨S1, st1⟩ := S.ext (H' := upd c.H p (.dK [])) (F' := orEq c.F p) (upd_old hp) (fun _ f => .inl f) fun a f => by
    rcases f with f | f
    · exact .inl f
    · subst f; exact .inr ⟨hp, by rw [upd_same]; simp⟩
  refine h (.ref p) _ _ st1 S1 ?_
  show Rep X.K _ _ (.dict []) (.ref p)
  unfold Rep
  refine ⟨p, [], rfl, .inr rfl, .inl ⟨[], ?_, rfl, rfl⟩, ?_⟩
  · exact upd_same
  · unfold RepsP; rfl
end
end NL
end L2
/-! NL10: defs that return a new list of the caller's own. -/
namespace L2
namespace NL
open PySem PySem.Spec PyProof.Rows
/-- a list that was new, or a slot's own, and that none holds any more -/
def relG (K : PySem.W.Frag) (c0 c : Cf) (xs : List PyData) (v : V) : Prop := ∃ (a : Addr) (ws : List V), v = .ref a ∧ (c0.H a = none ∨ c0.Ow a) ∧ ¬ c.F a ∧ c.H a = some (.lst ws) ∧ ¬ c.Hd a ∧ Reps K c.H c.F xs ws
theorem relO.g {K : PySem.W.Frag} {c0 c : Cf} {xs : List PyData} {v : V} (h : relO K c0 c xs v) : relG K c0 c xs v := let ⟨a, ws, e, h0, r⟩ := h; ⟨a, ws, e, .inl h0, r⟩
theorem relG.step {K : PySem.W.Frag} {c0 c1 c : Cf} {xs : List PyData} {v : V} (st : Step c0 c1) (h : relG K c1 c xs v) : relG K c0 c xs v := by
  obtain ⟨a, ws, e, h0, r⟩ := h
  refine ⟨a, ws, e, ?_, r⟩
  rcases h0 with h0 | h0
  · exact .inl (Classical.byContradiction fun z => st.live a z h0)
  · exact (st.ow a h0).symm
def PstO (K : PySem.W.Frag) (mg : Str → Option Value) (W : WX) (c : Cf) (D : Ends) : R (List PyData) → Prop
  | .ok xs n' => ∀ v σ' H' F', Step c ⟨n', σ', H', F'⟩ → Sim K ⟨n', σ', H', F'⟩ → relG K c ⟨n', σ', H', F'⟩ xs v → D.rt v H'
  | .err x n' => ∀ cls d σ' H' F', Step c ⟨n', σ', H', F'⟩ → Sim K ⟨n', σ', H', F'⟩ → XRep K mg H' F' x cls d → W cls d σ' H'
  | .bad => False
theorem PstO.step {K : PySem.W.Frag} {mg : Str → Option Value} {W : WX} {c c1 : Cf} {D : Ends} (st : Step c c1) {r : R (List PyData)} (h : PstO K mg W c D r) : PstO K mg W c1 D r := by
  cases r with
  | ok xs n => exact fun v σ' H' F' s1 S1 r => h v σ' H' F' (st.trans s1) S1 (r.step st)
  | err x n => exact fun cls d σ' H' F' s1 S1 => h cls d σ' H' F' (st.trans s1) S1
  | bad => exact h
structure NSo (X : Cx) (W : WX) (sts : List Stmt) (f : NSt → R (List PyData)) : Prop where
  ex : ∃ t, PSs X sts t ∧ ∀ (c : Cf) (D : Ends), Sim X.K c → PstO X.K X.mg W c D (f c.n) → t D c.s c.H
/-- an own slot is given away -/
def nGive (i : Nat) : NSt → R (List PyData) := fun n => match n[i]? with
  | some (some (.own xs)) => .ok xs (n.set i none)
  | _ => .bad
def sSeqO (f : NStm) (g : NSt → R (List PyData)) : NSt → R (List PyData) := fun n => match f n with
  | .nx n' => g n'
  | .err x n' => .err x n'
  | _ => .bad
def sIfO (t : NSt → R Bool) (f g : NSt → R (List PyData)) : NSt → R (List PyData) := fun n => (t n).bind fun b n' => if b = true then f n' else g n'
section
variable {X : Cx} {W : WX} {st : Stmt} {rest : List Stmt} {f : NStm} {g fo : NSt → R (List PyData)} {e : Expr} {pos : Pos}
theorem nso_ret (h : NEo X W e fo) : NSo X W [.Return (some e) pos] fo := by
  obtain ⟨t, p, s⟩ := h.ex
  refine ⟨_, pss_one (ps_ret p), fun c D S q => ?_⟩
  show t c.s c.H D.rt
  refine s c _ S ?_
  cases er : fo c.n with
  | ok xs n' => rw [er] at q; exact fun v H' F' st S' r => q v c.s H' F' st S' r.g
  | err x n' => rw [er] at q; exact fun cls d H' F' st S' r => q cls d c.s H' F' st S' r
  | bad => rw [er] at q; exact q
theorem Sim.drop {K : PySem.W.Frag} {c : Cf} (S : Sim K c) {i : Nat} {xs : List PyData} (e : c.n[i]? = some (some (.own xs))) :
    ∃ a, c.s[i]? = some (some (.ref a)) ∧ let c' : Cf := ⟨c.n.set i none, c.s, c.H, c.F⟩; Step c c' ∧ Sim K c' ∧ relG K c c' xs (.ref a) := by
  obtain ⟨v, e1, a, ws, rfl, nf, hH, r⟩ := S.slot i _ e
  have hi := lt_of_get e
  have sub : ∀ (j : Nat) (sl : Sl), (c.n.set i none)[j]? = some (some sl) → c.n[j]? = some (some sl) ∧ i ≠ j := fun j sl q => by
    by_cases h : i = j
    · subst h
      rw [List.getElem?_set_self hi] at q
      cases q
    · rw [List.getElem?_set_ne h] at q
      exact ⟨q, h⟩
  refine ⟨a, e1, ⟨fun _ _ _ => rfl, fun _ h => h, fun _ h => h, fun _ h => .inl h, fun b ⟨j, sl, q1, q2, q3⟩ => .inl ⟨j, sl, (sub j sl q1).1, q2, q3⟩, fun b ⟨j, ys, q1, q3⟩ => .inl ⟨j, ys, (sub j _ q1).1, q3⟩, fun j ys q => ?_, ?_⟩, ⟨?_, fun j sl q => S.slot j sl (sub j sl q).1, fun j k sj sk b q1 q2 h1 h2 q3 q4 => S.sep j k sj sk b (sub j sj q1).1 (sub k sk q2).1 h1 h2 q3 q4, S.fz⟩,
    ⟨a, ws, rfl, .inr ⟨i, xs, e, e1⟩, nf, hH, fun ⟨j, sl, q1, q2, q3⟩ => ?_, r⟩⟩
  · refine ⟨ys, ?_, rfl⟩
    show (c.n.set i none)[j]? = _
    by_cases h : i = j
    · subst h; rw [e] at q; cases q
    · rw [List.getElem?_set_ne h]; exact q
  · show (c.n.set i none).length = _
    simp
  · show (c.n.set i none).length = _
    simp [S.len]
  · exact (sub j sl q1).2 (S.sep i j _ sl a e (sub j sl q1).1 rfl q2 e1 q3)
theorem nso_give (i : Nat) {x : Str} {p : Pos} (hN : X.N[i]? = some x := by rfl) (hv : Vis X.env.scope x := by first | exact Or.inl rfl | exact Or.inr (Or.inl rfl) | exact Or.inr (Or.inr rfl)) (hd : (x == ("__debug__" : Str)) = false := by decide)
    (hcd : (x == ("__classdict__" : Str)) = false := by decide) : NSo X W [.Return (some (.Name x p)) pos] (nGive i) := by
  refine ⟨_, pss_one (ps_ret (pe_var hN hv hd hcd)), fun c D S q => ?_⟩
  unfold nGive at q
  split at q
  · rename_i xs e
    obtain ⟨a, e1, st, S', r⟩ := S.drop e
    exact ⟨_, e1, q _ _ _ _ st S' r⟩
  · exact q.elim
theorem nso_cons (h1 : NS X W st f) (h2 : NSo X W rest g) : NSo X W (st :: rest) (sSeqO f g) := by
  obtain ⟨t1, p1, s1⟩ := h1.ex
  obtain ⟨t2, p2, s2⟩ := h2.ex
  refine ⟨_, pss_cons p1 p2, fun c D S h => ?_⟩
  refine s1 c _ S ?_
  unfold sSeqO at h
  cases q : f c.n with
  | nx n' => rw [q] at h; exact fun σ' H' F' st S' => s2 ⟨n', σ', H', F'⟩ D S' (PstO.step st h)
  | err x n' => rw [q] at h; exact h
  | ret d n' => rw [q] at h; exact h.elim
  | brk n' => rw [q] at h; exact h.elim
  | ct n' => rw [q] at h; exact h.elim
  | bad => rw [q] at h; exact h.elim
/-- if c: return .., and on -/
theorem nso_if {c : Expr} {a : List Stmt} {t : NSt → R Bool} {ga : NSt → R (List PyData)} (hc : NT X W c t) (ha : NSo X W a ga) (h2 : NSo X W rest g) : NSo X W (.If c a [] pos :: rest) (sIfO t ga g) := by
  obtain ⟨tc, pc, sc⟩ := hc.ex
  obtain ⟨t1, p1, s1⟩ := ha.ex
  obtain ⟨t2, p2, s2⟩ := h2.ex
  refine ⟨_, pss_cons (ps_if pc p1 pss_nil) p2, fun c0 D S h => ?_⟩
  refine sc c0 _ S ?_
  unfold sIfO at h
  cases q : t c0.n with
  | ok b n' =>
    rw [q] at h
    intro b2 H' F' st S' eb
    have eb : b = b2 := eb
    subst eb
    have h : PstO X.K X.mg W c0 D (if b = true then ga n' else g n') := h
    cases b with
    | true => exact s1 ⟨n', c0.s, H', F'⟩ _ S' (PstO.step (D := { D with nx := t2 D }) st h)
    | false => exact s2 ⟨n', c0.s, H', F'⟩ D S' (PstO.step st h)
  | err x n' => rw [q] at h; exact fun cls d H' F' st S' r => h cls d c0.s H' F' st S' r
  | bad => rw [q] at h; exact h.elim
end
/-! ### the def, the call -/
def NPromO (K : PySem.W.Frag) (mg : Str → Option Value) (k : Nat) (g : NSt → R (List PyData)) : Sp := fun vs H Q E => ∃ (a : NSt) (F : Fz), a.length = k ∧ (∀ (i : Nat) (xs : List PyData), a[i]? ≠ some (some (Sl.own xs))) ∧ (∀ o ∈ a, o ≠ none) ∧ Sim K ⟨a, vs.map some, H, F⟩ ∧
  Pst K mg (fun cls d _ H' => E cls d H') (relO K) ⟨a, vs.map some, H, F⟩ Q (g a)
structure NFnO (P : Program) (w : World) (K : PySem.W.Frag) (mg : Str → Option Value) (base : Heap) (k : Nat) (x : Str) (n : Nat) (g : NSt → R (List PyData)) : Prop where
  ex : ∃ (f : Addr) (fd : FuncData) (ps : List Str), FnOk P w K mg base (L2.CX P w) k f fd ps (NPromO K mg n g) ∧ mg x = some (.ref f) ∧ PySem.W.keepIn K (.ref f) = true ∧ Binds K fd ps []
def runDO (N : Nat) (body : NSt → R (List PyData)) : NSt → R (List PyData) := fun a => match body (a ++ List.replicate (N - a.length) none) with
  | .ok d n' => .ok d (outs a n')
  | .err x n' => .err x (outs a n')
  | .bad => .bad
def nCallO (g : NSt → R (List PyData)) (fs : NSt → R (List AV)) : NSt → R (List PyData) := fun n => (fs n).bind fun as n1 => if (ixs as).Nodup then (match resolve n1 as with
  | some a => match g a with
    | .ok d os => .ok d (back n1 as os)
    | .err x os => .err x (back n1 as os)
    | .bad => .bad
  | none => .bad) else .bad
section
variable {P : Program} {w : World} {K : PySem.W.Frag} {mg : Str → Option Value} {base : Heap}
theorem NFnO.of {x nm qual : Str} {params : Arguments} {sbody : List Stmt} {scope : Scope} {f : Addr} {fd : FuncData} {N ps : List Str} {k n : Nat} {body : NSt → R (List PyData)} (F : FunD K nm qual params sbody scope [] [] f fd) (hm : mg x = some (.ref f)) (S : FnScope N ps scope)
    (hb : Binds K fd ps []) (hn : n = ps.length)
    (hbody : ∀ (cdv : Value) (A : Around) (outer : List Env) (s : Shared) (H : Hp) (E : XK), Room k (A.deeper (envOfC qual scope s.heap.objs.size f cdv)) →
      NSo (cxOf (L2.CX P w) P w K mg base N qual scope f cdv A outer s H E) (fun cls d _ H' => E cls d H') sbody body) : NFnO P w K mg base (k + 1) x n (runDO N.length body) := by
  refine ⟨f, fd, ps, ?_, hm, F.kp, hb⟩
  refine F.ok S (fun vs H Q E ⟨a, F', hl, _, _, S0, _⟩ => ?_) fun cdv A outer s H vs Q E hr hsp => ?_
  · have h1 : a.length = (vs.map some).length := S0.len
    rw [List.length_map] at h1
    omega
  · obtain ⟨t, p, sd⟩ := (hbody cdv A outer s H E hr).ex
    refine ⟨t, p, ?_⟩
    obtain ⟨a, F', hl, no, _, S0, q⟩ := hsp
    have h1 : a.length = (vs.map some).length := S0.len
    have hvl : vs.length = a.length := by rw [List.length_map] at h1; exact h1.symm
    have hN : a.length ≤ N.length := by
      have := congrArg List.length S.pre
      rw [List.length_take] at this
      omega
    have est : start N vs = vs.map some ++ List.replicate (N.length - a.length) none := by
      unfold start
      rw [hvl]
    rw [est]
    refine sd ⟨a ++ List.replicate (N.length - a.length) none, vs.map some ++ List.replicate (N.length - a.length) none, H, F'⟩ _ (S0.enter _) ?_
    unfold runDO at q
    cases er : body (a ++ List.replicate (N.length - a.length) none) with
    | ok d n' =>
      rw [er] at q
      intro v σ' H' F2 st S2 r
      obtain ⟨st3, S3⟩ := Sim.outs S0 hN no st S2
      obtain ⟨b, ws, e, h0, nf, hH, nh, rr⟩ := r
      have h0' : H b = none := by
        rcases h0 with h0 | ⟨i, xs, e1, _⟩
        · exact h0
        · have e1' : (a ++ List.replicate (N.length - a.length) none)[i]? = some (some (Sl.own xs)) := e1
          by_cases hi : i < a.length
          · rw [List.getElem?_append_left hi] at e1'
            exact absurd e1' (no i xs)
          · rw [List.getElem?_append_right (by omega), List.getElem?_replicate] at e1'
            split at e1' <;> cases e1'
      refine q v H' F2 st3 S3 ⟨b, ws, e, h0', nf, hH, fun ⟨i, sl, q1, q2, q3⟩ => ?_, rr⟩
      have hln : a.length ≤ n'.length := by
        have := st.ln
        simp only [List.length_append, List.length_replicate] at this
        omega
      have q1' : (NL.outs a n')[i]? = some (some sl) := q1
      have hia : i < a.length := by
        have := lt_of_get q1'
        unfold NL.outs at this
        rw [List.length_zipWith] at this
        omega
      have : ∃ s0 : Sl, a[i]? = some (some s0) ∧ s0.held = true := by
        cases q0 : a[i]? with
        | none => rw [List.getElem?_eq_getElem hia] at q0; cases q0
        | some o =>
          rw [outs_get q0 hln] at q1'
          cases o with
          | none => cases q1'
          | some s0 =>
            cases s0 with
            | lent ys => exact ⟨_, rfl, rfl⟩
            | own ys => exact ⟨_, rfl, rfl⟩
            | val d => cases q1'; cases q2
            | scr d => cases q1'; cases q2
      obtain ⟨s0, g1, g2⟩ := this
      exact S0.hdH (a := b) ⟨i, s0, g1, g2, q3⟩ h0'
    | err x n' =>
      rw [er] at q
      intro cls d σ' H' F2 st S2 r
      obtain ⟨st3, S3⟩ := Sim.outs S0 hN no st S2
      exact q cls d H' F2 st3 S3 r
    | bad => rw [er] at q; exact q.elim
end
section
variable {X : Cx} {W : WX}
theorem neo_call {k n : Nat} {x : Str} {g : NSt → R (List PyData)} {e : Expr} {es : List Expr} {fs : NSt → R (List AV)} {p pos : Pos} (F : NFnO X.prog X.w X.K X.mg X.base k x n g) (hr : Room k X.A) (tk : Takes X W) (ha : NA X W (e :: es) fs) (hn : (e :: es).length = n) (hg : Gl X x := by rfl)
    (hl : ∀ (m : NSt) (as : List AV) (m' : NSt), fs m = .ok as m' → as.length = n)
    (hdb : (x == ("__debug__" : Str)) = false := by decide) (he : starEach (e :: es) X.env = (false, eval e X.env) :: starEach es X.env := by rfl) (hpl : (backTo pos (starEach es X.env)).any (·.1) = false := by rfl) :
    NEo X W (.Call (.Name x p) (e :: es) [] pos) (nCallO g fs) := by
  obtain ⟨f, fd, ps, G, hm, hk, hb⟩ := F.ex
  obtain ⟨t, pa, s⟩ := ha.ex
  refine ⟨_, pe_callS G hr hg hm hk hb (passAt tk) pa hdb he hpl, fun c Q S h => ?_⟩
  refine s c _ S (Pst.seq (rel := relA X.K) (rel' := relO X.K) mono_O h fun as n1 vs H1 F1 eok st1 S1 r1 h1 => ?_)
  split at h1
  · rename_i nd
    cases er : resolve n1 as with
    | none => rw [er] at h1; exact h1.elim
    | some a =>
      rw [er] at h1
      obtain ⟨SA, no, nn, _⟩ := Sim.args (c := ⟨n1, c.s, H1, F1⟩) S1 nd r1 er
      refine ⟨a, F1, by rw [resolve_len er]; exact hl _ _ _ eok, no, nn, SA, ?_⟩
      dsimp only at h1
      cases eg : g a with
      | ok d os =>
        rw [eg] at h1
        intro v H' F' st S' rv
        obtain ⟨st2, S2, hd2⟩ := Sim.back (c := ⟨n1, c.s, H1, F1⟩) S1 nd r1 er st S'
        obtain ⟨b, ws, e, h0, nf, hH, nh, rr⟩ := rv
        exact h1 v H' F' st2 S2 ⟨b, ws, e, h0, nf, hH, fun z => S1.hdH (hd2 b z) h0, rr⟩
      | err x os =>
        rw [eg] at h1
        intro cls d H' F' st S' rv
        obtain ⟨st2, S2, _⟩ := Sim.back (c := ⟨n1, c.s, H1, F1⟩) S1 nd r1 er st S'
        exact h1 cls d H' F' st2 S2 rv
      | bad => rw [eg] at h1; exact h1.elim
  · exact h1.elim
end
end NL
end L2
/-! NL11: what a law's text asks: lengths of argument rows, room, builtins' names, facts of the written part, the end. -/
namespace L2
namespace NL
open PySem PySem.Spec PyProof.Rows
theorem aNil_len : ∀ (m : NSt) (as : List AV) (m' : NSt), aNil m = .ok as m' → as.length = 0 := fun m as m' e => by
  cases e; rfl
theorem aCons_len {p : Opd} {f : NSt → R (List AV)} {k : Nat} (h : ∀ (m : NSt) (as : List AV) (m' : NSt), f m = .ok as m' → as.length = k) : ∀ (m : NSt) (as : List AV) (m' : NSt), aCons p f m = .ok as m' → as.length = k + 1 := fun m as m' e => by
  unfold aCons at e
  cases q : p.run m with
  | ok a n1 =>
    rw [q] at e
    have e : (f n1).bind (fun as n2 => R.ok (a :: as) n2) = .ok as m' := e
    cases q2 : f n1 with
    | ok bs n2 =>
      rw [q2] at e
      cases e
      simp [h _ _ _ q2]
    | err x n => rw [q2] at e; cases e
    | bad => rw [q2] at e; cases e
  | err x n => rw [q] at e; cases e
  | bad => rw [q] at e; cases e
theorem u65 {k : Nat} {A : Around} (r : Room k A) : A.units + 65 < cLine := by have := r.un; omega
theorem bt_len : bootBuiltins "len" = some (.builtin "len") := by decide +kernel
theorem bt_all : bootBuiltins "all" = some (.builtin "all") := by decide +kernel
theorem bt_any : bootBuiltins "any" = some (.builtin "any") := by decide +kernel
theorem bt_sum : bootBuiltins "sum" = some (.builtin "sum") := by decide +kernel
theorem bt_max : bootBuiltins "max" = some (.builtin "max") := by decide +kernel
theorem bt_min : bootBuiltins "min" = some (.builtin "min") := by decide +kernel
theorem bt_abs : bootBuiltins "abs" = some (.builtin "abs") := by decide +kernel
theorem bt_int : bootBuiltins "int" = some (.type "int") := by decide +kernel
theorem bt_bool : bootBuiltins "bool" = some (.type "bool") := by decide +kernel
theorem bt_str : bootBuiltins "str" = some (.type "str") := by decide +kernel
theorem bt_list : bootBuiltins "list" = some (.type "list") := by decide +kernel
theorem bt_tuple : bootBuiltins "tuple" = some (.type "tuple") := by decide +kernel
theorem bt_dict : bootBuiltins "dict" = some (.type "dict") := by decide +kernel
theorem bt_sorted : bootBuiltins "sorted" = some (.builtin "sorted") := by decide +kernel
theorem NFnO.mono {P : Program} {w : World} {K : PySem.W.Frag} {mg : Str → Option Value} {base : Heap} {k k' : Nat} {x : Str} {n : Nat} {g : NSt → R (List PyData)} (h : NFnO P w K mg base k x n g) (hk : k ≤ k') : NFnO P w K mg base k' x n g :=
  let ⟨f, fd, ps, F, m, kp, b⟩ := h.ex; ⟨f, fd, ps, F.mono hk, m, kp, b⟩
theorem NFl.mono {P : Program} {w : World} {K : PySem.W.Frag} {mg : Str → Option Value} {base : Heap} {k k' : Nat} {x : Str} {sub : Str → Str → Bool} {tbl : List Str} (h : NFl P w K mg base k x sub tbl) (hk : k ≤ k') : NFl P w K mg base k' x sub tbl :=
  let ⟨f, fd, ps, F, m, kp, b⟩ := h.ex; ⟨f, fd, ps, ⟨F.len, fun A outer s H args us vs Q p hr => F.run A outer s H args us vs Q p (hr.mono hk)⟩, m, kp, b⟩
/-- a new list if .. else a new list -/
def nIfO (t : NSt → R Bool) (f g : NSt → R (List PyData)) : NSt → R (List PyData) := fun n => (t n).bind fun b n' => if b = true then f n' else g n'
theorem neo_if {X : Cx} {W : WX} {c a b : Expr} {pos : Pos} {ft : NSt → R Bool} {va vb : NSt → R (List PyData)} (hc : NT X W c ft) (ha : NEo X W a va) (hb : NEo X W b vb) : NEo X W (.IfExp c a b pos) (nIfO ft va vb) := by
  obtain ⟨tc, pc, sc⟩ := hc.ex
  obtain ⟨ta, pa, sa⟩ := ha.ex
  obtain ⟨tb, pb, sb⟩ := hb.ex
  refine ⟨tIf tc ta tb, pe_ifExp pc pa pb, fun c Q S h => ?_⟩
  refine sc c _ S (Pst.seq (rel := relT) (rel' := relO X.K) mono_O h fun k n' k' H' F' _ st S' r q => ?_)
  cases r
  cases k with
  | true => exact iteT (sa ⟨n', c.s, H', F'⟩ Q S' q)
  | false => exact iteF (sb ⟨n', c.s, H', F'⟩ Q S' q)
/-! ### a def that promises nothing -/
section
variable {P : Program} {w : World} {K : PySem.W.Frag} {mg : Str → Option Value} {base : Heap}
theorem NFn.bad {x nm qual : Str} {params : Arguments} {sbody : List Stmt} {scope : Scope} {f : Addr} {fd : FuncData} {ps : List Str} {k n : Nat} (F : FunD K nm qual params sbody scope [] [] f fd) (hm : mg x = some (.ref f)) (hb : Binds K fd ps []) : NFn P w K mg base k x n (fun _ => .bad) :=
  ⟨f, fd, ps, ⟨fun _ _ _ _ h => by obtain ⟨_, _, _, _, _, _, h⟩ := h; exact h.elim, fun _ _ _ _ _ _ _ _ _ _ _ _ _ h => by obtain ⟨_, _, _, _, _, _, h⟩ := h; exact h.elim⟩, hm, F.kp, hb⟩
/-- where a def of the text stands -/
structure DefIn (K : PySem.W.Frag) (mg : Str → Option Value) (x py : Str) (st : Stmt) : Prop where
  ex : ∃ (f : Addr) (fd : FuncData), FunD K py py (defArgs st) (defBody st) (defScope st) [] [] f fd ∧ mg x = some (.ref f)
end
/-! ### facts of the written part -/
mutual
def valOk (K : PySem.W.Frag) : PyData → Value → Bool
  | .none, .none => true
  | .bool a, .bool b => a == b
  | .int i, .int j _ => decide (i = j)
  | .str a, .str b _ => decide (a = b)
  | .tuple ds, .ref a => match K.lookup a with
    | some ⟨.type c, _, .seq its _, _⟩ => decide (c = "tuple") && (decide (its.size ≤ sizeLine) && valsOk K ds its.toList)
    | _ => false
  | _, _ => false
def valsOk (K : PySem.W.Frag) : List PyData → List Value → Bool
  | [], [] => true
  | d :: ds, v :: vs => valOk K d v && valsOk K ds vs
  | _, _ => false
end
theorem Vals.mk {v : V} {u : Value} {vs : List V} {us : List Value} (h1 : RelV v u) (h2 : Vals vs us) : Vals (v :: vs) (u :: us) := .cons h1 h2
mutual
theorem valOk_ok {K : PySem.W.Frag} : ∀ (d : PyData) (v : Value), valOk K d v = true → ∃ w, RelV w v ∧ ∀ H F, Rep K H F d w
  | .none, v, h => by
    cases v <;> first | exact ⟨.non, rfl, fun _ _ => Rep.mkNone⟩ | (unfold valOk at h; cases h)
  | .bool a, v, h => by
    cases v <;> first | (unfold valOk at h; have e := eq_of_beq h; subst e; exact ⟨.bl a, rfl, fun _ _ => Rep.mkBool⟩) | (unfold valOk at h; cases h)
  | .int a, v, h => by
    cases v <;> first | (unfold valOk at h; have e := of_decide_eq_true h; subst e; exact ⟨.int a, ⟨_, rfl⟩, fun _ _ => Rep.mkInt⟩) | (unfold valOk at h; cases h)
  | .str a, v, h => by
    cases v <;> first | (unfold valOk at h; have e := of_decide_eq_true h; subst e; exact ⟨.str a, ⟨_, rfl⟩, fun _ _ => Rep.mkStr⟩) | (unfold valOk at h; cases h)
  | .tuple ds, v, h => by
    cases v with
    | ref a =>
      unfold valOk at h
      split at h
      · rename_i c od its n sl q
        obtain ⟨h1, h2⟩ := Bool.and_eq_true_iff.mp h
        obtain ⟨h2, h3⟩ := Bool.and_eq_true_iff.mp h2
        have h1 := of_decide_eq_true h1
        have h2 := of_decide_eq_true h2
        subst h1
        obtain ⟨ws, hv, hr⟩ := valsOk_ok ds _ h3
        exact ⟨.ref a, rfl, fun H F => Rep.mkTupK (fun H' => .inr ⟨_, its, n, q, rfl, rfl, h2, hv⟩) (hr H F)⟩
      · cases h
    | _ => unfold valOk at h; cases h
  | .list ds, v, h => by unfold valOk at h; cases h
  | .dict ds, v, h => by unfold valOk at h; cases h
theorem valsOk_ok {K : PySem.W.Frag} : ∀ (ds : List PyData) (vs : List Value), valsOk K ds vs = true → ∃ ws, Vals ws vs ∧ ∀ H F, Reps K H F ds ws
  | [], vs, h => by
    cases vs with
    | nil => exact ⟨[], .nil, fun _ _ => Reps.nil⟩
    | cons v vs => unfold valsOk at h; cases h
  | d :: ds, vs, h => by
    cases vs with
    | nil => unfold valsOk at h; cases h
    | cons v vs =>
      unfold valsOk at h
      obtain ⟨h1, h2⟩ := Bool.and_eq_true_iff.mp h
      obtain ⟨w, r1, r2⟩ := valOk_ok d v h1
      obtain ⟨ws, r3, r4⟩ := valsOk_ok ds vs h2
      exact ⟨w :: ws, .cons r1 r3, fun H F => Reps.cons (r2 H F) (r4 H F)⟩
end
inductive Fb where
  | dat (x : Str) (d : PyData)
  | excC (x : Str)
  | kit (x y : Str) (b : Bool)
def Fb.ok (K : PySem.W.Frag) : Fb → Bool
  | .dat x d => match PySem.W.nsIn K mainGlobals x with
    | some (some v) => valOk K d v
    | _ => false
  | .excC x => He.eqO (PySem.W.findIn K (.ref (He.ga K x)) "__getattribute__") (some (some (.builtin "BaseException.__getattribute__"))) && (He.eqO (PySem.W.findIn K (.ref (He.ga K x)) "__getattr__") (some none) && (decide (PySem.W.subIn K (.ref (He.ga K x)) (.type "BaseException") = some true) &&
    (PySem.W.hasDictIn K (He.ga K x) && (He.eqO (PySem.W.findIn K (.ref (He.ga K x)) "__class__") (some (some (.builtin "object.__class__"))) && (decide (PySem.W.takesIn K (.builtin "object.__class__") = some true) && decide (PySem.W.mroIn K (He.ga K x) (.type "object") = some true)))))) && He.eqO (PySem.W.specialIn K (.builtin "object.__class__") "__get__") (some (some (.builtin "getset_descriptor.__get__")))
  | .kit x y b => decide (PySem.W.kitOne K (.ref (He.ga K x)) (.ref (He.ga K y)) = some b)
section
variable {K : PySem.W.Frag} {h : Heap} {mg : Str → Option Value}
theorem dat_ok (X : K.In h) (G : h.Ns mainGlobals mg) {x : Str} {d : PyData} (c : (Fb.dat x d).ok K = true) : Gv K mg x d := by
  have c : (match PySem.W.nsIn K mainGlobals x with
    | some (some v) => valOk K d v
    | _ => false) = true := c
  split at c
  · rename_i v q
    obtain ⟨w, r, rr⟩ := valOk_ok d v c
    exact ⟨w, v, PySem.W.mg_of X G q, r, rr⟩
  · cases c
theorem gv_int {x : Str} {i : Int} (h : ∃ t, mg x = some (.int i t)) : Gv K mg x (.int i) := let ⟨t, e⟩ := h; ⟨.int i, _, e, ⟨t, rfl⟩, fun _ _ => Rep.mkInt⟩
theorem gv_str {x : Str} {i : Str} (h : ∃ t, mg x = some (.str i t)) : Gv K mg x (.str i) := let ⟨t, e⟩ := h; ⟨.str i, _, e, ⟨t, rfl⟩, fun _ _ => Rep.mkStr⟩
theorem excF_ok (X : K.In h) (G : h.Ns mainGlobals mg) {x : Str} (c : (He.Fa.exc x).ok K = true) (g : (He.Fa.glo x).ok K = true) : ExcF K mg x := by
  obtain ⟨h1, h2, h3, h4⟩ := He.exc_ok c
  exact ⟨_, He.glo_ok X G g, h1, h2, h3, h4⟩
theorem excC_ok {x : Str} (c : (Fb.excC x).ok K = true) : ExcC K (He.ga K x) := by
  unfold Fb.ok at c
  obtain ⟨c, hn⟩ := Bool.and_eq_true_iff.mp c
  obtain ⟨c1, c⟩ := Bool.and_eq_true_iff.mp c
  obtain ⟨c2, c⟩ := Bool.and_eq_true_iff.mp c
  obtain ⟨c3, c⟩ := Bool.and_eq_true_iff.mp c
  obtain ⟨c4, c⟩ := Bool.and_eq_true_iff.mp c
  obtain ⟨c5, c⟩ := Bool.and_eq_true_iff.mp c
  obtain ⟨c6, c7⟩ := Bool.and_eq_true_iff.mp c
  exact ⟨He.eqO_ok c1, He.eqO_ok c2, of_decide_eq_true c3, c4, He.eqO_ok c5, He.eqO_ok hn, of_decide_eq_true c6, of_decide_eq_true c7⟩
theorem kit_ok {x y : Str} {b : Bool} (c : (Fb.kit x y b).ok K = true) : PySem.W.kitOne K (.ref (He.ga K x)) (.ref (He.ga K y)) = some b := of_decide_eq_true c
end
/-! ### the head: facts of two sorts -/
abbrev AlM : Type := He.AlD × Bool
def obsM (n : Nat) (fa : List He.Fa) (fn : List He.DefD) (fb : List Fb) (g : Addr → Option Obj) : AlM := (He.obsDG n fa fn g, fb.all fun f => f.ok (He.frG g (He.asD g n)))
def hookM (n : Nat) (fa : List He.Fa) (fn : List He.DefD) (fb : List Fb) : PySem.W.Hook where
  α := AlM
  obs := fun s => obsM n fa fn fb s.heap.get?
  val := fun _ => (He.valD fn, true)
  says := fun _ h => ∃ K : PySem.W.Frag, K.In h ∧ He.SaysD fa fn K ∧ (fb.all fun f => f.ok K) = true
  of := fun _ s e => ⟨_, He.frG_in, congrArg (fun z : AlM => z.1) e, congrArg (fun z : AlM => z.2) e⟩
  keeps := fun _ _ _ ⟨K, hK, c⟩ k => ⟨K, PySem.W.Frag.In.keeps hK k, c⟩
theorem obsM_eq {n : Nat} {fa : List He.Fa} {fn : List He.DefD} {fb : List Fb} {g : Addr → Option Obj} {s : Shared} (h : ∀ a, g a = s.heap.get? a) : obsM n fa fn fb g = (hookM n fa fn fb).obs s := by
  have e : g = s.heap.get? := funext h
  rw [e] <;> rfl
theorem fb_at {K : PySem.W.Frag} {fb : List Fb} (c : (fb.all fun f => f.ok K) = true) (i : Nat) {f : Fb} (h : fb[i]? = some f := by rfl) : f.ok K = true := List.all_eq_true.mp c f (List.mem_of_getElem? h)
/-! ### the end -/
/-- what nothing of an error lets out -/
def CXe : CXT := fun _ _ _ E _ _ => ∃ (cls : Value) (d : Option Addr) (H' : Hp), E cls d H'
theorem FnOk.toE {P : Program} {w : World} {K : PySem.W.Frag} {mg : Str → Option Value} {base : Heap} {k : Nat} {f : Addr} {fd : FuncData} {ps : List Str} {sp : Sp} (F : FnOk P w K mg base (L2.CX P w) k f fd ps sp) : FnOk P w K mg base CXe k f fd ps sp := by
  refine ⟨F.len, fun A outer s H args us vs Q E hr he hb hv hs => codeAny_mono (F.run A outer s H args us vs Q E hr he hb hv hs) fun r s' q => ?_⟩
  cases r with
  | ok fl => cases fl <;> exact q
  | error e =>
    obtain ⟨a, B, H', cls, d, _, _, _, _, _, _, _, q⟩ := q
    exact ⟨cls, d, H', q⟩
end NL
end L2
/-! NL12: the end of a law. -/
namespace L2
namespace NL
open PySem PySem.Spec PyProof.Rows
theorem fall_nil {p : Str → Prop} : ∀ t ∈ ([] : List Str), p t := fun _ h => by cases h
theorem fall_cons {p : Str → Prop} {a : Str} {l : List Str} (h : p a) (r : ∀ t ∈ l, p t) : ∀ t ∈ a :: l, p t := fun t q => by
  rcases List.mem_cons.mp q with e | e
  · subst e; exact h
  · exact r t e
theorem law_end {K : PySem.W.Frag} {mg : Str → Option Value} {g : NExp} {m : Nat} (h : ∀ ns : List Int, ns.length ≤ m → ∃ n' : NSt, g [some (.scr (ns.map .int))] = .ok (.bool true) n') :
    ∀ (H : Hp) (a : Addr) (ns : List Int), ns.length ≤ m → Only H → SqL K H a (ns.map V.int) → NProm K mg 1 g [.ref a] H (fun v _ => v = .bl true) fun _ _ _ => False := by
  intro H a ns hl hO hS
  obtain ⟨n', e⟩ := h ns hl
  refine ⟨[some (.scr (ns.map .int))], fun _ => False, rfl, fun i xs q => ?_, fun o q => ?_, ⟨rfl, fun i sl q => ?_, fun i j si sj b q1 q2 h1 h2 _ _ => ?_, fun _ z => z.elim⟩, ?_⟩
  · cases i with
    | zero => cases q
    | succ i => cases q
  · rcases List.mem_cons.mp q with q | q
    · rw [q]; simp
    · cases q
  · cases i with
    | zero =>
      have q : some (some (Sl.scr (ns.map PyData.int))) = some (some sl) := q
      cases q
      refine ⟨.ref a, rfl, a, ns, rfl, rfl, ?_⟩
      rcases hS with (hS | ⟨o, hS⟩) | ⟨o, its, n, q1, q2, q3, q4, q5, q6⟩
      · rcases hO a with z | ⟨o, xs, z⟩
        · rw [z] at hS; cases hS
        · rw [z] at hS; cases hS
      · exact .inl ⟨o, hS⟩
      · exact .inr fun H' => .inr ⟨o, its, n, q1, q2, q3, q4, q5, q6⟩
    | succ i => cases q
  · cases i with
    | zero =>
      have q1 : some (some (Sl.scr (ns.map PyData.int))) = some (some si) := q1
      cases q1
      cases h1
    | succ i => cases q1
  · rw [e]
    intro b H' F' _ _ r
    exact Rep.bool (K := K) (H := H') (F := F') r
end NL
end L2
/-! M1: what plain texts do, without the machine. -/
namespace L2
namespace NL
open PySem PySem.Spec PyProof.Rows
section
variable {α β : Type}
/-- a mark that hangs on what simp is to leave alone -/
structure Tg {α : Sort u} (a : α) : Type where mk ::
structure Tg4 {α β γ δ : Sort u} (a : α) (b : β) (c : γ) (d : δ) : Type where mk ::
def Wp (r : R α) (P : α → NSt → Prop) (_ : Tg P := .mk) : Prop := match r with
  | .ok a n => P a n
  | _ => False
theorem wp_ext {r : R α} {P Q : α → NSt → Prop} (h : ∀ a n, P a n = Q a n) : Wp r P = Wp r Q := by
  rw [show P = Q from funext fun a => funext fun n => h a n]
def WpS (r : NR) (Nx : NSt → Prop) (Rt : PyData → NSt → Prop) (Bk Ct : NSt → Prop) (_ : Tg4 Nx Rt Bk Ct := .mk) : Prop := match r with
  | .nx n => Nx n
  | .ret d n => Rt d n
  | .brk n => Bk n
  | .ct n => Ct n
  | _ => False
@[simp ↓] theorem wp_ok {a : α} {n : NSt} {P : α → NSt → Prop} : Wp (.ok a n) P = P a n := id rfl
@[simp ↓] theorem wp_bad {P : α → NSt → Prop} : Wp (.bad) P = False := id rfl
@[simp ↓] theorem wp_err {x : NX} {n : NSt} {P : α → NSt → Prop} : Wp (.err x n) P = False := id rfl
@[simp ↓] theorem wp_bind {r : R α} {k : α → NSt → R β} {P : β → NSt → Prop} : Wp (r.bind k) P = Wp r fun a n => Wp (k a n) P := by cases r <;> rfl
@[simp ↓] theorem wps_st {r : R α} {k : α → NSt → NR} {Nx : NSt → Prop} {Rt : PyData → NSt → Prop} {Bk Ct : NSt → Prop} : WpS (r.st k) Nx Rt Bk Ct = Wp r fun a n => WpS (k a n) Nx Rt Bk Ct := by cases r <;> rfl
@[simp ↓] theorem wps_nx {n : NSt} {Nx : NSt → Prop} {Rt : PyData → NSt → Prop} {Bk Ct : NSt → Prop} : WpS (.nx n) Nx Rt Bk Ct = Nx n := id rfl
@[simp ↓] theorem wps_ret {d : PyData} {n : NSt} {Nx : NSt → Prop} {Rt : PyData → NSt → Prop} {Bk Ct : NSt → Prop} : WpS (.ret d n) Nx Rt Bk Ct = Rt d n := id rfl
@[simp ↓] theorem wps_brk {n : NSt} {Nx : NSt → Prop} {Rt : PyData → NSt → Prop} {Bk Ct : NSt → Prop} : WpS (.brk n) Nx Rt Bk Ct = Bk n := id rfl
@[simp ↓] theorem wps_ct {n : NSt} {Nx : NSt → Prop} {Rt : PyData → NSt → Prop} {Bk Ct : NSt → Prop} : WpS (.ct n) Nx Rt Bk Ct = Ct n := id rfl
@[simp ↓] theorem wps_bad {Nx : NSt → Prop} {Rt : PyData → NSt → Prop} {Bk Ct : NSt → Prop} : WpS .bad Nx Rt Bk Ct = False := id rfl
@[simp ↓] theorem wps_seq {f g : NStm} {n : NSt} {Nx : NSt → Prop} {Rt : PyData → NSt → Prop} {Bk Ct : NSt → Prop} : WpS (sSeq f g n) Nx Rt Bk Ct = WpS (f n) (fun n' => WpS (g n') Nx Rt Bk Ct) Rt Bk Ct := by
  unfold sSeq
  cases f n <;> rfl
theorem wps_sq {f g : NStm} {n : NSt} {Nx : NSt → Prop} {Rt : PyData → NSt → Prop} {Bk Ct : NSt → Prop} (h : WpS (f n) (fun n' => WpS (g n') Nx Rt Bk Ct) Rt Bk Ct) : WpS (sSeq f g n) Nx Rt Bk Ct := by
  rw [wps_seq]
  exact h
@[simp ↓] theorem wps_nil {n : NSt} {Nx : NSt → Prop} {Rt : PyData → NSt → Prop} {Bk Ct : NSt → Prop} : WpS (sNil n) Nx Rt Bk Ct = Nx n := id rfl
theorem wps_if {t : NSt → R Bool} {f g : NStm} {n : NSt} {Nx : NSt → Prop} {Rt : PyData → NSt → Prop} {Bk Ct : NSt → Prop} : WpS (sIf t f g n) Nx Rt Bk Ct = Wp (t n) fun b n' => WpS (if b = true then f n' else g n') Nx Rt Bk Ct := by
  unfold sIf
  rw [wps_st]
theorem wps_ite {c : Prop} [Decidable c] {a b : NR} {Nx : NSt → Prop} {Rt : PyData → NSt → Prop} {Bk Ct : NSt → Prop} : WpS (if c then a else b) Nx Rt Bk Ct = ((c → WpS a Nx Rt Bk Ct) ∧ (¬ c → WpS b Nx Rt Bk Ct)) := by
  by_cases h : c
  · simp -dsimp [h]
  · simp -dsimp [h]
theorem wp_ite {c : Prop} [Decidable c] {a b : R α} {P : α → NSt → Prop} : Wp (if c then a else b) P = ((c → Wp a P) ∧ (¬ c → Wp b P)) := by
  by_cases h : c
  · simp -dsimp [h]
  · simp -dsimp [h]
theorem wp_run {N : Nat} {body : NStm} {a : NSt} {P : PyData → NSt → Prop} : Wp (runD N body a) P = WpS (body (a ++ List.replicate (N - a.length) none)) (fun n' => P .none (outs a n')) (fun d n' => P d (outs a n')) (fun _ => False) (fun _ => False) := by
  unfold runD
  cases body (a ++ List.replicate (N - a.length) none) <;> rfl
theorem wp_of {r : R α} {a : α} {n : NSt} {P : α → NSt → Prop} (e : r = .ok a n) (h : P a n) : Wp r P := by rw [e]; exact h
theorem wp_mono {r : R α} {P Q : α → NSt → Prop} (h : Wp r P) (hq : ∀ a n, P a n → Q a n) : Wp r Q := by
  cases r with
  | ok a n => exact hq a n h
  | _ => exact h
theorem wp_eq {r : R α} {a : α} {n : NSt} (h : Wp r fun b m => b = a ∧ m = n) : r = .ok a n := by
  cases r with
  | ok b m => obtain ⟨rfl, rfl⟩ := h; rfl
  | _ => exact h.elim
theorem wps_mono {r : NR} {Nx Nx' : NSt → Prop} {Rt Rt' : PyData → NSt → Prop} {Bk Bk' Ct Ct' : NSt → Prop} (h : WpS r Nx Rt Bk Ct) (h1 : ∀ n, Nx n → Nx' n) (h2 : ∀ d n, Rt d n → Rt' d n) (h3 : ∀ n, Bk n → Bk' n) (h4 : ∀ n, Ct n → Ct' n) : WpS r Nx' Rt' Bk' Ct' := by
  cases r with
  | nx n => exact h1 n h
  | ret d n => exact h2 d n h
  | brk n => exact h3 n h
  | ct n => exact h4 n h
  | _ => exact h
/-- a walk over a row -/
theorem wps_forL {g : PyData → NSt → Option NSt} {body : NStm} {Nx : NSt → Prop} {Rt : PyData → NSt → Prop} {Bk Ct : NSt → Prop} (I : List PyData → NSt → Prop)
    (step : ∀ d ds n, I (d :: ds) n → ∃ n1, g d n = some n1 ∧ WpS (body n1) (I ds) Rt Nx (I ds)) (fin : ∀ n, I [] n → Nx n) : ∀ (ds : List PyData) (n : NSt), I ds n → WpS (sForL g body ds n) Nx Rt Bk Ct
  | [], n, h => by
    unfold sForL
    exact fin n h
  | d :: ds, n, h => by
    obtain ⟨n1, e, w⟩ := step d ds n h
    unfold sForL
    rw [e]
    show WpS (match body n1 with
      | .nx n2 => sForL g body ds n2
      | .ct n2 => sForL g body ds n2
      | .brk n2 => .nx n2
      | r => r) Nx Rt Bk Ct
    cases q : body n1 with
    | nx n2 => rw [q] at w; exact wps_forL I step fin ds n2 w
    | ct n2 => rw [q] at w; exact wps_forL I step fin ds n2 w
    | brk n2 => rw [q] at w; exact w
    | ret d n2 => rw [q] at w; exact w
    | err x n2 => rw [q] at w; exact w
    | bad => rw [q] at w; exact w
theorem wps_for {fi : NSt → R (List PyData)} {g : PyData → NSt → Option NSt} {body : NStm} {n : NSt} {Nx : NSt → Prop} {Rt : PyData → NSt → Prop} {Bk Ct : NSt → Prop} : WpS (sFor fi g body n) Nx Rt Bk Ct = Wp (fi n) fun ds n1 => WpS (sForL g body ds n1) Nx Rt Bk Ct := by
  unfold sFor
  rw [wps_st]
/-- a comprehension's walk -/
theorem wp_lcL {g : PyData → NSt → Option NSt} {t : NSt → R Bool} {f : NExp} {vs : List Nat} {P : List PyData → NSt → Prop} (I : List PyData → List PyData → NSt → Prop)
    (step : ∀ d ds acc n, I (d :: ds) acc n → ∃ n1, g d n = some n1 ∧ Wp (t n1) fun b n2 => if b = true then Wp (f n2) fun y n3 => acc.length < sizeLine ∧ I ds (acc ++ [y]) (wipeN n3 vs) else I ds acc (wipeN n2 vs)) (fin : ∀ acc n, I [] acc n → P acc n) :
    ∀ (ds acc : List PyData) (n : NSt), I ds acc n → Wp (nLcL g t f vs ds acc n) P
  | [], acc, n, h => by
    unfold nLcL
    exact fin acc n h
  | d :: ds, acc, n, h => by
    obtain ⟨n1, e, w⟩ := step d ds acc n h
    unfold nLcL
    rw [e]
    dsimp only
    rw [wp_bind]
    refine wp_mono w fun b n2 h2 => ?_
    split at h2
    · rename_i hb
      rw [if_pos hb, wp_bind]
      refine wp_mono h2 fun y n3 h3 => ?_
      rw [if_pos h3.1]
      exact wp_lcL I step fin ds _ _ h3.2
    · rename_i hb
      rw [if_neg hb]
      exact wp_lcL I step fin ds _ _ h2
theorem wp_lc {fi : NSt → R (List PyData)} {g : PyData → NSt → Option NSt} {t : NSt → R Bool} {f : NExp} {vs : List Nat} {n : NSt} {P : List PyData → NSt → Prop} :
    Wp (nLc fi g t f vs n) P = Wp (fi n) fun ds n1 => noHeld n1 vs = true ∧ Wp (nLcL g t f vs ds [] (wipeN n1 vs)) fun acc n2 => P acc (restoreN n2 n1 vs) := by
  unfold nLc
  rw [wp_bind]
  refine wp_ext fun ds n1 => ?_
  by_cases h : noHeld n1 vs = true
  · rw [if_pos h]
    cases nLcL g t f vs ds [] (wipeN n1 vs) <;> simp -dsimp [h, Wp]
  · rw [if_neg h]
    simp -dsimp [h]
/-- one that changes nothing: filtered, mapped -/
theorem lcL_pure {g : PyData → NSt → Option NSt} {t : NSt → R Bool} {f : NExp} {vs : List Nat} {n : NSt} (p : PyData → Bool) (F : PyData → PyData) : ∀ (ds acc : List PyData),
    (∀ d ∈ ds, ∃ n1, g d n = some n1 ∧ t n1 = .ok (p d) n1 ∧ (p d = true → f n1 = .ok (F d) n1) ∧ wipeN n1 vs = n) → acc.length + ds.length ≤ sizeLine → nLcL g t f vs ds acc n = .ok (acc ++ (ds.filter p).map F) n
  | [], acc, _, _ => by
    unfold nLcL
    simp -dsimp
  | d :: ds, acc, h, hl => by
    obtain ⟨n1, e, et, ef, ew⟩ := h d List.mem_cons_self
    have hl : acc.length + (ds.length + 1) ≤ sizeLine := hl
    unfold nLcL
    rw [e]
    dsimp only
    rw [et]
    show (if p d = true then (f n1).bind fun y n3 => if acc.length < sizeLine then nLcL g t f vs ds (acc ++ [y]) (wipeN n3 vs) else .bad else nLcL g t f vs ds acc (wipeN n1 vs)) = _
    by_cases hp : p d = true
    · rw [if_pos hp, ef hp]
      show (if acc.length < sizeLine then nLcL g t f vs ds (acc ++ [F d]) (wipeN n1 vs) else .bad) = _
      rw [if_pos (by omega), ew, lcL_pure p F ds (acc ++ [F d]) (fun x hx => h x (List.mem_cons_of_mem _ hx)) (by simp -dsimp; omega), List.filter_cons_of_pos hp]
      simp -dsimp
    · rw [if_neg hp, ew, lcL_pure p F ds acc (fun x hx => h x (List.mem_cons_of_mem _ hx)) (by omega), List.filter_cons_of_neg hp]
theorem lc_pure {fi : NSt → R (List PyData)} {g : PyData → NSt → Option NSt} {t : NSt → R Bool} {f : NExp} {vs : List Nat} {n : NSt} {ds : List PyData} (p : PyData → Bool) (F : PyData → PyData) (hi : fi n = .ok ds n) (hn : noHeld n vs = true)
    (h : ∀ d ∈ ds, ∃ n1, g d (wipeN n vs) = some n1 ∧ t n1 = .ok (p d) n1 ∧ (p d = true → f n1 = .ok (F d) n1) ∧ wipeN n1 vs = wipeN n vs) (hl : ds.length ≤ sizeLine) (hr : restoreN (wipeN n vs) n vs = n) : nLc fi g t f vs n = .ok ((ds.filter p).map F) n := by
  unfold nLc
  rw [hi]
  show (if noHeld n vs = true then (match nLcL g t f vs ds [] (wipeN n vs) with
    | .ok acc n2 => R.ok acc (restoreN n2 n vs)
    | _ => R.bad) else R.bad) = _
  rw [if_pos hn, lcL_pure p F ds [] h (by simpa using hl)]
  simp -dsimp [hr]
end
/-! ### what guards a continuation: simp -dsimp goes into it when its head is known -/
def onO {α : Type} (o : Option α) (k : α → Prop) (_ : Tg k := .mk) : Prop := match o with
  | some z => k z
  | none => False
def onB (d : PyData) (k : Bool → Prop) (_ : Tg k := .mk) : Prop := match d with
  | .bool b => k b
  | _ => False
def onI (d : PyData) (k : Int → Prop) (_ : Tg k := .mk) : Prop := match d with
  | .int b => k b
  | _ => False
def onL (d : PyData) (k : List PyData → Prop) (_ : Tg k := .mk) : Prop := match d with
  | .list b => k b
  | _ => False
def onSl (o : Option (Option Sl)) (kv : PyData → Prop) (ko kl ks : List PyData → Prop) (_ : Tg4 kv ko kl ks := .mk) : Prop := match o with
  | some (some (.val d)) => kv d
  | some (some (.own xs)) => ko xs
  | some (some (.lent xs)) => kl xs
  | some (some (.scr xs)) => ks xs
  | _ => False
def Br (c : Bool) (a b : Prop) (_ : Tg a := .mk) (_ : Tg b := .mk) : Prop := (c = true → a) ∧ (c = false → b)
theorem onO_congr {α : Type} {o o' : Option α} {k : α → Prop} (h : o = o') : onO o k = onO o' k := by rw [h]
theorem onB_congr {o o' : PyData} {k : Bool → Prop} (h : o = o') : onB o k = onB o' k := by rw [h]
theorem onI_congr {o o' : PyData} {k : Int → Prop} (h : o = o') : onI o k = onI o' k := by rw [h]
theorem onL_congr {o o' : PyData} {k : List PyData → Prop} (h : o = o') : onL o k = onL o' k := by rw [h]
theorem onSl_congr {o o' : Option (Option Sl)} {kv : PyData → Prop} {ko kl ks : List PyData → Prop} (h : o = o') : onSl o kv ko kl ks = onSl o' kv ko kl ks := by rw [h]
theorem Br_congr {c c' : Bool} {a b : Prop} (h : c = c') : Br c a b = Br c' a b := by rw [h]
@[simp] theorem onO_some {α : Type} {z : α} {k : α → Prop} : onO (some z) k = k z := id rfl
@[simp] theorem onO_none {α : Type} {k : α → Prop} : onO none k = False := id rfl
@[simp] theorem onO_ite {α : Type} {c : Prop} [Decidable c] {z : α} {k : α → Prop} : onO (if c then some z else none) k = (c ∧ k z) := by
  by_cases h : c <;> simp -dsimp [h]
@[simp] theorem onO_ite' {α : Type} {c : Prop} [Decidable c] {z : α} {k : α → Prop} : onO (if c then none else some z) k = (¬ c ∧ k z) := by
  by_cases h : c <;> simp -dsimp [h]
@[simp] theorem onB_bool {b : Bool} {k : Bool → Prop} : onB (.bool b) k = k b := id rfl
@[simp] theorem onI_int {b : Int} {k : Int → Prop} : onI (.int b) k = k b := id rfl
@[simp] theorem onL_list {b : List PyData} {k : List PyData → Prop} : onL (.list b) k = k b := id rfl
@[simp] theorem onSl_val {d : PyData} {kv : PyData → Prop} {ko kl ks : List PyData → Prop} : onSl (some (some (.val d))) kv ko kl ks = kv d := id rfl
@[simp] theorem onSl_own {d : List PyData} {kv : PyData → Prop} {ko kl ks : List PyData → Prop} : onSl (some (some (.own d))) kv ko kl ks = ko d := id rfl
@[simp] theorem onSl_lent {d : List PyData} {kv : PyData → Prop} {ko kl ks : List PyData → Prop} : onSl (some (some (.lent d))) kv ko kl ks = kl d := id rfl
@[simp] theorem onSl_scr {d : List PyData} {kv : PyData → Prop} {ko kl ks : List PyData → Prop} : onSl (some (some (.scr d))) kv ko kl ks = ks d := id rfl
@[simp] theorem Br_true {a b : Prop} : Br true a b = a := by simp -dsimp [Br]
@[simp] theorem Br_false {a b : Prop} : Br false a b = b := by simp -dsimp [Br]
theorem Br_mk {c : Bool} {a b : Prop} (h1 : c = true → a) (h2 : c = false → b) : Br c a b := ⟨h1, h2⟩
theorem wp_congr {α : Type} {r r' : R α} {P : α → NSt → Prop} (h : r = r') : Wp r P = Wp r' P := by rw [h]
theorem wps_congr {r r' : NR} {Nx : NSt → Prop} {Rt : PyData → NSt → Prop} {Bk Ct : NSt → Prop} (h : r = r') : WpS r Nx Rt Bk Ct = WpS r' Nx Rt Bk Ct := by rw [h]
/-! ### the joints -/
section
variable {α : Type} {n : NSt} {i j : Nat} {P : PyData → NSt → Prop} {Pa : AV → NSt → Prop} {Pb : Bool → NSt → Prop} {Pl : List AV → NSt → Prop} {Pd : List PyData → NSt → Prop} {f g : NExp} {p q u : Opd} {d : PyData} {t : NSt → R Bool}
  {Nx : NSt → Prop} {Rt : PyData → NSt → Prop} {Bk Ct : NSt → Prop} {fs : NSt → R (List AV)}
def isV (n : NSt) (i : Nat) (P : PyData → Prop) : Prop := match n[i]? with
  | some (some (.val d)) => P d
  | _ => False
@[simp ↓] theorem wp_nV : Wp (nV i n) P = onSl n[i]? (fun d => P d n) (fun _ => False) (fun _ => False) (fun _ => False) := by
  unfold nV
  generalize n[i]? = o
  rcases o with _ | _ | sl <;> first | rfl | (cases sl <;> rfl)
@[simp ↓] theorem wp_nF : Wp (nF i n) P = onSl n[i]? (fun d => P d n) (fun xs => P (.list xs) (n.set i (some (.val (.list xs))))) (fun _ => False) (fun _ => False) := by
  unfold nF
  generalize n[i]? = o
  rcases o with _ | _ | sl <;> first | rfl | (cases sl <;> rfl)
@[simp ↓] theorem wp_nC : Wp (nC d n) P = P d n := id rfl
@[simp ↓] theorem wp_oe : Wp (Opd.run (.e f) n) Pa = Wp (f n) fun d n' => Pa (.v d) n' := by
  show Wp ((f n).bind _) Pa = _
  rw [wp_bind]
  rfl
@[simp ↓] theorem wp_oo : Wp (Opd.run (.o i) n) Pa = onSl n[i]? (fun d => Pa (.v d) n) (fun _ => Pa (.o i) n) (fun _ => Pa (.o i) n) (fun _ => Pa (.o i) n) := by
  unfold Opd.run
  dsimp only
  generalize n[i]? = o
  rcases o with _ | _ | sl <;> first | rfl | (cases sl <;> rfl)
@[simp] theorem get_v : AV.get (.v d) n = some d := id rfl
@[simp] theorem get_o : AV.get (.o i) n = match n[i]? with
  | some (some sl) => sl.list?.map PyData.list
  | _ => none := id rfl
@[simp] theorem list?_own {xs : List PyData} : Sl.list? (.own xs) = some xs := id rfl
@[simp] theorem list?_lent {xs : List PyData} : Sl.list? (.lent xs) = some xs := id rfl
@[simp] theorem put_own {xs ys : List PyData} : Sl.put (.own xs) ys = .own ys := id rfl
@[simp] theorem put_lent {xs ys : List PyData} : Sl.put (.lent xs) ys = .lent ys := id rfl
theorem liftO_some {z : α} : liftO (some z) n = .ok z n := rfl
@[simp ↓] theorem wp_lift {o : Option α} {P : α → NSt → Prop} : Wp (liftO o n) P = onO o fun z => P z n := by
  cases o <;> rfl
@[simp ↓] theorem wp_op2 {o : PyData → PyData → Option PyData} : Wp (nOp2 o p q n) P = Wp (p.run n) fun a n1 => Wp (q.run n1) fun b n2 => onO (a.get n2) fun x => onO (b.get n2) fun y => onO (o x y) fun z => P z n2 := by
  unfold nOp2
  rw [wp_bind]
  refine wp_ext fun a n1 => ?_
  rw [wp_bind]
  refine wp_ext fun b n2 => ?_
  cases ea : a.get n2 <;> cases eb : b.get n2 <;> simp -dsimp
@[simp ↓] theorem wp_aNil : Wp (aNil n) Pl = Pl [] n := id rfl
@[simp ↓] theorem wp_aCons : Wp (aCons p fs n) Pl = Wp (p.run n) fun a n1 => Wp (fs n1) fun as n2 => Pl (a :: as) n2 := by
  unfold aCons
  rw [wp_bind]
  refine wp_ext fun a n1 => ?_
  rw [wp_bind]
  rfl
@[simp] theorem getAll_nil : getAll n [] = some [] := id rfl
@[simp] theorem getAll_cons {a : AV} {as : List AV} : getAll n (a :: as) = match a.get n, getAll n as with
  | some d, some ds => some (d :: ds)
  | _, _ => none := id rfl
@[simp] theorem plains_nil : nTup.plains [] = some [] := id rfl
@[simp] theorem plains_cons {as : List AV} : nTup.plains (.v d :: as) = (nTup.plains as).map (d :: ·) := id rfl
@[simp ↓] theorem wp_cb {o : List PyData → Option PyData} : Wp (nCB o fs n) P = Wp (fs n) fun as n1 => onO (getAll n1 as) fun ds => onO (o ds) fun z => P z n1 := by
  unfold nCB
  rw [wp_bind]
  refine wp_ext fun as n1 => ?_
  cases e : getAll n1 as <;> simp -dsimp
@[simp ↓] theorem wp_tup : Wp (nTup fs n) P = Wp (fs n) fun as n1 => onO (nTup.plains as) fun ds => ds.length ≤ sizeLine ∧ P (.tuple ds) n1 := by
  unfold nTup
  rw [wp_bind]
  refine wp_ext fun as n1 => ?_
  cases e : nTup.plains as with
  | none => simp -dsimp
  | some ds => by_cases h : ds.length ≤ sizeLine <;> simp -dsimp [h]
@[simp ↓] theorem wp_lstO : Wp (nLstO fs n) Pd = Wp (fs n) fun as n1 => onO (nTup.plains as) fun ds => ds.length ≤ sizeLine ∧ Pd ds n1 := by
  unfold nLstO
  rw [wp_bind]
  refine wp_ext fun as n1 => ?_
  cases e : nTup.plains as with
  | none => simp -dsimp
  | some ds => by_cases h : ds.length ≤ sizeLine <;> simp -dsimp [h]
@[simp ↓] theorem wp_nL {fo : NSt → R (List PyData)} : Wp (nL fo n) P = Wp (fo n) fun xs n' => P (.list xs) n' := by
  unfold nL
  rw [wp_bind]
  rfl
@[simp ↓] theorem wp_asB : Wp (asB f n) Pb = Wp (f n) fun d n' => onB d fun b => Pb b n' := by
  unfold asB
  rw [wp_bind]
  refine wp_ext fun d n' => ?_
  cases d <;> rfl
@[simp ↓] theorem wp_asT : Wp (asT p n) Pb = Wp (p.run n) fun a n' => onO (a.get n') fun d => onO (truthOf d) fun b => Pb b n' := by
  unfold asT
  rw [wp_bind]
  refine wp_ext fun a n' => ?_
  cases e : a.get n' <;> simp -dsimp
@[simp ↓] theorem wp_tAnd {s t : NSt → R Bool} : Wp (tAnd' s t n) Pb = Wp (s n) fun b n' => Br b (Wp (t n') Pb) (Pb false n') := by
  unfold tAnd'
  rw [wp_bind]
  refine wp_ext fun b n' => ?_
  cases b <;> simp -dsimp
@[simp ↓] theorem wp_tOr {s t : NSt → R Bool} : Wp (tOr' s t n) Pb = Wp (s n) fun b n' => Br b (Pb true n') (Wp (t n') Pb) := by
  unfold tOr'
  rw [wp_bind]
  refine wp_ext fun b n' => ?_
  cases b <;> simp -dsimp
@[simp ↓] theorem wp_tNot : Wp (tNot' t n) Pb = Wp (t n) fun b n' => Pb (!b) n' := by
  unfold tNot'
  rw [wp_bind]
  rfl
@[simp ↓] theorem wp_tYes : Wp (tYesN n) Pb = Pb true n := id rfl
@[simp ↓] theorem wp_nAnd : Wp (nAnd f g n) P = Wp (f n) fun d n' => onB d fun b => Br b (Wp (g n') P) (P (.bool false) n') := by
  unfold nAnd
  rw [wp_bind]
  refine wp_ext fun d n' => ?_
  cases d with
  | bool b => cases b <;> simp -dsimp
  | _ => rfl
@[simp ↓] theorem wp_nOr : Wp (nOr f g n) P = Wp (f n) fun d n' => onB d fun b => Br b (P (.bool true) n') (Wp (g n') P) := by
  unfold nOr
  rw [wp_bind]
  refine wp_ext fun d n' => ?_
  cases d with
  | bool b => cases b <;> simp -dsimp
  | _ => rfl
@[simp ↓] theorem wp_nNot : Wp (nNot f n) P = Wp (f n) fun d n' => onB d fun b => P (.bool (!b)) n' := by
  unfold nNot
  rw [wp_bind]
  refine wp_ext fun d n' => ?_
  cases d <;> rfl
@[simp ↓] theorem wp_nNeg : Wp (nNeg f n) P = Wp (f n) fun d n' => onI d fun i => P (.int (-i)) n' := by
  unfold nNeg
  rw [wp_bind]
  refine wp_ext fun d n' => ?_
  cases d <;> rfl
@[simp ↓] theorem wp_nIf : Wp (nIf t f g n) P = Wp (t n) fun b n' => Br b (Wp (f n') P) (Wp (g n') P) := by
  unfold nIf
  rw [wp_bind]
  refine wp_ext fun b n' => ?_
  cases b <;> simp -dsimp
@[simp ↓] theorem wp_nIfO {fo go : NSt → R (List PyData)} : Wp (nIfO t fo go n) Pd = Wp (t n) fun b n' => Br b (Wp (fo n') Pd) (Wp (go n') Pd) := by
  unfold nIfO
  rw [wp_bind]
  refine wp_ext fun b n' => ?_
  cases b <;> simp -dsimp
@[simp ↓] theorem wp_isi {T : String} : Wp (nIsi T p n) P = Wp (p.run n) fun a n1 => onO (a.get n1) fun d => P (.bool (isTy T d)) n1 := by
  unfold nIsi
  rw [wp_bind]
  refine wp_ext fun a n1 => ?_
  cases e : a.get n1 <;> simp -dsimp
@[simp ↓] theorem wp_chain {o o' : PyData → PyData → Option PyData} : Wp (nChain o o' p q u n) P = Wp (p.run n) fun x n1 => Wp (q.run n1) fun y n2 => onO (x.get n2) fun dx => onO (y.get n2) fun dy => onO (o dx dy) fun w => onB w fun b =>
    Br b (Wp (u.run n2) fun z n3 => onO (y.get n3) fun ey => onO (z.get n3) fun dz => onO (o' ey dz) fun w => P w n3) (P (.bool false) n2) := by
  unfold nChain
  rw [wp_bind]
  refine wp_ext fun x n1 => ?_
  rw [wp_bind]
  refine wp_ext fun y n2 => ?_
  cases ex : x.get n2 with
  | none => simp -dsimp
  | some dx =>
    cases ey : y.get n2 with
    | none => simp -dsimp
    | some dy =>
      simp -dsimp only [onO_some]
      cases eo : o dx dy with
      | none => simp -dsimp
      | some w =>
        cases w with
        | bool b =>
          cases b with
          | false => simp -dsimp
          | true =>
            simp -dsimp only [wp_bind, onO_some, onB_bool, Br_true]
            refine wp_ext fun z n3 => ?_
            cases ez : y.get n3 <;> cases ew : z.get n3 <;> simp -dsimp
        | _ => simp -dsimp [onB]
@[simp ↓] theorem wps_sRet : WpS (sRet f n) Nx Rt Bk Ct = Wp (f n) fun d n' => Rt d n' := by
  unfold sRet
  rw [wps_st]
  rfl
@[simp ↓] theorem wps_sExpr : WpS (sExpr f n) Nx Rt Bk Ct = Wp (f n) fun _ n' => Nx n' := by
  unfold sExpr
  rw [wps_st]
  rfl
@[simp ↓] theorem wps_sAsg {gg : PyData → NSt → Option NSt} : WpS (sAsg f gg n) Nx Rt Bk Ct = Wp (f n) fun d n1 => onO (gg d n1) Nx := by
  unfold sAsg
  rw [wps_st]
  refine wp_ext fun d n1 => ?_
  cases gg d n1 <;> simp -dsimp
@[simp ↓] theorem wps_sOwn {fo : NSt → R (List PyData)} : WpS (sOwn i fo n) Nx Rt Bk Ct = Wp (fo n) fun xs n1 => notLent n1 i = true ∧ Nx (n1.set i (some (.own xs))) := by
  unfold sOwn
  rw [wps_st]
  refine wp_ext fun d n1 => ?_
  by_cases h : notLent n1 i = true <;> simp -dsimp [h]
@[simp ↓] theorem wps_sSetL {fo : NSt → R (List PyData)} : WpS (sSetL i fo n) Nx Rt Bk Ct = Wp (fo n) fun xs n1 => notLent n1 i = true ∧ Nx (n1.set i (some (.val (.list xs)))) := by
  unfold sSetL
  rw [wps_st]
  refine wp_ext fun d n1 => ?_
  by_cases h : notLent n1 i = true <;> simp -dsimp [h]
@[simp ↓] theorem wps_sIf {a b : NStm} : WpS (sIf t a b n) Nx Rt Bk Ct = Wp (t n) fun c n' => Br c (WpS (a n') Nx Rt Bk Ct) (WpS (b n') Nx Rt Bk Ct) := by
  unfold sIf
  rw [wps_st]
  refine wp_ext fun c n' => ?_
  cases c <;> simp -dsimp
@[simp] theorem gN_eq : gN i d n = if notLent n i = true then some (n.set i (some (.val d))) else none := id rfl
@[simp] theorem gT_eq {gs : List PyData → NSt → Option NSt} {ds : List PyData} : gT gs (.tuple ds) n = gs ds n := id rfl
@[simp] theorem gNil_eq : gNil' [] n = some n := id rfl
@[simp] theorem gCons_eq {gg : PyData → NSt → Option NSt} {gs : List PyData → NSt → Option NSt} {ds : List PyData} : gCons' gg gs (d :: ds) n = (gg d n).bind (gs ds) := id rfl
@[simp ↓] theorem wp_call {P : PyData → NSt → Prop} : Wp (nCall g fs n) P = Wp (fs n) fun as n1 => (ixs as).Nodup ∧ onO (resolve n1 as) fun a => Wp (g a) fun d os => P d (back n1 as os) := by
  unfold nCall
  rw [wp_bind]
  refine wp_ext fun as n1 => ?_
  by_cases h : (ixs as).Nodup
  · rw [if_pos h]
    cases e : resolve n1 as with
    | none => simp -dsimp
    | some a =>
      simp -dsimp only [h, true_and, onO_some]
      cases g a <;> simp -dsimp [Wp]
  · simp -dsimp [h]
@[simp ↓] theorem wp_callO {go : NSt → R (List PyData)} : Wp (nCallO go fs n) Pd = Wp (fs n) fun as n1 => (ixs as).Nodup ∧ onO (resolve n1 as) fun a => Wp (go a) fun d os => Pd d (back n1 as os) := by
  unfold nCallO
  rw [wp_bind]
  refine wp_ext fun as n1 => ?_
  by_cases h : (ixs as).Nodup
  · rw [if_pos h]
    cases e : resolve n1 as with
    | none => simp -dsimp
    | some a =>
      simp -dsimp only [h, true_and, onO_some]
      cases go a <;> simp -dsimp [Wp]
  · simp -dsimp [h]
@[simp] theorem ixs_nil : ixs [] = [] := id rfl
@[simp] theorem ixs_v {as : List AV} : ixs (.v d :: as) = ixs as := id rfl
@[simp] theorem ixs_o {as : List AV} : ixs (.o i :: as) = i :: ixs as := id rfl
@[simp] theorem resolve_nil : resolve n [] = some [] := id rfl
@[simp] theorem resolve_v {as : List AV} : resolve n (.v d :: as) = (resolve n as).map (some (Sl.val d) :: ·) := id rfl
@[simp] theorem resolve_o {as : List AV} : resolve n (.o i :: as) = match n[i]? with
    | some (some (.own xs)) => (resolve n as).map (some (Sl.lent xs) :: ·)
    | some (some (.lent xs)) => (resolve n as).map (some (Sl.lent xs) :: ·)
    | some (some (.scr xs)) => (resolve n as).map (some (Sl.scr xs) :: ·)
    | _ => none := id rfl
@[simp] theorem back_nil {os : NSt} : back n [] os = n := id rfl
@[simp] theorem back_v {as : List AV} {os : NSt} : back n (.v d :: as) os = back n as os.tail := id rfl
@[simp] theorem back_o {as : List AV} {os : NSt} : back n (.o i :: as) os = back (putBack n i (os.head?.getD none)) as os.tail := id rfl
@[simp] theorem putBack_l {ys : List PyData} : putBack n i (some (.lent ys)) = match n[i]? with
  | some (some sl) => n.set i (some (sl.put ys))
  | _ => n := id rfl
@[simp ↓] theorem wp_pop : Wp (nPop i n) P = onO (heldAt n i) fun z => onO z.2[z.2.length - 1]? fun x => P x (n.set i (some (z.1.put z.2.dropLast))) := by
  unfold nPop
  cases e : heldAt n i with
  | none => simp -dsimp
  | some z =>
    obtain ⟨sl, xs⟩ := z
    cases e2 : xs[xs.length - 1]? <;> simp -dsimp [e2]
@[simp ↓] theorem wp_append : Wp (nAppend i f n) P = ((heldAt n i).isSome = true ∧ Wp (f n) fun d n1 => onO (heldAt n1 i) fun z => z.2.length < sizeLine ∧ P .none (n1.set i (some (z.1.put (z.2 ++ [d]))))) := by
  unfold nAppend
  cases e : heldAt n i with
  | none => simp -dsimp
  | some z =>
    simp -dsimp only [wp_bind, Option.isSome_some, true_and]
    refine wp_ext fun d n1 => ?_
    cases e2 : heldAt n1 i with
    | none => simp -dsimp
    | some y =>
      obtain ⟨sl, xs⟩ := y
      by_cases h : xs.length < sizeLine <;> simp -dsimp [h]
@[simp] theorem heldAt_eq : heldAt n i = match n[i]? with
  | some (some sl) => sl.list?.map fun xs => (sl, xs)
  | _ => none := id rfl
@[simp] theorem notLent_eq : notLent n i = match n[i]? with
  | some (some (.lent _)) => false
  | some _ => true
  | none => false := id rfl
@[simp] theorem outs_nil {m : NSt} : outs [] m = [] := id rfl
@[simp] theorem outs_lent {xs : List PyData} {a m : NSt} {y : Option Sl} : outs (some (.lent xs) :: a) (y :: m) = y :: outs a m := id rfl
@[simp] theorem outs_val {a m : NSt} {y : Option Sl} : outs (some (.val d) :: a) (y :: m) = some (.val d) :: outs a m := id rfl
@[simp] theorem outs_scr {xs : List PyData} {a m : NSt} {y : Option Sl} : outs (some (.scr xs) :: a) (y :: m) = some (.scr xs) :: outs a m := id rfl
@[simp] theorem wipe_nil : wipeN n [] = n := id rfl
@[simp] theorem wipe_cons {v : Nat} {vs : List Nat} : wipeN n (v :: vs) = (wipeN n vs).set v none := id rfl
@[simp] theorem rest_nil {m : NSt} : restoreN n m [] = n := id rfl
@[simp] theorem rest_cons {m : NSt} {v : Nat} {vs : List Nat} : restoreN n m (v :: vs) = (restoreN n m vs).set v (m[v]?.getD none) := id rfl
@[simp] theorem bLen_list {xs : List PyData} : bLen [.list xs] = some (.int xs.length) := id rfl
@[simp] theorem bLen_tuple {xs : List PyData} : bLen [.tuple xs] = some (.int xs.length) := id rfl
@[simp] theorem bInt_int {i : Int} : bInt [.int i] = some (.int i) := id rfl
@[simp] theorem bInt_bool {b : Bool} : bInt [.bool b] = some (.int (if b then 1 else 0)) := id rfl
def absI (i : Int) : Int := ((i.natAbs : Nat) : Int)
theorem absI_nn {i : Int} : 0 ≤ absI i := by unfold absI; omega
@[simp] theorem bAbs_int {i : Int} : bAbs [.int i] = some (.int (absI i)) := id rfl
@[simp] theorem oAdd_int {a b : Int} : oAdd (.int a) (.int b) = some (.int (a + b)) := id rfl
@[simp] theorem oSub_int {a b : Int} : oSub (.int a) (.int b) = some (.int (a - b)) := id rfl
@[simp] theorem oMod_int {a b : Int} : oMod (.int a) (.int b) = if b ≠ 0 then some (.int (a.fmod b)) else none := id rfl
@[simp] theorem oEq_int {a b : Int} : oEq (.int a) (.int b) = some (.bool (decide (a = b))) := by
  unfold oEq eqOk PyData.eqv
  rfl
@[simp] theorem oNe_int {a b : Int} : oNe (.int a) (.int b) = some (.bool (!decide (a = b))) := by
  unfold oNe eqOk PyData.eqv
  rfl
@[simp] theorem oLt_int {a b : Int} : oLt (.int a) (.int b) = some (.bool (decide (a < b))) := id rfl
@[simp] theorem oLe_int {a b : Int} : oLe (.int a) (.int b) = some (.bool (decide (a ≤ b))) := id rfl
@[simp] theorem oGt_int {a b : Int} : oGt (.int a) (.int b) = some (.bool (decide (b < a))) := id rfl
@[simp] theorem oGe_int {a b : Int} : oGe (.int a) (.int b) = some (.bool (decide (b ≤ a))) := id rfl
@[simp] theorem oIx_list {xs : List PyData} {k : Int} : oIx (.list xs) (.int k) = atI xs k := id rfl
@[simp] theorem oIx_tuple {xs : List PyData} {k : Int} : oIx (.tuple xs) (.int k) = atI xs k := id rfl
end
theorem wp_sSeqO {f : NStm} {g : NSt → R (List PyData)} {n : NSt} {P : List PyData → NSt → Prop} : Wp (sSeqO f g n) P = WpS (f n) (fun n' => Wp (g n') P) (fun _ _ => False) (fun _ => False) (fun _ => False) := by
  unfold sSeqO
  cases f n <;> rfl
theorem wp_runO {N : Nat} {body : NSt → R (List PyData)} {a : NSt} {P : List PyData → NSt → Prop} : Wp (runDO N body a) P = Wp (body (a ++ List.replicate (N - a.length) none)) (fun d n' => P d (outs a n')) := by
  unfold runDO
  cases body (a ++ List.replicate (N - a.length) none) <;> rfl
@[simp ↓] theorem wp_give {i : Nat} {n : NSt} {P : List PyData → NSt → Prop} : Wp (nGive i n) P = onSl n[i]? (fun _ => False) (fun xs => P xs (n.set i none)) (fun _ => False) (fun _ => False) := by
  unfold nGive
  generalize n[i]? = o
  rcases o with _ | _ | sl <;> first | rfl | (cases sl <;> rfl)
@[simp ↓] theorem wp_lstRev {p : Opd} {n : NSt} {P : List PyData → NSt → Prop} : Wp (nLstRev p n) P = Wp (p.run n) fun a n1 => onO (a.get n1) fun d => onL d fun xs => P xs.reverse n1 := by
  unfold nLstRev
  rw [wp_bind]
  refine wp_ext fun a n1 => ?_
  cases e : a.get n1 with
  | none => simp -dsimp
  | some d => cases d <;> simp -dsimp [onL]
@[simp ↓] theorem wp_iScr {i : Nat} {n : NSt} {P : List PyData → NSt → Prop} : Wp (iScr i n) P = onSl n[i]? (fun _ => False) (fun _ => False) (fun _ => False) (fun xs => P xs n) := by
  unfold iScr
  generalize n[i]? = o
  rcases o with _ | _ | sl <;> first | rfl | (cases sl <;> rfl)
@[simp ↓] theorem wp_iV {f : NExp} {n : NSt} {P : List PyData → NSt → Prop} : Wp (iV f n) P = Wp (f n) fun d n' => onO (seqOf d) fun xs => P xs n' := by
  unfold iV
  rw [wp_bind]
  refine wp_ext fun d n' => ?_
  simp -dsimp
@[simp] theorem seqOf_list {xs : List PyData} : seqOf (.list xs) = some xs := id rfl
@[simp] theorem seqOf_tuple {xs : List PyData} : seqOf (.tuple xs) = some xs := id rfl
def rg1 (as : List AV) : Option (List PyData) := match as with
  | [.v (.int j)] => if rgOk j = true then some (rgD 0 j) else none
  | _ => none
@[simp] theorem rg1_int {j : Int} : rg1 [.v (.int j)] = if rgOk j = true then some (rgD 0 j) else none := id rfl
@[simp ↓] theorem wp_iRg1 {f : NSt → R (List AV)} {n : NSt} {P : List PyData → NSt → Prop} : Wp (iRg1 f n) P = Wp (f n) fun as n' => onO (rg1 as) fun xs => P xs n' := by
  unfold iRg1
  rw [wp_bind]
  refine wp_ext fun as n' => ?_
  unfold rg1
  split
  · rename_i j
    by_cases h : rgOk j = true <;> simp -dsimp [h]
  · simp -dsimp
def rg2 (as : List AV) : Option (List PyData) := match as with
  | [.v (.int i), .v (.int j)] => if rgOk i = true ∧ rgOk j = true then some (rgD i j) else none
  | _ => none
@[simp] theorem rg2_int {i j : Int} : rg2 [.v (.int i), .v (.int j)] = if rgOk i = true ∧ rgOk j = true then some (rgD i j) else none := id rfl
@[simp ↓] theorem wp_iRg2 {f : NSt → R (List AV)} {n : NSt} {P : List PyData → NSt → Prop} : Wp (iRg2 f n) P = Wp (f n) fun as n' => onO (rg2 as) fun xs => P xs n' := by
  unfold iRg2
  rw [wp_bind]
  refine wp_ext fun as n' => ?_
  unfold rg2
  split
  · rename_i i j
    by_cases h : rgOk i = true ∧ rgOk j = true <;> simp -dsimp [h]
  · simp -dsimp
@[simp ↓] theorem wps_sFor {fi : NSt → R (List PyData)} {g : PyData → NSt → Option NSt} {body : NStm} {n : NSt} {Nx : NSt → Prop} {Rt : PyData → NSt → Prop} {Bk Ct : NSt → Prop} : WpS (sFor fi g body n) Nx Rt Bk Ct = Wp (fi n) fun ds n1 => WpS (sForL g body ds n1) Nx Rt Bk Ct := wps_for
theorem rgD_len {i j : Int} : (rgD i j).length = (j - i).toNat := by
  unfold rgD
  simp -dsimp
/-- what an unset or a plain slot is -/
def Vl (x : Option Sl) : Prop := x = none ∨ ∃ d, x = some (.val d)
theorem Vl.none : Vl none := .inl rfl
theorem Vl.val {d : PyData} : Vl (some (.val d)) := .inr ⟨d, rfl⟩
/-! ### the draws -/
/-- numbers that are not below 0 -/
def Dr (l : List PyData) : Prop := ∃ ks : List Nat, l = ks.map fun (k : Nat) => PyData.int (k : Int)
def takeB : NStm :=
  sSeq (sIf (asB (nOp2 oEq (.e (nCB bLen (aCons (.o 0) (aNil)))) (.e (nC (.int 0))))) (sRet (nC (.int 0))) (sNil))
  (sRet (nOp2 oMod (.e (nCB bInt (aCons (.e (nPop 0)) (aNil)))) (.o 1)))
def Take : NExp := runD 2 takeB
theorem take_spec {l : List PyData} (h : Dr l) {b : Int} (hb : 0 < b) {P : PyData → NSt → Prop} (hP : ∀ (r : Int) (l' : List PyData), Dr l' → 0 ≤ r → r < b → P (.int r) [some (.lent l'), some (.val (.int b))]) : Wp (Take [some (.lent l), some (.val (.int b))]) P := by
  unfold Take
  rw [wp_run]
  obtain ⟨ks, rfl⟩ := h
  simp -dsimp [takeB]
  rcases List.eq_nil_or_concat ks with rfl | ⟨ks', k, rfl⟩
  · simp -dsimp
    exact hP 0 [] ⟨[], rfl⟩ (by omega) hb
  · refine Br_mk (fun h => by simp -dsimp at h) fun _ => ?_
    simp -dsimp
    exact ⟨by omega, hP _ _ ⟨ks', rfl⟩ (Int.fmod_nonneg (by omega) (by omega)) (Int.fmod_lt_of_pos _ hb)⟩
theorem Dr.nil : Dr [] := ⟨[], rfl⟩
theorem Dr.snoc {l : List PyData} {i : Int} (h : Dr l) (hi : 0 ≤ i) : Dr (l ++ [.int i]) := by
  obtain ⟨ks, rfl⟩ := h
  refine ⟨ks ++ [i.toNat], ?_⟩
  simp -dsimp
  omega
theorem Dr.snoc2 {l : List PyData} {i j : Int} (h : Dr l) (hi : 0 ≤ i) (hj : 0 ≤ j) : Dr (l ++ [.int i, .int j]) := by
  have := (h.snoc hi).snoc hj
  simpa using this
theorem rg1_at {j : Int} (h : rgOk j = true) : rg1 [.v (.int j)] = some (rgD 0 j) := by
  show (if rgOk j = true then some (rgD 0 j) else none) = _
  rw [if_pos h]
theorem Dr.rev {l : List PyData} (h : Dr l) : Dr l.reverse := by
  obtain ⟨ks, rfl⟩ := h
  exact ⟨ks.reverse, by simp -dsimp⟩
def drawsIn : NStm := sFor (iRg1 (aCons (.e (nC (.int 60))) (aNil))) (gN 5) (sIf (asB (nOp2 oGt (.o 4) (.e (nC (.int 0))))) (sSeq (sExpr (nAppend 1 (nOp2 oMod (.e (nCB bInt (aCons (.o 4) (aNil)))) (.e (nC (.int 997))))))
  (sAsg (nOp2 oFdiv (.o 4) (.e (nC (.int 997)))) (gN 4))) (sNil))
def drawsLast : NStm := sFor (iRg1 (aCons (.e (nC (.int 900))) (aNil))) (gN 5) (sSeq (sAsg (nOp2 oMod (.e (nCB bInt (aCons (.e (nOp2 oAdd (.e (nOp2 oMul (.o 2) (.e (nC (.int 48271))))) (.e (nC (.int 69621))))) (aNil)))) (.e (nC (.int 2147483647)))) (gN 2))
  (sExpr (nAppend 1 (nOp2 oFdiv (.o 2) (.e (nC (.int 5)))))))
def drawsB : NSt → R (List PyData) :=
  sSeqO (sOwn 1 (nLstO (aNil)))
  (sSeqO (sAsg (nC (.int 11)) (gN 2))
  (sSeqO (sFor (iScr 0) (gN 3) (sSeq (sAsg (nCB bAbs (aCons (.e (nCB bInt (aCons (.o 3) (aNil)))) (aNil))) (gN 4))
  (sSeq (sAsg (nOp2 oMod (.e (nCB bInt (aCons (.e (nOp2 oAdd (.e (nOp2 oAdd (.e (nOp2 oMul (.o 2) (.e (nC (.int 48271))))) (.o 4))) (.e (nC (.int 1))))) (aNil)))) (.e (nC (.int 2147483647)))) (gN 2))
  (sSeq (sIf (asB (nOp2 oLt (.o 4) (.e (nOp2 oPow (.e (nC (.int 10))) (.e (nC (.int 18))))))) (sSeq (sExpr (nAppend 1 (nOp2 oMod (.e (nCB bInt (aCons (.o 4) (aNil)))) (.e (nC (.int 997))))))
  (sSeq (sExpr (nAppend 1 (nOp2 oMod (.e (nCB bInt (aCons (.o 2) (aNil)))) (.e (nC (.int 65521))))))
  (sAsg (nC (.int 0)) (gN 4)))) (sNil))
  drawsIn))))
  (sSeqO drawsLast
  (nLstRev (.o 1)))))
def Draws : NSt → R (List PyData) := runDO 6 drawsB
theorem pow18 : oPow (.int 10) (.int 18) = some (.int 1000000000000000000) := by
  show (if CPow 10 18 then some (PyData.int (10 ^ (18 : Int).toNat)) else none) = _
  rw [if_pos ⟨by omega, by omega, by decide⟩]
  rfl
theorem gN_vl {n : NSt} {i : Nat} {d : PyData} {x : Option Sl} (e : n[i]? = some x) (v : Vl x) : gN i d n = some (n.set i (some (.val d))) := by
  unfold gN
  rw [if_pos]
  unfold notLent
  rw [e]
  rcases v with rfl | ⟨d, rfl⟩ <;> rfl
theorem nl_vl {n : NSt} {i : Nat} {x : Option Sl} (e : n[i]? = some x) (v : Vl x) : notLent n i = true := by
  unfold notLent
  rw [e]
  rcases v with rfl | ⟨d, rfl⟩ <;> rfl
theorem mulS {s : Int} (h0 : 0 ≤ s) (h1 : s < 2147483647) : oMul (.int s) (.int 48271) = some (.int (s * 48271)) := by
  show (if CMul s 48271 ∨ CMulW s 48271 then some (PyData.int (s * 48271)) else none) = _
  rw [if_pos (.inl (.inl ⟨by omega, by omega⟩))]
theorem fdivS {a b : Int} (hb : 0 < b) (h : b < 1000000000) : oFdiv (.int a) (.int b) = some (.int (a.fdiv b)) := by
  show (if CDivN a b then some (PyData.int (a.fdiv b)) else if CDivW a b then some (PyData.int (a.fdiv b)) else none) = _
  rw [if_pos ⟨by omega, by omega⟩]
theorem sizeBig : 10000 < sizeLine := by decide +kernel
theorem fmod_nn {a b : Int} (ha : 0 ≤ a) (hb : 0 < b) : 0 ≤ a.fmod b := Int.fmod_nonneg ha (by omega)
theorem drawsIn_spec {S acc : List PyData} {seed num : Int} {d3 : PyData} {x5 : Option Sl} (hacc : Dr acc) (hn : 0 ≤ num) (hl : acc.length ≤ 9000) (v5 : Vl x5) {Nx : NSt → Prop} {Rt : PyData → NSt → Prop} {Bk Ct : NSt → Prop}
    (h : ∀ acc' num' x5', Dr acc' → acc'.length ≤ acc.length + 60 → Vl x5' → Nx [some (.scr S), some (.own acc'), some (.val (.int seed)), some (.val d3), some (.val (.int num')), x5']) :
    WpS (drawsIn [some (.scr S), some (.own acc), some (.val (.int seed)), some (.val d3), some (.val (.int num)), x5]) Nx Rt Bk Ct := by
  have sz := sizeBig
  unfold drawsIn
  rw [wps_sFor]
  simp -dsimp only [wp_iRg1, wp_aCons, wp_oe, wp_nC, wp_aNil, rg1_at (show rgOk 60 = true by decide), onO_some]
  refine wps_forL (fun ds n => ∃ (acc' : List PyData) (num' : Int) (x5 : Option Sl), n = [some (.scr S), some (.own acc'), some (.val (.int seed)), some (.val d3), some (.val (.int num')), x5] ∧ Dr acc' ∧ 0 ≤ num' ∧ acc'.length + ds.length ≤ acc.length + 60 ∧ Vl x5) ?_ ?_ _ _ ⟨acc, num, x5, rfl, hacc, hn, by rw [rgD_len]; simp -dsimp, v5⟩
  · rintro d ds n ⟨acc', num', x5, rfl, hacc', h0, hlen, v5⟩
    have hlen : acc'.length + (ds.length + 1) ≤ acc.length + 60 := hlen
    refine ⟨_, gN_vl rfl v5, ?_⟩
    have f1 : oFdiv (.int num') (.int 997) = some (.int (num'.fdiv 997)) := fdivS (by omega) (by omega)
    by_cases hp : 0 < num'
    · simp -dsimp [hp, f1]
      refine ⟨by omega, _, _, _, ⟨rfl, rfl, rfl⟩, hacc'.snoc (fmod_nn h0 (by omega)), ?_, ?_, Vl.val⟩
      · exact Int.fdiv_nonneg h0 (by omega)
      · simp -dsimp; omega
    · simp -dsimp [hp]
      exact ⟨_, _, _, ⟨rfl, rfl, rfl⟩, hacc', h0, by omega, Vl.val⟩
  · rintro n ⟨acc', num', x5, rfl, hacc', h0, hlen, v5⟩
    exact h acc' num' x5 hacc' (by simpa using hlen) v5
theorem drawsLast_spec {S acc : List PyData} {seed : Int} {x3 x4 x5 : Option Sl} (hacc : Dr acc) (h0 : 0 ≤ seed) (h1 : seed < 2147483647) (hl : acc.length ≤ 9000) (v5 : Vl x5) {Nx : NSt → Prop} {Rt : PyData → NSt → Prop} {Bk Ct : NSt → Prop}
    (h : ∀ acc' seed' x5', Dr acc' → Nx [some (.scr S), some (.own acc'), some (.val (.int seed')), x3, x4, x5']) :
    WpS (drawsLast [some (.scr S), some (.own acc), some (.val (.int seed)), x3, x4, x5]) Nx Rt Bk Ct := by
  have sz := sizeBig
  unfold drawsLast
  rw [wps_sFor]
  simp -dsimp only [wp_iRg1, wp_aCons, wp_oe, wp_nC, wp_aNil, rg1_at (show rgOk 60 = true by decide), rg1_at (show rgOk 900 = true by decide), onO_some]
  refine wps_forL (fun ds n => ∃ (acc' : List PyData) (seed' : Int) (x5 : Option Sl), n = [some (.scr S), some (.own acc'), some (.val (.int seed')), x3, x4, x5] ∧ Dr acc' ∧ 0 ≤ seed' ∧ seed' < 2147483647 ∧ acc'.length + ds.length ≤ 9900 ∧ Vl x5) ?_ ?_ _ _ ⟨acc, seed, x5, rfl, hacc, h0, h1, by rw [rgD_len]; simp -dsimp; omega, v5⟩
  · rintro d ds n ⟨acc', seed', x5, rfl, hacc', h0, h1, hlen, v5⟩
    have hlen : acc'.length + (ds.length + 1) ≤ 9900 := hlen
    refine ⟨_, gN_vl rfl v5, ?_⟩
    have h2 : (0 : Int) ≤ (seed' * 48271 + 69621).fmod 2147483647 := fmod_nn (by omega) (by omega)
    have h3 : (seed' * 48271 + 69621).fmod 2147483647 < 2147483647 := Int.fmod_lt_of_pos _ (by omega)
    generalize hs : (seed' * 48271 + 69621).fmod 2147483647 = seed2 at h2 h3
    have f1 : oFdiv (.int seed2) (.int 5) = some (.int (seed2.fdiv 5)) := fdivS (by omega) (by omega)
    simp -dsimp [mulS h0 h1, hs, f1]
    refine ⟨by omega, _, _, _, ⟨rfl, rfl, rfl⟩, hacc'.snoc (Int.fdiv_nonneg h2 (by omega)), h2, h3, ?_, Vl.val⟩
    simp -dsimp; omega
  · rintro n ⟨acc', seed', x5, rfl, hacc', h0, h1, hlen, v5⟩
    exact h acc' seed' x5 hacc'
theorem draws_spec (ns : List Int) (hl : ns.length ≤ 63) {P : List PyData → NSt → Prop} (hP : ∀ l, Dr l → P l [some (.scr (ns.map .int))]) : Wp (Draws [some (.scr (ns.map .int))]) P := by
  have sz := sizeBig
  unfold Draws
  rw [wp_runO]
  unfold drawsB
  simp -dsimp [wp_sSeqO]
  refine wps_forL (fun ds n => ∃ (acc : List PyData) (seed : Int) (x3 x4 x5 : Option Sl), n = [some (.scr (ns.map .int)), some (.own acc), some (.val (.int seed)), x3, x4, x5] ∧ Dr acc ∧ 0 ≤ seed ∧ seed < 2147483647 ∧ acc.length + 62 * ds.length ≤ 62 * 63 ∧ Vl x3 ∧ Vl x4 ∧ Vl x5 ∧ ∃ ms : List Int, ds = ms.map .int) ?_ ?_ _ _ ⟨[], 11, none, none, none, rfl, Dr.nil, by omega, by omega, by simp -dsimp; omega, Vl.none, Vl.none, Vl.none, ns, rfl⟩
  · rintro d ds n ⟨acc, seed, x3, x4, x5, rfl, hacc, h0, h1, hlen, v3, v4, v5, ms, hms⟩
    cases ms with
    | nil => cases hms
    | cons m ms =>
      cases hms
      have hlen : acc.length + 62 * (ms.length + 1) ≤ 62 * 63 := by simpa using hlen
      refine ⟨_, gN_vl rfl v3, ?_⟩
      have hm : 0 ≤ absI m := absI_nn
      have h2 : (0 : Int) ≤ (seed * 48271 + absI m + 1).fmod 2147483647 := fmod_nn (by omega) (by omega)
      have h3 : (seed * 48271 + absI m + 1).fmod 2147483647 < 2147483647 := Int.fmod_lt_of_pos _ (by omega)
      generalize hs : (seed * 48271 + absI m + 1).fmod 2147483647 = seed2 at h2 h3
      rcases v4 with rfl | ⟨d4, rfl⟩ <;> (
        simp -dsimp [mulS h0 h1, pow18, hs]
        refine Br_mk (fun hb => ?_) fun hb => ?_
        · simp -dsimp
          refine ⟨by omega, by omega, ?_⟩
          refine drawsIn_spec (hacc.snoc2 (fmod_nn (by omega) (by omega)) (fmod_nn (by omega) (by omega))) (by omega) (by simp -dsimp; omega) v5 fun acc' num' x5' ha hx hv => ?_
          exact ⟨acc', seed2, _, _, _, rfl, ha, h2, h3, by simp -dsimp at hx ⊢; omega, Vl.val, Vl.val, hv, ms, rfl⟩
        · simp -dsimp
          refine drawsIn_spec hacc (by omega) (by omega) v5 fun acc' num' x5' ha hx hv => ?_
          exact ⟨acc', seed2, _, _, _, rfl, ha, h2, h3, by rw [List.length_map]; omega, Vl.val, Vl.val, hv, ms, rfl⟩)
  · rintro n ⟨acc, seed, x3, x4, x5, rfl, hacc, h0, h1, hlen, v3, v4, v5, ms, hms⟩
    rw [wp_sSeqO]
    refine drawsLast_spec hacc h0 h1 (by omega) v5 fun acc' seed' x5' ha => ?_
    simp -dsimp
    exact hP _ ha.rev
def pickB : NStm :=
  sRet (nOp2 oIx (.o 1) (.e (nCall Take (aCons (.o 0) (aCons (.e (nCB bLen (aCons (.o 1) (aNil)))) (aNil))))))
def Pick : NExp := runD 2 pickB
theorem atI_nat {xs : List PyData} {r : Int} (h0 : 0 ≤ r) (h1 : r < xs.length) : ∃ x, atI xs r = some x ∧ x ∈ xs := by
  unfold atI ixN
  rw [if_pos h0, if_pos h1]
  have hl : r.toNat < xs.length := by omega
  exact ⟨xs[r.toNat], by simp -dsimp [hl], List.getElem_mem hl⟩
theorem pick_spec {l xs : List PyData} (h : Dr l) (hx : xs ≠ []) {P : PyData → NSt → Prop} (hP : ∀ (x : PyData) (l' : List PyData), Dr l' → x ∈ xs → P x [some (.lent l'), some (.val (.list xs))]) : Wp (Pick [some (.lent l), some (.val (.list xs))]) P := by
  unfold Pick
  rw [wp_run]
  simp -dsimp [pickB]
  refine take_spec h (by have := List.length_pos_iff.mpr hx; omega) fun r l' hl' h0 h1 => ?_
  simp -dsimp
  obtain ⟨x, e, hm⟩ := atI_nat h0 h1
  rw [e]
  simp -dsimp
  exact hP x l' hl' hm
def sameB (D : NExp) : NStm :=
  sSeq (sIf (asB (nOp2 oIs (.o 1) (.e (nC .none)))) (sRet (nOp2 oIs (.o 0) (.e (nC .none)))) (sNil))
  (sSeq (sIf (tOr' (asT (.e (nIsi "tuple" (.o 1)))) (asT (.e (nIsi "list" (.o 1))))) (sSeq (sIf (tOr' (asB (nOp2 oNe (.e (nIsi "tuple" (.o 1))) (.e (nIsi "tuple" (.o 0))))) (asB (nOp2 oNe (.e (nIsi "list" (.o 1))) (.e (nIsi "list" (.o 0)))))) (sRet (nC (.bool false))) (sNil))
  (sSeq (sIf (asB (nOp2 oNe (.e (nCB bLen (aCons (.o 0) (aNil)))) (.e (nCB bLen (aCons (.o 1) (aNil)))))) (sRet (nC (.bool false))) (sNil))
  (sSeq (sFor (iRg1 (aCons (.e (nCB bLen (aCons (.o 1) (aNil)))) (aNil))) (gN 2) (sIf (tNot' (asT (.e (nCall D (aCons (.e (nOp2 oIx (.o 0) (.o 2))) (aCons (.e (nOp2 oIx (.o 1) (.o 2))) (aNil))))))) (sRet (nC (.bool false))) (sNil)))
  (sRet (nC (.bool true)))))) (sNil))
  (sSeq (sIf (asT (.e (nIsi "dict" (.o 1)))) (sSeq (sIf (tOr' (tNot' (asT (.e (nIsi "dict" (.o 0))))) (asB (nOp2 oNe (.e (nCB bLen (aCons (.o 0) (aNil)))) (.e (nCB bLen (aCons (.o 1) (aNil))))))) (sRet (nC (.bool false))) (sNil))
  (sRet (nOp2 oEq (.e (nL (nLc (iV (nF 1)) (gN 3) (tOr' (asB (nOp2 oNotIn (.o 3) (.o 0))) (tNot' (asT (.e (nCall D (aCons (.e (nOp2 oIx (.o 0) (.o 3))) (aCons (.e (nOp2 oIx (.o 1) (.o 3))) (aNil)))))))) (nV 3) [3]))) (.e (nL (nLstO (aNil))))))) (sNil))
  (sSeq (sIf (asB (nOp2 oNe (.e (nIsi "bool" (.o 1))) (.e (nIsi "bool" (.o 0))))) (sRet (nC (.bool false))) (sNil))
  (sSeq (sIf (tOr' (asB (nOp2 oNe (.e (nIsi "int" (.o 1))) (.e (nIsi "int" (.o 0))))) (asB (nOp2 oNe (.e (nIsi "str" (.o 1))) (.e (nIsi "str" (.o 0)))))) (sRet (nC (.bool false))) (sNil))
  (sRet (nOp2 oEq (.o 0) (.o 1)))))))
def Same : Nat → NExp
  | 0 => fun _ => .bad
  | k + 1 => runD 4 (sameB (Same k))
end NL
end L2
/-! M2: alike with itself. -/
namespace L2
namespace NL
open PySem PySem.Spec PyProof.Rows
def sOk : Nat → PyData → Prop
  | 0, _ => False
  | k + 1, .list xs => xs.length ≤ 1000000 ∧ ∀ x ∈ xs, sOk k x
  | k + 1, .tuple xs => xs.length ≤ 1000000 ∧ ∀ x ∈ xs, sOk k x
  | _ + 1, .dict _ => False
  | _ + 1, _ => True
theorem sOk.mono : ∀ {j k : Nat} {d : PyData}, j ≤ k → sOk j d → sOk k d
  | 0, _, _, _, h => h.elim
  | j + 1, 0, _, hk, _ => by omega
  | j + 1, k + 1, d, hk, h => by
    cases d with
    | list xs => exact ⟨h.1, fun x hx => sOk.mono (by omega) (h.2 x hx)⟩
    | tuple xs => exact ⟨h.1, fun x hx => sOk.mono (by omega) (h.2 x hx)⟩
    | dict _ => exact h.elim
    | _ => trivial
@[simp] theorem oIs_none {x : PyData} : oIs x .none = some (.bool (isNoneD x)) := id rfl
@[simp] theorem oIsNot_none {x : PyData} : oIsNot x .none = some (.bool (!isNoneD x)) := by
  cases x <;> rfl
@[simp] theorem isNoneD_none : isNoneD .none = true := id rfl
@[simp] theorem isNoneD_bool {b : Bool} : isNoneD (.bool b) = false := id rfl
@[simp] theorem isNoneD_int {b : Int} : isNoneD (.int b) = false := id rfl
@[simp] theorem isNoneD_str {b : Str} : isNoneD (.str b) = false := id rfl
@[simp] theorem isNoneD_list {b : List PyData} : isNoneD (.list b) = false := id rfl
@[simp] theorem isNoneD_tuple {b : List PyData} : isNoneD (.tuple b) = false := id rfl
@[simp] theorem isNoneD_dict {b : List (PyData × PyData)} : isNoneD (.dict b) = false := id rfl
@[simp] theorem truthOf_bool {b : Bool} : truthOf (.bool b) = some b := id rfl
@[simp] theorem truthOf_none : truthOf .none = some false := id rfl
@[simp] theorem tyN_none : tyN .none = "NoneType" := id rfl
@[simp] theorem tyN_bool {b : Bool} : tyN (.bool b) = "bool" := id rfl
@[simp] theorem tyN_int {b : Int} : tyN (.int b) = "int" := id rfl
@[simp] theorem tyN_str {b : Str} : tyN (.str b) = "str" := id rfl
@[simp] theorem tyN_list {b : List PyData} : tyN (.list b) = "list" := id rfl
@[simp] theorem tyN_tuple {b : List PyData} : tyN (.tuple b) = "tuple" := id rfl
@[simp] theorem tyN_dict {b : List (PyData × PyData)} : tyN (.dict b) = "dict" := id rfl
theorem oNe_bool {a b : Bool} : oNe (.bool a) (.bool b) = some (.bool (!(a == b))) := by
  unfold oNe eqOk PyData.eqv
  rfl
theorem oEq_bool {a b : Bool} : oEq (.bool a) (.bool b) = some (.bool (a == b)) := by
  unfold oEq eqOk PyData.eqv
  rfl
theorem oEq_str {a b : Str} : oEq (.str a) (.str b) = some (.bool (a == b)) := by
  unfold oEq eqOk PyData.eqv
  rfl
theorem oNe_str {a b : Str} : oNe (.str a) (.str b) = some (.bool (!(a == b))) := by
  unfold oNe eqOk PyData.eqv
  rfl
theorem rgD_mem {j k : Int} {d : PyData} (h : d ∈ rgD j k) : ∃ i : Int, d = .int i ∧ j ≤ i ∧ i < k := by
  unfold rgD at h
  obtain ⟨i, hi, rfl⟩ := List.mem_map.mp h
  have := List.mem_range.mp hi
  exact ⟨_, rfl, by omega, by omega⟩
theorem rgOk_nat {j : Nat} (h : j ≤ 1000000) : rgOk (j : Int) = true := by
  unfold rgOk
  rw [Bool.and_eq_true]
  exact ⟨decide_eq_true (by omega), decide_eq_true (by omega)⟩
def sameLoop (D : NExp) : NStm := sFor (iRg1 (aCons (.e (nCB bLen (aCons (.o 1) (aNil)))) (aNil))) (gN 2) (sIf (tNot' (asT (.e (nCall D (aCons (.e (nOp2 oIx (.o 0) (.o 2))) (aCons (.e (nOp2 oIx (.o 1) (.o 2))) (aNil))))))) (sRet (nC (.bool false))) (sNil))
def sameHead (D : NExp) : NStm := sSeq (sIf (tOr' (asB (nOp2 oNe (.e (nIsi "tuple" (.o 1))) (.e (nIsi "tuple" (.o 0))))) (asB (nOp2 oNe (.e (nIsi "list" (.o 1))) (.e (nIsi "list" (.o 0)))))) (sRet (nC (.bool false))) (sNil))
  (sSeq (sIf (asB (nOp2 oNe (.e (nCB bLen (aCons (.o 0) (aNil)))) (.e (nCB bLen (aCons (.o 1) (aNil)))))) (sRet (nC (.bool false))) (sNil))
  (sSeq (sameLoop D)
  (sRet (nC (.bool true)))))
def sameRest (D : NExp) : NStm := (sSeq (sIf (asT (.e (nIsi "dict" (.o 1)))) (sSeq (sIf (tOr' (tNot' (asT (.e (nIsi "dict" (.o 0))))) (asB (nOp2 oNe (.e (nCB bLen (aCons (.o 0) (aNil)))) (.e (nCB bLen (aCons (.o 1) (aNil))))))) (sRet (nC (.bool false))) (sNil))
  (sRet (nOp2 oEq (.e (nL (nLc (iV (nF 1)) (gN 3) (tOr' (asB (nOp2 oNotIn (.o 3) (.o 0))) (tNot' (asT (.e (nCall D (aCons (.e (nOp2 oIx (.o 0) (.o 3))) (aCons (.e (nOp2 oIx (.o 1) (.o 3))) (aNil)))))))) (nV 3) [3]))) (.e (nL (nLstO (aNil))))))) (sNil))
  (sSeq (sIf (asB (nOp2 oNe (.e (nIsi "bool" (.o 1))) (.e (nIsi "bool" (.o 0))))) (sRet (nC (.bool false))) (sNil))
  (sSeq (sIf (tOr' (asB (nOp2 oNe (.e (nIsi "int" (.o 1))) (.e (nIsi "int" (.o 0))))) (asB (nOp2 oNe (.e (nIsi "str" (.o 1))) (.e (nIsi "str" (.o 0)))))) (sRet (nC (.bool false))) (sNil))
  (sRet (nOp2 oEq (.o 0) (.o 1))))))
theorem sameB_eq (D : NExp) : sameB D = sSeq (sIf (asB (nOp2 oIs (.o 1) (.e (nC .none)))) (sRet (nOp2 oIs (.o 0) (.e (nC .none)))) (sNil)) (sSeq (sIf (tOr' (asT (.e (nIsi "tuple" (.o 1)))) (asT (.e (nIsi "list" (.o 1))))) (sameHead D) sNil) (sameRest D)) := rfl
theorem same_loop {k : Nat} {d : PyData} {xs : List PyData} (hlen : bLen [d] = some (.int xs.length)) (hix : ∀ i : Int, oIx d (.int i) = atI xs i) (hz : xs.length ≤ 1000000)
    (ih : ∀ x ∈ xs, Same k [some (.val x), some (.val x)] = .ok (.bool true) [some (.val x), some (.val x)]) {Nx : NSt → Prop} {Rt : PyData → NSt → Prop} {Bk Ct : NSt → Prop} (h : ∀ x2, Nx [some (.val d), some (.val d), x2, none]) :
    WpS (sameLoop (Same k) [some (.val d), some (.val d), none, none]) Nx Rt Bk Ct := by
  unfold sameLoop
  have er : rg1 [.v (.int (xs.length : Int))] = some (rgD 0 xs.length) := rg1_at (rgOk_nat hz)
  simp -dsimp [hlen, er]
  refine wps_forL (fun ds n => ∃ x2 : Option Sl, n = [some (.val d), some (.val d), x2, none] ∧ Vl x2 ∧ ∀ e ∈ ds, ∃ i : Int, e = .int i ∧ 0 ≤ i ∧ i < xs.length) ?_ ?_ _ _ ⟨none, rfl, Vl.none, fun e he => rgD_mem he⟩
  · rintro e ds n ⟨x2, rfl, v2, hm⟩
    refine ⟨_, gN_vl rfl v2, ?_⟩
    obtain ⟨i, rfl, h0, h1⟩ := hm e List.mem_cons_self
    obtain ⟨x, ex, hx⟩ := atI_nat h0 h1
    simp -dsimp [hix, ex, ih x hx, Vl]
    exact fun e he => hm e (List.mem_cons_of_mem _ he)
  · rintro n ⟨x2, rfl, v2, hm⟩
    exact h x2
theorem same_seq {k : Nat} {d : PyData} {xs : List PyData} {tl tt : Bool} (ht : isTy "tuple" d = tt) (hl : isTy "list" d = tl) (hor : (tt || tl) = true) (hn : isNoneD d = false) (hlen : bLen [d] = some (.int xs.length)) (hix : ∀ i : Int, oIx d (.int i) = atI xs i) (hz : xs.length ≤ 1000000)
    (ih : ∀ x ∈ xs, Same k [some (.val x), some (.val x)] = .ok (.bool true) [some (.val x), some (.val x)]) : Same (k + 1) [some (.val d), some (.val d)] = .ok (.bool true) [some (.val d), some (.val d)] := by
  apply wp_eq
  show Wp (runD 4 (sameB (Same k)) [some (.val d), some (.val d)]) _
  rw [wp_run, sameB_eq]
  have go : ∀ {Nx : NSt → Prop} {Rt : PyData → NSt → Prop} {Bk Ct : NSt → Prop}, (∀ x2, Rt (.bool true) [some (.val d), some (.val d), x2, none]) → WpS (sameHead (Same k) [some (.val d), some (.val d), none, none]) Nx Rt Bk Ct := fun h => by
    unfold sameHead
    simp -dsimp [ht, hl, hlen, oNe_bool]
    exact same_loop hlen hix hz ih fun x2 => by simpa using h x2
  cases tt <;> cases tl <;> first | exact absurd hor (by decide) | (
    simp -dsimp [ht, hl, hn]
    refine go fun x2 => ?_
    simp -dsimp)
theorem same_refl : ∀ (k : Nat) (d : PyData), sOk k d → Same k [some (.val d), some (.val d)] = .ok (.bool true) [some (.val d), some (.val d)]
  | 0, _, h => h.elim
  | k + 1, d, h => by
    cases d with
    | list xs => exact same_seq (xs := xs) (tt := false) (tl := true) (by simp -dsimp [isTy]) (by simp -dsimp [isTy]) rfl rfl rfl (fun i => rfl) h.1 fun x hx => same_refl k x (h.2 x hx)
    | tuple xs => exact same_seq (xs := xs) (tt := true) (tl := false) (by simp -dsimp [isTy]) (by simp -dsimp [isTy]) rfl rfl rfl (fun i => rfl) h.1 fun x hx => same_refl k x (h.2 x hx)
    | dict _ => exact h.elim
    | none =>
      apply wp_eq
      show Wp (runD 4 (sameB (Same k)) _) _
      rw [wp_run, sameB_eq]
      simp -dsimp [sameRest]
    | bool b =>
      apply wp_eq
      show Wp (runD 4 (sameB (Same k)) _) _
      rw [wp_run, sameB_eq]
      simp -dsimp [sameRest, isTy, oNe_bool, oEq_bool]
    | int b =>
      apply wp_eq
      show Wp (runD 4 (sameB (Same k)) _) _
      rw [wp_run, sameB_eq]
      simp -dsimp [sameRest, isTy, oNe_bool]
    | str b =>
      apply wp_eq
      show Wp (runD 4 (sameB (Same k)) _) _
      rw [wp_run, sameB_eq]
      simp -dsimp [sameRest, isTy, oNe_bool, oEq_str]
end NL
end L2
/-! M3: more joints. -/
namespace L2
namespace NL
open PySem PySem.Spec PyProof.Rows
section
variable {α : Type} {n : NSt} {i j : Nat} {P : PyData → NSt → Prop} {Pd : List PyData → NSt → Prop} {f g : NExp} {p q u : Opd} {d : PyData} {t : NSt → R Bool}
  {Nx : NSt → Prop} {Rt : PyData → NSt → Prop} {Bk Ct : NSt → Prop} {fs : NSt → R (List AV)} {Po : Option Int → NSt → Prop}
@[simp ↓] theorem wps_sSetI {fk fe : NExp} : WpS (sSetI i fk fe n) Nx Rt Bk Ct = Wp (fe n) fun d n1 => (heldAt n1 i).isSome = true ∧ Wp (fk n1) fun k n2 => onO (heldAt n2 i) fun z => onI k fun j => onO (ixN z.2.length j) fun m => Nx (n2.set i (some (z.1.put (z.2.set m d)))) := by
  unfold sSetI
  rw [wps_st]
  refine wp_ext fun d n1 => ?_
  cases e : heldAt n1 i with
  | none => simp -dsimp
  | some z =>
    simp -dsimp only [wps_st, Option.isSome_some, true_and]
    refine wp_ext fun k n2 => ?_
    cases e2 : heldAt n2 i with
    | none => simp -dsimp
    | some y =>
      obtain ⟨sl, xs⟩ := y
      cases k with
      | int j => cases e3 : ixN xs.length j <;> simp -dsimp [e3]
      | _ => simp -dsimp [onI]
@[simp ↓] theorem wp_op2O {o : PyData → PyData → Option (List PyData)} : Wp (nOp2O o p q n) Pd = Wp (p.run n) fun a n1 => Wp (q.run n1) fun b n2 => onO (a.get n2) fun x => onO (b.get n2) fun y => onO (o x y) fun z => Pd z n2 := by
  unfold nOp2O
  rw [wp_bind]
  refine wp_ext fun a n1 => ?_
  rw [wp_bind]
  refine wp_ext fun b n2 => ?_
  cases ea : a.get n2 <;> cases eb : b.get n2 <;> simp -dsimp
@[simp ↓] theorem wp_pNone : Wp (pNone n) Po = Po none n := id rfl
@[simp ↓] theorem wp_pSome : Wp (pSome f n) Po = Wp (f n) fun d n' => onI d fun i => Po (some i) n' := by
  unfold pSome
  rw [wp_bind]
  refine wp_ext fun d n' => ?_
  cases d <;> simp -dsimp [onI]
@[simp ↓] theorem wp_sl {fl fh : NSt → R (Option Int)} : Wp (nSl p fl fh n) P = Wp (p.run n) fun a n1 => Wp (fl n1) fun l n2 => Wp (fh n2) fun h n3 => onO (a.get n3) fun x => onO (oSl x l h) fun z => P z n3 := by
  unfold nSl
  rw [wp_bind]
  refine wp_ext fun a n1 => ?_
  rw [wp_bind]
  refine wp_ext fun l n2 => ?_
  rw [wp_bind]
  refine wp_ext fun h n3 => ?_
  cases ea : a.get n3 <;> simp -dsimp
@[simp] theorem oSl_list {xs : List PyData} {l h : Option Int} : oSl (.list xs) l h = some (.list (cutP xs l h)) := id rfl
@[simp] theorem oCatO_list {xs ys : List PyData} : oCatO (.list xs) (.list ys) = if xs.length + ys.length ≤ sizeLine then some (xs ++ ys) else none := id rfl
@[simp] theorem oAdd_list {xs ys : List PyData} : oAdd (.list xs) (.list ys) = if xs.length + ys.length ≤ sizeLine then some (.list (xs ++ ys)) else none := id rfl
@[simp] theorem bTuple_list {xs : List PyData} : bTuple [.list xs] = some (.tuple xs) := id rfl
@[simp] theorem bTuple_tuple {xs : List PyData} : bTuple [.tuple xs] = some (.tuple xs) := id rfl
@[simp ↓] theorem wp_listO : Wp (nListO p n) Pd = Wp (p.run n) fun a n1 => onO (a.get n1) fun d => onO (match d with | .list xs => some xs | .tuple xs => some xs | _ => none) fun xs => Pd xs n1 := by
  unfold nListO
  rw [wp_bind]
  refine wp_ext fun a n1 => ?_
  cases e : a.get n1 with
  | none => simp -dsimp
  | some d => cases d <;> simp -dsimp
@[simp ↓] theorem wp_meth1 {m : List PyData → PyData → Option (List PyData × PyData)} : Wp (nMeth1 i m p n) P = ((heldAt n i).isSome = true ∧ Wp (p.run n) fun a n1 => onO (heldAt n1 i) fun z => onO (a.get n1) fun d => onO (m z.2 d) fun y => P y.2 (n1.set i (some (z.1.put y.1)))) := by
  unfold nMeth1
  cases e : heldAt n i with
  | none => simp -dsimp
  | some z =>
    simp -dsimp only [wp_bind, Option.isSome_some, true_and]
    refine wp_ext fun a n1 => ?_
    cases e2 : heldAt n1 i with
    | none => simp -dsimp
    | some y =>
      obtain ⟨sl, xs⟩ := y
      cases e3 : a.get n1 with
      | none => simp -dsimp
      | some d =>
        cases e4 : m xs d with
        | none => simp -dsimp [e4]
        | some w => obtain ⟨ys, zz⟩ := w; simp -dsimp [e4]
@[simp ↓] theorem wps_sPar {fa fb : NSt → R EV} : WpS (sPar i j fa fb n) Nx Rt Bk Ct = Wp (fa n) fun x n1 => Wp (fb n1) fun y n2 => notLent n2 i = true ∧ notLent n2 j = true ∧ Nx ((n2.set i (some x.sl)).set j (some y.sl)) := by
  unfold sPar
  rw [wps_st]
  refine wp_ext fun x n1 => ?_
  rw [wps_st]
  refine wp_ext fun y n2 => ?_
  by_cases h : notLent n2 i = true ∧ notLent n2 j = true
  · rw [if_pos h]; simp -dsimp only [h.1, h.2, true_and, wps_nx]
  · rw [if_neg h]
    simp -dsimp only [wps_bad]
    simp -dsimp only [eq_iff_iff, false_iff]
    exact fun z => h ⟨z.1, z.2.1⟩
@[simp ↓] theorem wp_evV {Pe : EV → NSt → Prop} : Wp (evV f n) Pe = Wp (f n) fun d n' => Pe (.v d) n' := by
  unfold evV
  rw [wp_bind]
  rfl
@[simp ↓] theorem wp_evO {fo : NSt → R (List PyData)} {Pe : EV → NSt → Prop} : Wp (evO fo n) Pe = Wp (fo n) fun d n' => Pe (.w d) n' := by
  unfold evO
  rw [wp_bind]
  rfl
@[simp] theorem sl_v : EV.sl (.v d) = .val d := id rfl
@[simp] theorem sl_w {xs : List PyData} : EV.sl (.w xs) = .own xs := id rfl
@[simp] theorem bMax_two {a b : Int} : bMax [.int a, .int b] = some (.int (max a b)) := id rfl
@[simp] theorem bMin_two {a b : Int} : bMin [.int a, .int b] = some (.int (min a b)) := id rfl
end
end NL
end L2
/-! M4: rows of rows: enumerate, range, zip; what is alike. -/
namespace L2
namespace NL
open PySem PySem.Spec PyProof.Rows
section
variable {n : NSt} {P : List PyData → NSt → Prop} {fs : NSt → R (List AV)}
def en1 (as : List AV) : Option (List PyData) := match as with
  | [.v (.list xs)] => some (enumD 0 xs)
  | _ => none
@[simp] theorem en1_list {xs : List PyData} : en1 [.v (.list xs)] = some (enumD 0 xs) := id rfl
@[simp ↓] theorem wp_iEn : Wp (iEn fs n) P = Wp (fs n) fun as n' => onO (en1 as) fun xs => P xs n' := by
  unfold iEn
  rw [wp_bind]
  refine wp_ext fun as n' => ?_
  unfold en1
  split <;> simp -dsimp
def zp1 (as : List AV) : Option (List PyData) := match as with
  | [.v (.list xs), .v (.list ys)] => some (zipD xs ys)
  | [.v (.tuple xs), .v (.tuple ys)] => some (zipD xs ys)
  | _ => none
@[simp] theorem zp1_list {xs ys : List PyData} : zp1 [.v (.list xs), .v (.list ys)] = some (zipD xs ys) := id rfl
@[simp] theorem zp1_tuple {xs ys : List PyData} : zp1 [.v (.tuple xs), .v (.tuple ys)] = some (zipD xs ys) := id rfl
@[simp ↓] theorem wp_iZp : Wp (iZp fs n) P = Wp (fs n) fun as n' => onO (zp1 as) fun xs => P xs n' := by
  unfold iZp
  rw [wp_bind]
  refine wp_ext fun as n' => ?_
  unfold zp1
  split <;> simp -dsimp
end
theorem enumD_mem : ∀ {k : Nat} {xs : List PyData} {d : PyData}, d ∈ enumD k xs → ∃ (i : Nat) (x : PyData), d = .tuple [.int (i : Int), x] ∧ x ∈ xs
  | k, [], d, h => by simp -dsimp [enumD] at h
  | k, x :: xs, d, h => by
    unfold enumD at h
    rcases List.mem_cons.mp h with rfl | h
    · exact ⟨k, x, rfl, List.mem_cons_self⟩
    · obtain ⟨i, y, e, hy⟩ := enumD_mem h
      exact ⟨i, y, e, List.mem_cons_of_mem _ hy⟩
/-- f of each place and thing -/
def ixMap (f : Nat → PyData → PyData) : Nat → List PyData → List PyData
  | _, [] => []
  | k, x :: xs => f k x :: ixMap f (k + 1) xs
theorem ixMap_enum (f : Nat → PyData → PyData) (F : PyData → PyData) (h : ∀ (k : Nat) (x : PyData), F (.tuple [.int (k : Int), x]) = f k x) : ∀ (k : Nat) (xs : List PyData), (enumD k xs).map F = ixMap f k xs
  | _, [] => rfl
  | k, x :: xs => by
    simp -dsimp only [enumD, List.map_cons, ixMap, h]
    rw [ixMap_enum f F h (k + 1) xs]
theorem ixMap_len (f : Nat → PyData → PyData) : ∀ (k : Nat) (xs : List PyData), (ixMap f k xs).length = xs.length
  | _, [] => rfl
  | k, x :: xs => by simp -dsimp [ixMap, ixMap_len f (k + 1) xs]
theorem ixMap_mem (f : Nat → PyData → PyData) : ∀ {k : Nat} {xs : List PyData} {d : PyData}, d ∈ ixMap f k xs → ∃ i x, x ∈ xs ∧ d = f i x ∧ k ≤ i ∧ i < k + xs.length
  | k, [], d, h => by simp -dsimp [ixMap] at h
  | k, x :: xs, d, h => by
    unfold ixMap at h
    rcases List.mem_cons.mp h with rfl | h
    · exact ⟨k, x, List.mem_cons_self, rfl, by omega, by simp -dsimp⟩
    · obtain ⟨i, y, hy, e, h1, h2⟩ := ixMap_mem f h
      exact ⟨i, y, List.mem_cons_of_mem _ hy, e, by omega, by simp -dsimp; omega⟩
theorem ixMap_get (f : Nat → PyData → PyData) : ∀ (k : Nat) (xs : List PyData) (i : Nat), (ixMap f k xs)[i]? = (xs[i]?).map (f (k + i))
  | _, [], i => by simp -dsimp [ixMap]
  | k, x :: xs, 0 => by simp -dsimp [ixMap]
  | k, x :: xs, i + 1 => by
    simp -dsimp only [ixMap, List.getElem?_cons_succ]
    rw [ixMap_get f (k + 1) xs i]
    congr 2
    omega
theorem ixMap_range (f : Nat → PyData → PyData) (F : PyData → PyData) (xs : List PyData) (h : ∀ (k : Nat) (x : PyData), xs[k]? = some x → F (.int (k : Int)) = f k x) : (rgD 0 xs.length).map F = ixMap f 0 xs := by
  apply List.ext_getElem?
  intro i
  rw [ixMap_get]
  unfold rgD
  simp -dsimp only [List.map_map]
  by_cases hi : i < xs.length
  · rw [List.getElem?_map, List.getElem?_range (by omega)]
    have e := List.getElem?_eq_getElem hi
    rw [e]
    simp -dsimp only [Option.map_some, Function.comp]
    have := h i _ e
    simpa using this
  · have : xs.length ≤ i := by omega
    simp -dsimp [this]
theorem ixMap_congr {f g : Nat → PyData → PyData} : ∀ {k : Nat} {xs : List PyData}, (∀ i x, x ∈ xs → f i x = g i x) → ixMap f k xs = ixMap g k xs
  | _, [], _ => rfl
  | k, x :: xs, h => by
    simp -dsimp only [ixMap]
    rw [h k x List.mem_cons_self, ixMap_congr fun i y hy => h i y (List.mem_cons_of_mem _ hy)]
theorem map_ixMap (f : Nat → PyData → PyData) (F : PyData → PyData) : ∀ (k : Nat) (xs : List PyData), (ixMap f k xs).map F = ixMap (fun i x => F (f i x)) k xs
  | _, [] => rfl
  | k, x :: xs => by simp -dsimp [ixMap, map_ixMap f F (k + 1) xs]
theorem ixMap_const (F : PyData → PyData) : ∀ (k : Nat) (xs : List PyData), ixMap (fun _ x => F x) k xs = xs.map F
  | _, [] => rfl
  | k, x :: xs => by simp -dsimp [ixMap, ixMap_const F (k + 1) xs]
theorem atI_nat2 {xs : List PyData} {k : Nat} : atI xs (k : Int) = xs[k]? := by
  unfold atI ixN
  rw [if_pos (by omega)]
  by_cases h : (k : Int) < xs.length
  · rw [if_pos h]
    rfl
  · rw [if_neg h]
    have : xs.length ≤ k := by omega
    simp -dsimp [this]
theorem sOk_list {k : Nat} {xs : List PyData} (hl : xs.length ≤ 1000000) (h : ∀ x ∈ xs, sOk k x) : sOk (k + 1) (.list xs) := ⟨hl, h⟩
theorem sOk_tuple {k : Nat} {xs : List PyData} (hl : xs.length ≤ 1000000) (h : ∀ x ∈ xs, sOk k x) : sOk (k + 1) (.tuple xs) := ⟨hl, h⟩
theorem boolsOf_mapB (F : PyData → Bool) : ∀ xs : List PyData, boolsOf (xs.map fun x => .bool (F x)) = some (xs.map F)
  | [] => rfl
  | x :: xs => by simp -dsimp [boolsOf, boolsOf_mapB F xs]
theorem filter_all (xs : List PyData) : xs.filter (fun _ => true) = xs := List.filter_eq_self.mpr fun _ _ => rfl
end NL
end L2
/-! M5: comparisons of rows. -/
namespace L2
namespace NL
open PySem PySem.Spec PyProof.Rows
/-- of a shape that == may be asked of -/
def Shp (k : Nat) (d : PyData) : Prop := d.canLay0 = true ∧ d.depth ≤ k
theorem Shp.int {k : Nat} {i : Int} : Shp (k + 1) (.int i) := ⟨by simp -dsimp [PyData.canLay0], by simp -dsimp [PyData.depth]⟩
theorem Shp.bool {k : Nat} {i : Bool} : Shp (k + 1) (.bool i) := ⟨by simp -dsimp [PyData.canLay0], by simp -dsimp [PyData.depth]⟩
theorem Shp.none {k : Nat} : Shp (k + 1) .none := ⟨by simp -dsimp [PyData.canLay0], by simp -dsimp [PyData.depth]⟩
theorem canLayAll : ∀ {l : List PyData}, (∀ x ∈ l, x.canLay0 = true) → PyData.canLayAll0 l = true
  | [], _ => by simp -dsimp [PyData.canLayAll0]
  | x :: l, h => by
    unfold PyData.canLayAll0
    rw [h x List.mem_cons_self, canLayAll fun y hy => h y (List.mem_cons_of_mem _ hy)]
    rfl
theorem depthAll_le {k : Nat} : ∀ {l : List PyData}, (∀ x ∈ l, x.depth ≤ k) → PyData.depthAll l ≤ k
  | [], _ => by simp -dsimp [PyData.depthAll]
  | x :: l, h => by
    unfold PyData.depthAll
    have h1 := h x List.mem_cons_self
    have h2 := depthAll_le fun y hy => h y (List.mem_cons_of_mem _ hy)
    omega
theorem Shp.list {k : Nat} {l : List PyData} (h : ∀ x ∈ l, Shp k x) : Shp (k + 1) (.list l) := by
  refine ⟨?_, ?_⟩
  · unfold PyData.canLay0
    exact canLayAll fun x hx => (h x hx).1
  · unfold PyData.depth
    have := depthAll_le fun x hx => (h x hx).2
    omega
theorem Shp.tuple {k : Nat} {l : List PyData} (h : ∀ x ∈ l, Shp k x) : Shp (k + 1) (.tuple l) := by
  refine ⟨?_, ?_⟩
  · unfold PyData.canLay0
    exact canLayAll fun x hx => (h x hx).1
  · unfold PyData.depth
    have := depthAll_le fun x hx => (h x hx).2
    omega
theorem Shp.shaped {k : Nat} {d : PyData} (h : Shp k d) (hk : k ≤ 64) : SeqAt.shaped d = true := by
  unfold SeqAt.shaped
  rw [h.1, Bool.true_and]
  exact decide_eq_true (Nat.le_trans h.2 hk)
theorem oEq_nil {l : List PyData} {k : Nat} (h : ∀ x ∈ l, Shp k x) (hk : k < 64) : oEq (.list l) (.list []) = some (.bool l.isEmpty) := by
  show (if (SeqAt.shaped (.list l) && SeqAt.shaped (.list [])) = true then some (PyData.bool (PyData.eqv (.list l) (.list []))) else none) = _
  have h1 := (Shp.list h).shaped (by omega)
  have h2 : SeqAt.shaped (.list []) = true := by decide +kernel
  rw [h1, h2]
  cases l with
  | nil => simp -dsimp [PyData.eqv, PyData.eqvAll]
  | cons x l => simp -dsimp [PyData.eqv, PyData.eqvAll]
theorem oNe_nil {l : List PyData} {k : Nat} (h : ∀ x ∈ l, Shp k x) (hk : k < 64) : oNe (.list l) (.list []) = some (.bool (!l.isEmpty)) := by
  show (if (SeqAt.shaped (.list l) && SeqAt.shaped (.list [])) = true then some (PyData.bool (!PyData.eqv (.list l) (.list []))) else none) = _
  have h1 := (Shp.list h).shaped (by omega)
  have h2 : SeqAt.shaped (.list []) = true := by decide +kernel
  rw [h1, h2]
  cases l with
  | nil => simp -dsimp [PyData.eqv, PyData.eqvAll]
  | cons x l => simp -dsimp [PyData.eqv, PyData.eqvAll]
theorem bAll_map (F : PyData → Bool) (xs : List PyData) : bAll [.list (xs.map fun x => .bool (F x))] = some (.bool (xs.all F)) := by
  show (boolsOf _).map _ = _
  rw [boolsOf_mapB]
  simp -dsimp
end NL
end L2
namespace L2
namespace NL
open PySem PySem.Spec PyProof.Rows
namespace Wlaw_k16
def top (i : Nat) : Stmt := PySem.Challenge.pw_borderward_k16_whole_faults_of_drafts.main.body.getD i (.Pass ⟨0, 0, 0, 0⟩)
def tblF : List Str := ["NotRight", "NotThere", "NoAnswer", "TooLarge", "Malformed"]
def knownF : List Str := ["NotRight"]
def subF (x y : Str) : Bool := (x == "NotRight" && y == "NotRight")
/-- what the written part gives -/
structure Tx (K : PySem.W.Frag) (mg : Str → Option Value) : Prop where
  f_abs : mg "abs" = none
  f_all : mg "all" = none
  f_bool : mg "bool" = none
  f_dict : mg "dict" = none
  f_enumerate : mg "enumerate" = none
  f_int : mg "int" = none
  f_isinstance : mg "isinstance" = none
  f_len : mg "len" = none
  f_list : mg "list" = none
  f_max : mg "max" = none
  f_range : mg "range" = none
  f_reversed : mg "reversed" = none
  f_str : mg "str" = none
  f_tuple : mg "tuple" = none
  f_zip : mg "zip" = none
  g_BEGIN : Gv K mg "BEGIN" (.int 3)
  g_END : Gv K mg "END" (.int 4)
  g_ENTRIES : Gv K mg "ENTRIES" (.int 5)
  g_HOLDER : Gv K mg "HOLDER" (.int 1)
  g_KIND : Gv K mg "KIND" (.int 0)
  g_KINDS_papers : Gv K mg "KINDS_papers" (.tuple [(.str "pass"), (.str "card"), (.str "visa"), (.str "permit")])
  g_KINDS_sheets : Gv K mg "KINDS_sheets" (.tuple [(.str "pass"), (.str "card"), (.str "visa"), (.str "permit")])
  g_LAST_DAY_papers : Gv K mg "LAST_DAY_papers" (.int 100000)
  g_LAST_DAY_sheets : Gv K mg "LAST_DAY_sheets" (.int 100000)
  g_MOST_ENTRIES_papers : Gv K mg "MOST_ENTRIES_papers" (.int 99)
  g_MOST_ENTRIES_sheets : Gv K mg "MOST_ENTRIES_sheets" (.int 99)
  g_MOST_PAPERS : Gv K mg "MOST_PAPERS" (.int 40)
  g_MOST_SIGNS : Gv K mg "MOST_SIGNS" (.int 12)
  g_MOST_STAYS_sheets : Gv K mg "MOST_STAYS_sheets" (.int 200)
  g_MOST_STAYS_stays : Gv K mg "MOST_STAYS_stays" (.int 200)
  g_STATE : Gv K mg "STATE" (.int 2)
  d__law_draws : DefIn K mg "_law_draws" "_law_draws" (top 43)
  d__law_fault : DefIn K mg "_law_fault" "_law_fault" (top 51)
  d__law_flags : DefIn K mg "_law_flags" "_law_flags" (top 47)
  d__law_is_name : DefIn K mg "_law_is_name" "_law_is_name" (top 48)
  d__law_is_number : DefIn K mg "_law_is_number" "_law_is_number" (top 50)
  d__law_paper : DefIn K mg "_law_paper" "_law_paper" (top 49)
  d__law_pick : DefIn K mg "_law_pick" "_law_pick" (top 45)
  d__law_same : DefIn K mg "_law_same" "_law_same" (top 46)
  d__law_stay_fault : DefIn K mg "_law_stay_fault" "_law_stay_fault" (top 52)
  d__law_stay_faults : DefIn K mg "_law_stay_faults" "_law_stay_faults" (top 54)
  d__law_stays : DefIn K mg "_law_stays" "_law_stays" (top 53)
  d__law_take : DefIn K mg "_law_take" "_law_take" (top 44)
  d__law_told : DefIn K mg "_law_told" "_law_told" (top 55)
  d_are_stays : DefIn K mg "are_stays" "are_stays" (top 28)
  d_check : DefIn K mg "check" "check" (top 11)
  d_check_draft : DefIn K mg "check_draft" "check_draft" (top 38)
  d_is_day_papers : DefIn K mg "is_day_papers" "is_day" (top 22)
  d_is_day_sheets : DefIn K mg "is_day_sheets" "is_day" (top 35)
  d_is_integer : DefIn K mg "is_integer" "is_integer" (top 8)
  d_is_kind : DefIn K mg "is_kind" "is_kind" (top 24)
  d_is_name : DefIn K mg "is_name" "is_name" (top 10)
  d_is_paper : DefIn K mg "is_paper" "is_paper" (top 25)
  d_is_within : DefIn K mg "is_within" "is_within" (top 9)
  d_paper_fault : DefIn K mg "paper_fault" "paper_fault" (top 37)
  d_papers_faults : DefIn K mg "papers_faults" "papers_faults" (top 39)
  d_stay_fault : DefIn K mg "stay_fault" "stay_fault" (top 40)
  d_stays_faults : DefIn K mg "stays_faults" "stays_faults" (top 41)
  x_NotRight : ExcF K mg "NotRight"
  CB : ∃ C : Addr, mg "BorderError" = some (.ref C) ∧ ∀ y ∈ knownF, ∃ D, Flg K mg subF tblF y D ∧ PySem.W.exmOne K (.ref D) (.ref C) = some true

variable {P : Program} {w : World} {K : PySem.W.Frag} {mg : Str → Option Value} {base : Heap}
theorem sc_8 : FnScope ["value"] ["value"] (defScope (top 8)) := ⟨rfl, rfl, rfl, by decide +kernel, rfl, by decide +kernel, by decide +kernel⟩
def B_8 : NStm :=
  sRet (nAnd (nIsi "int" (.o 0)) (nNot (nIsi "bool" (.o 0))))
def D_8 : NExp := runD 1 B_8
theorem n_8 {x : Str} (T : Tx K mg) (h : DefIn K mg x "is_integer" (top 8)) : NFn P w K mg base 1 x 1 D_8 := by
  obtain ⟨f, fd, F0, hm⟩ := h.ex
  exact NFn.of F0 hm sc_8 (FunD.bindsN (ps := ["value"]) F0 fun _ _ _ _ _ _ us hl => match us, hl with | [_], _ => rfl) rfl fun cdv A outer s H E hr => by exact (nss_one (ns_ret (ne_and (ne_isi kit_int (no_o 0) T.f_isinstance T.f_int bt_int) (ne_one (ne_not (ne_isi kit_bool (no_o 0) T.f_isinstance T.f_bool bt_bool))))))
theorem sc_9 : FnScope ["value", "low", "high"] ["value", "low", "high"] (defScope (top 9)) := ⟨rfl, rfl, rfl, by decide +kernel, rfl, by decide +kernel, by decide +kernel⟩
def B_9 : NStm :=
  sRet (nAnd (nCall D_8 (aCons (.o 0) (aNil))) (nChain oLe oLe (.o 1) (.o 0) (.o 2)))
def D_9 : NExp := runD 3 B_9
theorem n_9 {x : Str} (T : Tx K mg) (h : DefIn K mg x "is_within" (top 9)) : NFn P w K mg base 2 x 3 D_9 := by
  obtain ⟨f, fd, F0, hm⟩ := h.ex
  exact NFn.of F0 hm sc_9 (FunD.bindsN (ps := ["value", "low", "high"]) F0 fun _ _ _ _ _ _ us hl => match us, hl with | [_, _, _], _ => rfl) rfl fun cdv A outer s H E hr => by exact (nss_one (ns_ret (ne_and (ne_call ((n_8 T T.d_is_integer).mono (by omega)) hr (takes_of rfl rfl rfl rfl) (na_cons (no_o 0) na_nil) rfl rfl (aCons_len aNil_len)) (ne_one (ne_chain op_leN op_leN no_le no_le (no_o 1) (no_o 0) (no_o 2))))))
theorem sc_10 : FnScope ["value", "sign"] ["value"] (defScope (top 10)) := ⟨rfl, rfl, rfl, by decide +kernel, rfl, by decide +kernel, by decide +kernel⟩
def B_10 : NStm :=
  sSeq (sIf (tOr' (tNot' (asT (.e (nIsi "str" (.o 0))))) (tOr' (tNot' (asB (nChain oLe oLe (.e (nC (.int 1))) (.e (nCB bLen (aCons (.o 0) (aNil)))) (.e (nC (.int 12)))))) (tNot' (asB (nChain oLe oLe (.e (nC (.str "a"))) (.e (nOp2 oIx (.o 0) (.e (nC (.int 0))))) (.e (nC (.str "z")))))))) (sRet (nC (.bool false))) (sNil))
  (sRet (nCB bAll (aCons (.e (nL (nLc (iV (nF 0)) (gN 1) (tYesN) (nOr (nChain oLe oLe (.e (nC (.str "a"))) (.o 1) (.e (nC (.str "z")))) (nChain oLe oLe (.e (nC (.str "0"))) (.o 1) (.e (nC (.str "9"))))) [1]))) (aNil))))
def D_10 : NExp := runD 2 B_10
theorem n_10 {x : Str} (T : Tx K mg) (h : DefIn K mg x "is_name" (top 10)) : NFn P w K mg base 1 x 1 D_10 := by
  obtain ⟨f, fd, F0, hm⟩ := h.ex
  exact NFn.of F0 hm sc_10 (FunD.bindsN (ps := ["value"]) F0 fun _ _ _ _ _ _ us hl => match us, hl with | [_], _ => rfl) rfl fun cdv A outer s H E hr => by exact (nss_cons (ns_if (NW.t (nw_or (nt_not (nt_t (no_e (ne_isi kit_str (no_o 0) T.f_isinstance T.f_str bt_str)))) (nw_or (nt_not (nt_chain op_leN op_leN no_le no_le (no_e ne_int) (no_e (ne_len T.f_len (na_cons (no_o 0) na_nil))) (no_e (ne_g T.g_MOST_SIGNS)))) (nw_or1 (nt_not (nt_chain op_leN op_leN no_le no_le (no_e ne_str) (no_e (ne_ix (no_o 0) (no_e ne_int))) (no_e ne_str))))))) (nss_one (ns_ret ne_bool)) nss_nil)
    (nss_one (ns_ret (ne_cb (cr_all rfl) cn_all T.f_all bt_all (na_cons (no_e (ne_l (neo_lc (own := [("sign", 1)]) rfl sc_10.nd (ni_v (ne_f 0)) (blkOk_by rfl) (fun s_ H_ C_ cl_ fp_ => (ng_name 1 sc_10.nd rfl (by first | exact Or.inl rfl | exact Or.inr rfl))) (fun s_ H_ C_ cl_ fp_ => pts_nilN) (fun s_ H_ C_ cl_ fp_ => (ne_or (ne_chain op_leN op_leN no_le no_le (no_e ne_str) (no_o 1) (no_e ne_str)) (ne_one (ne_chain op_leN op_leN no_le no_le (no_e ne_str) (no_o 1) (no_e ne_str)))))))) na_nil)))))
theorem sc_22 : FnScope ["value"] ["value"] (defScope (top 22)) := ⟨rfl, rfl, rfl, by decide +kernel, rfl, by decide +kernel, by decide +kernel⟩
def B_22 : NStm :=
  sRet (nCall D_9 (aCons (.o 0) (aCons (.e (nC (.int 0))) (aCons (.e (nC (.int 100000))) (aNil)))))
def D_22 : NExp := runD 1 B_22
theorem n_22 {x : Str} (T : Tx K mg) (h : DefIn K mg x "is_day" (top 22)) : NFn P w K mg base 3 x 1 D_22 := by
  obtain ⟨f, fd, F0, hm⟩ := h.ex
  exact NFn.of F0 hm sc_22 (FunD.bindsN (ps := ["value"]) F0 fun _ _ _ _ _ _ us hl => match us, hl with | [_], _ => rfl) rfl fun cdv A outer s H E hr => by exact (nss_one (ns_ret (ne_call ((n_9 T T.d_is_within).mono (by omega)) hr (takes_of rfl rfl rfl rfl) (na_cons (no_o 0) (na_cons (no_e ne_int) (na_cons (no_e (ne_g T.g_LAST_DAY_papers)) na_nil))) rfl rfl (aCons_len (aCons_len (aCons_len aNil_len))))))
theorem sc_24 : FnScope ["value"] ["value"] (defScope (top 24)) := ⟨rfl, rfl, rfl, by decide +kernel, rfl, by decide +kernel, by decide +kernel⟩
def B_24 : NStm :=
  sRet (nAnd (nIsi "str" (.o 0)) (nOp2 oIn (.o 0) (.e (nC (.tuple [(.str "pass"), (.str "card"), (.str "visa"), (.str "permit")])))))
def D_24 : NExp := runD 1 B_24
theorem n_24 {x : Str} (T : Tx K mg) (h : DefIn K mg x "is_kind" (top 24)) : NFn P w K mg base 1 x 1 D_24 := by
  obtain ⟨f, fd, F0, hm⟩ := h.ex
  exact NFn.of F0 hm sc_24 (FunD.bindsN (ps := ["value"]) F0 fun _ _ _ _ _ _ us hl => match us, hl with | [_], _ => rfl) rfl fun cdv A outer s H E hr => by exact (nss_one (ns_ret (ne_and (ne_isi kit_str (no_o 0) T.f_isinstance T.f_str bt_str) (ne_one (ne_cmp (op_inN (u65 hr)) no_in (no_o 0) (no_e (ne_g T.g_KINDS_papers)) rfl)))))
theorem sc_25 : FnScope ["value"] ["value"] (defScope (top 25)) := ⟨rfl, rfl, rfl, by decide +kernel, rfl, by decide +kernel, by decide +kernel⟩
def B_25 : NStm :=
  sSeq (sIf (tOr' (tNot' (asT (.e (nIsi "tuple" (.o 0))))) (tOr' (asB (nOp2 oNe (.e (nCB bLen (aCons (.o 0) (aNil)))) (.e (nC (.int 6))))) (tNot' (asT (.e (nCall D_24 (aCons (.e (nOp2 oIx (.o 0) (.e (nC (.int 0))))) (aNil)))))))) (sRet (nC (.bool false))) (sNil))
  (sSeq (sIf (tOr' (tNot' (asT (.e (nCall D_10 (aCons (.e (nOp2 oIx (.o 0) (.e (nC (.int 1))))) (aNil)))))) (tOr' (tNot' (asT (.e (nCall D_10 (aCons (.e (nOp2 oIx (.o 0) (.e (nC (.int 2))))) (aNil)))))) (tOr' (tNot' (asT (.e (nCall D_22 (aCons (.e (nOp2 oIx (.o 0) (.e (nC (.int 3))))) (aNil)))))) (tNot' (asT (.e (nCall D_22 (aCons (.e (nOp2 oIx (.o 0) (.e (nC (.int 4))))) (aNil))))))))) (sRet (nC (.bool false))) (sNil))
  (sRet (nAnd (nOp2 oLe (.e (nOp2 oIx (.o 0) (.e (nC (.int 3))))) (.e (nOp2 oIx (.o 0) (.e (nC (.int 4)))))) (nOr (nOp2 oIs (.e (nOp2 oIx (.o 0) (.e (nC (.int 5))))) (.e (nC .none))) (nCall D_9 (aCons (.e (nOp2 oIx (.o 0) (.e (nC (.int 5))))) (aCons (.e (nC (.int 1))) (aCons (.e (nC (.int 99))) (aNil)))))))))
def D_25 : NExp := runD 1 B_25
theorem n_25 {x : Str} (T : Tx K mg) (h : DefIn K mg x "is_paper" (top 25)) : NFn P w K mg base 4 x 1 D_25 := by
  obtain ⟨f, fd, F0, hm⟩ := h.ex
  exact NFn.of F0 hm sc_25 (FunD.bindsN (ps := ["value"]) F0 fun _ _ _ _ _ _ us hl => match us, hl with | [_], _ => rfl) rfl fun cdv A outer s H E hr => by exact (nss_cons (ns_if (NW.t (nw_or (nt_not (nt_t (no_e (ne_isi kit_tuple (no_o 0) T.f_isinstance T.f_tuple bt_tuple)))) (nw_or (nt_cmp (op_neN hr.units) no_ne (no_e (ne_len T.f_len (na_cons (no_o 0) na_nil))) (no_e ne_int) rfl) (nw_or1 (nt_not (nt_t (no_e (ne_call ((n_24 T T.d_is_kind).mono (by omega)) hr (takes_of rfl rfl rfl rfl) (na_cons (no_e (ne_ix (no_o 0) (no_e (ne_g T.g_KIND)))) na_nil) rfl rfl (aCons_len aNil_len))))))))) (nss_one (ns_ret ne_bool)) nss_nil)
    (nss_cons (ns_if (NW.t (nw_or (nt_not (nt_t (no_e (ne_call ((n_10 T T.d_is_name).mono (by omega)) hr (takes_of rfl rfl rfl rfl) (na_cons (no_e (ne_ix (no_o 0) (no_e (ne_g T.g_HOLDER)))) na_nil) rfl rfl (aCons_len aNil_len))))) (nw_or (nt_not (nt_t (no_e (ne_call ((n_10 T T.d_is_name).mono (by omega)) hr (takes_of rfl rfl rfl rfl) (na_cons (no_e (ne_ix (no_o 0) (no_e (ne_g T.g_STATE)))) na_nil) rfl rfl (aCons_len aNil_len))))) (nw_or (nt_not (nt_t (no_e (ne_call ((n_22 T T.d_is_day_papers).mono (by omega)) hr (takes_of rfl rfl rfl rfl) (na_cons (no_e (ne_ix (no_o 0) (no_e (ne_g T.g_BEGIN)))) na_nil) rfl rfl (aCons_len aNil_len))))) (nw_or1 (nt_not (nt_t (no_e (ne_call ((n_22 T T.d_is_day_papers).mono (by omega)) hr (takes_of rfl rfl rfl rfl) (na_cons (no_e (ne_ix (no_o 0) (no_e (ne_g T.g_END)))) na_nil) rfl rfl (aCons_len aNil_len)))))))))) (nss_one (ns_ret ne_bool)) nss_nil)
    (nss_one (ns_ret (ne_and (ne_cmp op_leN no_le (no_e (ne_ix (no_o 0) (no_e (ne_g T.g_BEGIN)))) (no_e (ne_ix (no_o 0) (no_e (ne_g T.g_END)))) rfl) (ne_one (ne_or (ne_cmp op_isNN no_is (no_e (ne_ix (no_o 0) (no_e (ne_g T.g_ENTRIES)))) (no_e ne_none) rfl) (ne_one (ne_call ((n_9 T T.d_is_within).mono (by omega)) hr (takes_of rfl rfl rfl rfl) (na_cons (no_e (ne_ix (no_o 0) (no_e (ne_g T.g_ENTRIES)))) (na_cons (no_e ne_int) (na_cons (no_e (ne_g T.g_MOST_ENTRIES_papers)) na_nil))) rfl rfl (aCons_len (aCons_len (aCons_len aNil_len))))))))))))
theorem sc_28 : FnScope ["value", "one", "come", "leave", "a", "b"] ["value"] (defScope (top 28)) := ⟨rfl, rfl, rfl, by decide +kernel, rfl, by decide +kernel, by decide +kernel⟩
def B_28 : NStm :=
  sSeq (sIf (tOr' (tNot' (asT (.e (nIsi "list" (.o 0))))) (asB (nOp2 oGt (.e (nCB bLen (aCons (.o 0) (aNil)))) (.e (nC (.int 200)))))) (sRet (nC (.bool false))) (sNil))
  (sSeq (sIf (tNot' (asT (.e (nCB bAll (aCons (.e (nL (nLc (iV (nF 0)) (gN 1) (tYesN) (nAnd (nIsi "tuple" (.o 1)) (nAnd (nOp2 oEq (.e (nCB bLen (aCons (.o 1) (aNil)))) (.e (nC (.int 2)))) (nAnd (nCall D_22 (aCons (.e (nOp2 oIx (.o 1) (.e (nC (.int 0))))) (aNil))) (nCall D_22 (aCons (.e (nOp2 oIx (.o 1) (.e (nC (.int 1))))) (aNil)))))) [1]))) (aNil)))))) (sRet (nC (.bool false))) (sNil))
  (sRet (nAnd (nCB bAll (aCons (.e (nL (nLc (iV (nF 0)) (gT (gCons' (gN 2) (gCons' (gN 3) (gNil')))) (tYesN) (nOp2 oLe (.o 2) (.o 3)) [2, 3]))) (aNil))) (nCB bAll (aCons (.e (nL (nLc (iZp (aCons (.e (nF 0)) (aCons (.e (nSl (.o 0) (pSome (nC (.int 1))) (pNone))) (aNil)))) (gT (gCons' (gN 4) (gCons' (gN 5) (gNil')))) (tYesN) (nOp2 oLt (.e (nOp2 oIx (.o 4) (.e (nC (.int 1))))) (.e (nOp2 oIx (.o 5) (.e (nC (.int 0)))))) [4, 5]))) (aNil))))))
def D_28 : NExp := runD 6 B_28
theorem n_28 {x : Str} (T : Tx K mg) (h : DefIn K mg x "are_stays" (top 28)) : NFn P w K mg base 4 x 1 D_28 := by
  obtain ⟨f, fd, F0, hm⟩ := h.ex
  exact NFn.of F0 hm sc_28 (FunD.bindsN (ps := ["value"]) F0 fun _ _ _ _ _ _ us hl => match us, hl with | [_], _ => rfl) rfl fun cdv A outer s H E hr => by exact (nss_cons (ns_if (NW.t (nw_or (nt_not (nt_t (no_e (ne_isi kit_list (no_o 0) T.f_isinstance T.f_list bt_list)))) (nw_or1 (nt_cmp op_gtN no_gt (no_e (ne_len T.f_len (na_cons (no_o 0) na_nil))) (no_e (ne_g T.g_MOST_STAYS_stays)) rfl)))) (nss_one (ns_ret ne_bool)) nss_nil)
    (nss_cons (ns_if (nt_not (nt_t (no_e (ne_cb (cr_all rfl) cn_all T.f_all bt_all (na_cons (no_e (ne_l (neo_lc (own := [("one", 1)]) rfl sc_28.nd (ni_v (ne_f 0)) (blkOk_by rfl) (fun s_ H_ C_ cl_ fp_ => (ng_name 1 sc_28.nd rfl (by first | exact Or.inl rfl | exact Or.inr rfl))) (fun s_ H_ C_ cl_ fp_ => pts_nilN) (fun s_ H_ C_ cl_ fp_ => (ne_and (ne_isi kit_tuple (no_o 1) T.f_isinstance T.f_tuple bt_tuple) (ne_and (ne_cmp (op_eqN hr.units) no_eq (no_e (ne_len T.f_len (na_cons (no_o 1) na_nil))) (no_e ne_int) rfl) (ne_and (ne_call ((n_22 T T.d_is_day_papers).mono (by omega)) hr takes0 (na_cons (no_e (ne_ix (no_o 1) (no_e ne_int))) na_nil) rfl rfl (aCons_len aNil_len)) (ne_one (ne_call ((n_22 T T.d_is_day_papers).mono (by omega)) hr takes0 (na_cons (no_e (ne_ix (no_o 1) (no_e ne_int))) na_nil) rfl rfl (aCons_len aNil_len)))))))))) na_nil))))) (nss_one (ns_ret ne_bool)) nss_nil)
    (nss_one (ns_ret (ne_and (ne_cb (cr_all rfl) cn_all T.f_all bt_all (na_cons (no_e (ne_l (neo_lc (own := [("come", 2), ("leave", 3)]) rfl sc_28.nd (ni_v (ne_f 0)) (blkOk_by rfl) (fun s_ H_ C_ cl_ fp_ => (ng_tup rfl (ngs_cons (ng_name 2 sc_28.nd rfl (by first | exact Or.inl rfl | exact Or.inr rfl)) (ngs_cons (ng_name 3 sc_28.nd rfl (by first | exact Or.inl rfl | exact Or.inr rfl)) ngs_nil)) (gCons_len (gCons_len gNil_len)))) (fun s_ H_ C_ cl_ fp_ => pts_nilN) (fun s_ H_ C_ cl_ fp_ => (ne_cmp op_leN no_le (no_o 2) (no_o 3) rfl))))) na_nil)) (ne_one (ne_cb (cr_all rfl) cn_all T.f_all bt_all (na_cons (no_e (ne_l (neo_lc (own := [("a", 4), ("b", 5)]) rfl sc_28.nd (ni_zip T.f_zip (na_cons (no_e (ne_f 0)) (na_cons (no_e (ne_sl (no_o 0) (np_some ne_int) np_none)) na_nil))) (blkOk_by rfl) (fun s_ H_ C_ cl_ fp_ => (ng_tup rfl (ngs_cons (ng_name 4 sc_28.nd rfl (by first | exact Or.inl rfl | exact Or.inr rfl)) (ngs_cons (ng_name 5 sc_28.nd rfl (by first | exact Or.inl rfl | exact Or.inr rfl)) ngs_nil)) (gCons_len (gCons_len gNil_len)))) (fun s_ H_ C_ cl_ fp_ => pts_nilN) (fun s_ H_ C_ cl_ fp_ => (ne_cmp (op_ltN hr.units) no_lt (no_e (ne_ix (no_o 4) (no_e ne_int))) (no_e (ne_ix (no_o 5) (no_e ne_int))) rfl))))) na_nil))))))))
theorem sc_35 : FnScope ["value"] ["value"] (defScope (top 35)) := ⟨rfl, rfl, rfl, by decide +kernel, rfl, by decide +kernel, by decide +kernel⟩
def B_35 : NStm :=
  sRet (nCall D_9 (aCons (.o 0) (aCons (.e (nC (.int 0))) (aCons (.e (nC (.int 100000))) (aNil)))))
def D_35 : NExp := runD 1 B_35
theorem n_35 {x : Str} (T : Tx K mg) (h : DefIn K mg x "is_day" (top 35)) : NFn P w K mg base 3 x 1 D_35 := by
  obtain ⟨f, fd, F0, hm⟩ := h.ex
  exact NFn.of F0 hm sc_35 (FunD.bindsN (ps := ["value"]) F0 fun _ _ _ _ _ _ us hl => match us, hl with | [_], _ => rfl) rfl fun cdv A outer s H E hr => by exact (nss_one (ns_ret (ne_call ((n_9 T T.d_is_within).mono (by omega)) hr (takes_of rfl rfl rfl rfl) (na_cons (no_o 0) (na_cons (no_e ne_int) (na_cons (no_e (ne_g T.g_LAST_DAY_sheets)) na_nil))) rfl rfl (aCons_len (aCons_len (aCons_len aNil_len))))))
theorem sc_37 : FnScope ["at", "paper", "kind", "holder", "state", "begin", "end", "entries", "looks", "wrong", "word", "is_fine"] ["at", "paper"] (defScope (top 37)) := ⟨rfl, rfl, rfl, by decide +kernel, rfl, by decide +kernel, by decide +kernel⟩
def B_37 : NStm :=
  sSeq (sIf (asB (nOp2 oNe (.e (nCB bLen (aCons (.o 1) (aNil)))) (.e (nC (.int 6))))) (sRet (nTup (aCons (.e (nC (.str "form"))) (aCons (.e (nF 0)) (aNil))))) (sNil))
  (sSeq (sAsg (nF 1) (gT (gCons' (gN 2) (gCons' (gN 3) (gCons' (gN 4) (gCons' (gN 5) (gCons' (gN 6) (gCons' (gN 7) (gNil')))))))))
  (sSeq (sAsg (nL (nLstO (aCons (.e (nTup (aCons (.e (nC (.str "kind"))) (aCons (.e (nOp2 oIn (.o 2) (.e (nC (.tuple [(.str "pass"), (.str "card"), (.str "visa"), (.str "permit")]))))) (aNil))))) (aCons (.e (nTup (aCons (.e (nC (.str "holder"))) (aCons (.e (nCall D_10 (aCons (.o 3) (aNil)))) (aNil))))) (aCons (.e (nTup (aCons (.e (nC (.str "state"))) (aCons (.e (nCall D_10 (aCons (.o 4) (aNil)))) (aNil))))) (aCons (.e (nTup (aCons (.e (nC (.str "days"))) (aCons (.e (nAnd (nCall D_35 (aCons (.o 5) (aNil))) (nCall D_35 (aCons (.o 6) (aNil))))) (aNil))))) (aCons (.e (nTup (aCons (.e (nC (.str "order"))) (aCons (.e (nAnd (nCall D_35 (aCons (.o 5) (aNil))) (nAnd (nCall D_35 (aCons (.o 6) (aNil))) (nOp2 oLe (.o 5) (.o 6))))) (aNil))))) (aCons (.e (nTup (aCons (.e (nC (.str "entries"))) (aCons (.e (nOr (nOp2 oIs (.o 7) (.e (nC .none))) (nCall D_9 (aCons (.o 7) (aCons (.e (nC (.int 1))) (aCons (.e (nC (.int 99))) (aNil))))))) (aNil))))) (aNil))))))))) (gN 8))
  (sSeq (sSetL 9 (nLc (iV (nV 8)) (gT (gCons' (gN 10) (gCons' (gN 11) (gNil')))) (tNot' (asT (.o 11))) (nV 10) [10, 11]))
  (sRet (nIf (asB (nOp2 oGt (.e (nCB bLen (aCons (.o 9) (aNil)))) (.e (nC (.int 0))))) (nTup (aCons (.e (nOp2 oIx (.o 9) (.e (nC (.int 0))))) (aCons (.e (nF 0)) (aNil)))) (nC .none))))))
def D_37 : NExp := runD 12 B_37
theorem n_37 {x : Str} (T : Tx K mg) (h : DefIn K mg x "paper_fault" (top 37)) : NFn P w K mg base 4 x 2 D_37 := by
  obtain ⟨f, fd, F0, hm⟩ := h.ex
  exact NFn.of F0 hm sc_37 (FunD.bindsN (ps := ["at", "paper"]) F0 fun _ _ _ _ _ _ us hl => match us, hl with | [_, _], _ => rfl) rfl fun cdv A outer s H E hr => by exact (nss_cons (ns_if (nt_cmp (op_neN hr.units) no_ne (no_e (ne_len T.f_len (na_cons (no_o 1) na_nil))) (no_e ne_int) rfl) (nss_one (ns_ret (ne_tup (na_cons (no_e ne_str) (na_cons (no_e (ne_f 0)) na_nil))))) nss_nil)
    (nss_cons (ns_asg (ne_f 1) (ng_tup rfl (ngs_cons (ng_name 2 sc_37.nd rfl (by first | exact Or.inl rfl | exact Or.inr rfl)) (ngs_cons (ng_name 3 sc_37.nd rfl (by first | exact Or.inl rfl | exact Or.inr rfl)) (ngs_cons (ng_name 4 sc_37.nd rfl (by first | exact Or.inl rfl | exact Or.inr rfl)) (ngs_cons (ng_name 5 sc_37.nd rfl (by first | exact Or.inl rfl | exact Or.inr rfl)) (ngs_cons (ng_name 6 sc_37.nd rfl (by first | exact Or.inl rfl | exact Or.inr rfl)) (ngs_cons (ng_name 7 sc_37.nd rfl (by first | exact Or.inl rfl | exact Or.inr rfl)) ngs_nil)))))) (gCons_len (gCons_len (gCons_len (gCons_len (gCons_len (gCons_len gNil_len))))))))
    (nss_cons (ns_asg (ne_l (neo_lst (na_cons (no_e (ne_tup (na_cons (no_e ne_str) (na_cons (no_e (ne_cmp (op_inN (u65 hr)) no_in (no_o 2) (no_e (ne_g T.g_KINDS_sheets)) rfl)) na_nil)))) (na_cons (no_e (ne_tup (na_cons (no_e ne_str) (na_cons (no_e (ne_call ((n_10 T T.d_is_name).mono (by omega)) hr (takes_of rfl rfl rfl rfl) (na_cons (no_o 3) na_nil) rfl rfl (aCons_len aNil_len))) na_nil)))) (na_cons (no_e (ne_tup (na_cons (no_e ne_str) (na_cons (no_e (ne_call ((n_10 T T.d_is_name).mono (by omega)) hr (takes_of rfl rfl rfl rfl) (na_cons (no_o 4) na_nil) rfl rfl (aCons_len aNil_len))) na_nil)))) (na_cons (no_e (ne_tup (na_cons (no_e ne_str) (na_cons (no_e (ne_and (ne_call ((n_35 T T.d_is_day_sheets).mono (by omega)) hr (takes_of rfl rfl rfl rfl) (na_cons (no_o 5) na_nil) rfl rfl (aCons_len aNil_len)) (ne_one (ne_call ((n_35 T T.d_is_day_sheets).mono (by omega)) hr (takes_of rfl rfl rfl rfl) (na_cons (no_o 6) na_nil) rfl rfl (aCons_len aNil_len))))) na_nil)))) (na_cons (no_e (ne_tup (na_cons (no_e ne_str) (na_cons (no_e (ne_and (ne_call ((n_35 T T.d_is_day_sheets).mono (by omega)) hr (takes_of rfl rfl rfl rfl) (na_cons (no_o 5) na_nil) rfl rfl (aCons_len aNil_len)) (ne_and (ne_call ((n_35 T T.d_is_day_sheets).mono (by omega)) hr (takes_of rfl rfl rfl rfl) (na_cons (no_o 6) na_nil) rfl rfl (aCons_len aNil_len)) (ne_one (ne_cmp op_leN no_le (no_o 5) (no_o 6) rfl))))) na_nil)))) (na_cons (no_e (ne_tup (na_cons (no_e ne_str) (na_cons (no_e (ne_or (ne_cmp op_isNN no_is (no_o 7) (no_e ne_none) rfl) (ne_one (ne_call ((n_9 T T.d_is_within).mono (by omega)) hr (takes_of rfl rfl rfl rfl) (na_cons (no_o 7) (na_cons (no_e ne_int) (na_cons (no_e (ne_g T.g_MOST_ENTRIES_sheets)) na_nil))) rfl rfl (aCons_len (aCons_len (aCons_len aNil_len))))))) na_nil)))) na_nil)))))))) (ng_name 8 sc_37.nd rfl (by first | exact Or.inl rfl | exact Or.inr rfl)))
    (nss_cons (ns_setLc (own := [("word", 10), ("is_fine", 11)]) 9 rfl sc_37.nd rfl rfl rfl (ni_v (ne_v 8)) (blkOk_by rfl) (fun s_ H_ C_ cl_ fp_ => (ng_tup rfl (ngs_cons (ng_name 10 sc_37.nd rfl (by first | exact Or.inl rfl | exact Or.inr rfl)) (ngs_cons (ng_name 11 sc_37.nd rfl (by first | exact Or.inl rfl | exact Or.inr rfl)) ngs_nil)) (gCons_len (gCons_len gNil_len)))) (fun s_ H_ C_ cl_ fp_ => (pts_oneN (nt_not (nt_t (no_o 11))))) (fun s_ H_ C_ cl_ fp_ => (ne_v 10)))
    (nss_one (ns_ret (ne_if (nt_cmp op_gtN no_gt (no_e (ne_len T.f_len (na_cons (no_o 9) na_nil))) (no_e ne_int) rfl) (ne_tup (na_cons (no_e (ne_ix (no_o 9) (no_e ne_int))) (na_cons (no_e (ne_f 0)) na_nil))) ne_none)))))))
theorem sc_11 : FnScope ["is_right"] ["is_right"] (defScope (top 11)) := ⟨rfl, rfl, rfl, by decide +kernel, rfl, by decide +kernel, by decide +kernel⟩
def B_11 : NStm :=
  sIf (tNot' (asT (.o 0))) (sRaise "NotRight") (sNil)
def D_11 : NExp := runD 1 B_11
theorem n_11 {x : Str} (T : Tx K mg) (h : DefIn K mg x "check" (top 11)) : NFn P w K mg base 1 x 1 D_11 := by
  obtain ⟨f, fd, F0, hm⟩ := h.ex
  exact NFn.of F0 hm sc_11 (FunD.bindsN (ps := ["is_right"]) F0 fun _ _ _ _ _ _ us hl => match us, hl with | [_], _ => rfl) rfl fun cdv A outer s H E hr => by exact (nss_one (ns_if (nt_not (nt_t (no_o 0))) (nss_one (ns_raise T.x_NotRight rfl (takes_of rfl rfl rfl rfl))) nss_nil))
theorem sc_38 : FnScope ["draft", "one"] ["draft"] (defScope (top 38)) := ⟨rfl, rfl, rfl, by decide +kernel, rfl, by decide +kernel, by decide +kernel⟩
def B_38 : NStm :=
  sExpr (nCall D_11 (aCons (.e (nAnd (nIsi "list" (.o 0)) (nCB bAll (aCons (.e (nL (nLc (iV (nF 0)) (gN 1) (tYesN) (nIsi "tuple" (.o 1)) [1]))) (aNil))))) (aNil)))
def D_38 : NExp := runD 2 B_38
theorem n_38 {x : Str} (T : Tx K mg) (h : DefIn K mg x "check_draft" (top 38)) : NFn P w K mg base 2 x 1 D_38 := by
  obtain ⟨f, fd, F0, hm⟩ := h.ex
  exact NFn.of F0 hm sc_38 (FunD.bindsN (ps := ["draft"]) F0 fun _ _ _ _ _ _ us hl => match us, hl with | [_], _ => rfl) rfl fun cdv A outer s H E hr => by exact (nss_one (ns_expr (ne_call ((n_11 T T.d_check).mono (by omega)) hr (takes_of rfl rfl rfl rfl) (na_cons (no_e (ne_and (ne_isi kit_list (no_o 0) T.f_isinstance T.f_list bt_list) (ne_one (ne_cb (cr_all rfl) cn_all T.f_all bt_all (na_cons (no_e (ne_l (neo_lc (own := [("one", 1)]) rfl sc_38.nd (ni_v (ne_f 0)) (blkOk_by rfl) (fun s_ H_ C_ cl_ fp_ => (ng_name 1 sc_38.nd rfl (by first | exact Or.inl rfl | exact Or.inr rfl))) (fun s_ H_ C_ cl_ fp_ => pts_nilN) (fun s_ H_ C_ cl_ fp_ => (ne_isi kit_tuple (no_o 1) T.f_isinstance T.f_tuple bt_tuple))))) na_nil))))) na_nil) rfl rfl (aCons_len aNil_len))))
theorem sc_39 : FnScope ["draft", "found", "faults", "at", "paper", "fault"] ["draft"] (defScope (top 39)) := ⟨rfl, rfl, rfl, by decide +kernel, rfl, by decide +kernel, by decide +kernel⟩
def B_39 : NStm :=
  sSeq (sExpr (nCall D_38 (aCons (.o 0) (aNil))))
  (sSeq (sAsg (nIf (asB (nOp2 oGt (.e (nCB bLen (aCons (.o 0) (aNil)))) (.e (nC (.int 40))))) (nL (nLstO (aCons (.e (nTup (aCons (.e (nC (.str "many"))) (aCons (.e (nCB bLen (aCons (.o 0) (aNil)))) (aNil))))) (aNil)))) (nL (nLstO (aNil)))) (gN 1))
  (sSeq (sSetL 2 (nLc (iEn (aCons (.e (nF 0)) (aNil))) (gT (gCons' (gN 3) (gCons' (gN 4) (gNil')))) (tYesN) (nCall D_37 (aCons (.o 3) (aCons (.o 4) (aNil)))) [3, 4]))
  (sRet (nOp2 oAdd (.o 1) (.e (nL (nLc (iV (nV 2)) (gN 5) (asB (nOp2 oIsNot (.o 5) (.e (nC .none)))) (nV 5) [5])))))))
def D_39 : NExp := runD 6 B_39
theorem n_39 {x : Str} (T : Tx K mg) (h : DefIn K mg x "papers_faults" (top 39)) : NFn P w K mg base 5 x 1 D_39 := by
  obtain ⟨f, fd, F0, hm⟩ := h.ex
  exact NFn.of F0 hm sc_39 (FunD.bindsN (ps := ["draft"]) F0 fun _ _ _ _ _ _ us hl => match us, hl with | [_], _ => rfl) rfl fun cdv A outer s H E hr => by exact (nss_cons (ns_expr (ne_call ((n_38 T T.d_check_draft).mono (by omega)) hr (takes_of rfl rfl rfl rfl) (na_cons (no_o 0) na_nil) rfl rfl (aCons_len aNil_len)))
    (nss_cons (ns_asg (ne_if (nt_cmp op_gtN no_gt (no_e (ne_len T.f_len (na_cons (no_o 0) na_nil))) (no_e (ne_g T.g_MOST_PAPERS)) rfl) (ne_l (neo_lst (na_cons (no_e (ne_tup (na_cons (no_e ne_str) (na_cons (no_e (ne_len T.f_len (na_cons (no_o 0) na_nil))) na_nil)))) na_nil))) (ne_l (neo_lst na_nil))) (ng_name 1 sc_39.nd rfl (by first | exact Or.inl rfl | exact Or.inr rfl)))
    (nss_cons (ns_setLc (own := [("at", 3), ("paper", 4)]) 2 rfl sc_39.nd rfl rfl rfl (ni_enum T.f_enumerate (na_cons (no_e (ne_f 0)) na_nil)) (blkOk_by rfl) (fun s_ H_ C_ cl_ fp_ => (ng_tup rfl (ngs_cons (ng_name 3 sc_39.nd rfl (by first | exact Or.inl rfl | exact Or.inr rfl)) (ngs_cons (ng_name 4 sc_39.nd rfl (by first | exact Or.inl rfl | exact Or.inr rfl)) ngs_nil)) (gCons_len (gCons_len gNil_len)))) (fun s_ H_ C_ cl_ fp_ => pts_nilN) (fun s_ H_ C_ cl_ fp_ => (ne_call ((n_37 T T.d_paper_fault).mono (by omega)) hr takes0 (na_cons (no_o 3) (na_cons (no_o 4) na_nil)) rfl rfl (aCons_len (aCons_len aNil_len)))))
    (nss_one (ns_ret (ne_op op_addN no_add (no_o 1) (no_e (ne_l (neo_lc (own := [("fault", 5)]) rfl sc_39.nd (ni_v (ne_v 2)) (blkOk_by rfl) (fun s_ H_ C_ cl_ fp_ => (ng_name 5 sc_39.nd rfl (by first | exact Or.inl rfl | exact Or.inr rfl))) (fun s_ H_ C_ cl_ fp_ => (pts_oneN (nt_cmp op_notNN no_isnot (no_o 5) (no_e ne_none) rfl))) (fun s_ H_ C_ cl_ fp_ => (ne_v 5)))))))))))
theorem sc_40 : FnScope ["at", "stay", "one"] ["at", "stay"] (defScope (top 40)) := ⟨rfl, rfl, rfl, by decide +kernel, rfl, by decide +kernel, by decide +kernel⟩
def B_40 : NStm :=
  sSeq (sIf (tOr' (asB (nOp2 oNe (.e (nCB bLen (aCons (.o 1) (aNil)))) (.e (nC (.int 2))))) (tNot' (asT (.e (nCB bAll (aCons (.e (nL (nLc (iV (nF 1)) (gN 2) (tYesN) (nCall D_35 (aCons (.o 2) (aNil))) [2]))) (aNil))))))) (sRet (nTup (aCons (.e (nC (.str "form"))) (aCons (.e (nF 0)) (aNil))))) (sNil))
  (sRet (nIf (asB (nOp2 oLt (.e (nOp2 oIx (.o 1) (.e (nC (.int 1))))) (.e (nOp2 oIx (.o 1) (.e (nC (.int 0))))))) (nTup (aCons (.e (nC (.str "order"))) (aCons (.e (nF 0)) (aNil)))) (nC .none)))
def D_40 : NExp := runD 3 B_40
theorem n_40 {x : Str} (T : Tx K mg) (h : DefIn K mg x "stay_fault" (top 40)) : NFn P w K mg base 4 x 2 D_40 := by
  obtain ⟨f, fd, F0, hm⟩ := h.ex
  exact NFn.of F0 hm sc_40 (FunD.bindsN (ps := ["at", "stay"]) F0 fun _ _ _ _ _ _ us hl => match us, hl with | [_, _], _ => rfl) rfl fun cdv A outer s H E hr => by exact (nss_cons (ns_if (NW.t (nw_or (nt_cmp (op_neN hr.units) no_ne (no_e (ne_len T.f_len (na_cons (no_o 1) na_nil))) (no_e ne_int) rfl) (nw_or1 (nt_not (nt_t (no_e (ne_cb (cr_all rfl) cn_all T.f_all bt_all (na_cons (no_e (ne_l (neo_lc (own := [("one", 2)]) rfl sc_40.nd (ni_v (ne_f 1)) (blkOk_by rfl) (fun s_ H_ C_ cl_ fp_ => (ng_name 2 sc_40.nd rfl (by first | exact Or.inl rfl | exact Or.inr rfl))) (fun s_ H_ C_ cl_ fp_ => pts_nilN) (fun s_ H_ C_ cl_ fp_ => (ne_call ((n_35 T T.d_is_day_sheets).mono (by omega)) hr takes0 (na_cons (no_o 2) na_nil) rfl rfl (aCons_len aNil_len)))))) na_nil)))))))) (nss_one (ns_ret (ne_tup (na_cons (no_e ne_str) (na_cons (no_e (ne_f 0)) na_nil))))) nss_nil)
    (nss_one (ns_ret (ne_if (nt_cmp (op_ltN hr.units) no_lt (no_e (ne_ix (no_o 1) (no_e ne_int))) (no_e (ne_ix (no_o 1) (no_e ne_int))) rfl) (ne_tup (na_cons (no_e ne_str) (na_cons (no_e (ne_f 0)) na_nil))) ne_none))))
theorem sc_41 : FnScope ["draft", "found", "faults", "at", "stay", "fault"] ["draft"] (defScope (top 41)) := ⟨rfl, rfl, rfl, by decide +kernel, rfl, by decide +kernel, by decide +kernel⟩
def B_41 : NStm :=
  sSeq (sExpr (nCall D_38 (aCons (.o 0) (aNil))))
  (sSeq (sOwn 1 (nIfO (asB (nOp2 oGt (.e (nCB bLen (aCons (.o 0) (aNil)))) (.e (nC (.int 200))))) (nLstO (aCons (.e (nTup (aCons (.e (nC (.str "many"))) (aCons (.e (nCB bLen (aCons (.o 0) (aNil)))) (aNil))))) (aNil))) (nLstO (aNil))))
  (sSeq (sSetL 2 (nLc (iEn (aCons (.e (nF 0)) (aNil))) (gT (gCons' (gN 3) (gCons' (gN 4) (gNil')))) (tYesN) (nCall D_40 (aCons (.o 3) (aCons (.o 4) (aNil)))) [3, 4]))
  (sSeq (sExpr (nMeth1 1 mExtend (.e (nL (nLc (iV (nV 2)) (gN 5) (asB (nOp2 oIsNot (.o 5) (.e (nC .none)))) (nV 5) [5])))))
  (sSeq (sIf (asB (nOp2 oGt (.e (nCB bLen (aCons (.o 1) (aNil)))) (.e (nC (.int 0))))) (sRet (nF 1)) (sNil))
  (sRet (nL (nLc (iRg2 (aCons (.e (nC (.int 1))) (aCons (.e (nCB bLen (aCons (.o 0) (aNil)))) (aNil)))) (gN 3) (asB (nOp2 oLe (.e (nOp2 oIx (.e (nOp2 oIx (.o 0) (.o 3))) (.e (nC (.int 0))))) (.e (nOp2 oIx (.e (nOp2 oIx (.o 0) (.e (nOp2 oSub (.o 3) (.e (nC (.int 1))))))) (.e (nC (.int 1))))))) (nTup (aCons (.e (nC (.str "apart"))) (aCons (.e (nV 3)) (aNil)))) [3])))))))
def D_41 : NExp := runD 6 B_41
theorem n_41 {x : Str} (T : Tx K mg) (h : DefIn K mg x "stays_faults" (top 41)) : NFn P w K mg base 5 x 1 D_41 := by
  obtain ⟨f, fd, F0, hm⟩ := h.ex
  exact NFn.of F0 hm sc_41 (FunD.bindsN (ps := ["draft"]) F0 fun _ _ _ _ _ _ us hl => match us, hl with | [_], _ => rfl) rfl fun cdv A outer s H E hr => by exact (nss_cons (ns_expr (ne_call ((n_38 T T.d_check_draft).mono (by omega)) hr (takes_of rfl rfl rfl rfl) (na_cons (no_o 0) na_nil) rfl rfl (aCons_len aNil_len)))
    (nss_cons (ns_own 1 sc_41.nd rfl (by first | exact Or.inl rfl | exact Or.inr rfl) (neo_if (nt_cmp op_gtN no_gt (no_e (ne_len T.f_len (na_cons (no_o 0) na_nil))) (no_e (ne_g T.g_MOST_STAYS_sheets)) rfl) (neo_lst (na_cons (no_e (ne_tup (na_cons (no_e ne_str) (na_cons (no_e (ne_len T.f_len (na_cons (no_o 0) na_nil))) na_nil)))) na_nil)) (neo_lst na_nil)))
    (nss_cons (ns_setLc (own := [("at", 3), ("stay", 4)]) 2 rfl sc_41.nd rfl rfl rfl (ni_enum T.f_enumerate (na_cons (no_e (ne_f 0)) na_nil)) (blkOk_by rfl) (fun s_ H_ C_ cl_ fp_ => (ng_tup rfl (ngs_cons (ng_name 3 sc_41.nd rfl (by first | exact Or.inl rfl | exact Or.inr rfl)) (ngs_cons (ng_name 4 sc_41.nd rfl (by first | exact Or.inl rfl | exact Or.inr rfl)) ngs_nil)) (gCons_len (gCons_len gNil_len)))) (fun s_ H_ C_ cl_ fp_ => pts_nilN) (fun s_ H_ C_ cl_ fp_ => (ne_call ((n_40 T T.d_stay_fault).mono (by omega)) hr takes0 (na_cons (no_o 3) (na_cons (no_o 4) na_nil)) rfl rfl (aCons_len (aCons_len aNil_len)))))
    (nss_cons (ns_expr (ne_meth1 1 PySem.F.slot_list_extend PySem.F.type_list_extend mt_extend me_extend (no_e (ne_l (neo_lc (own := [("fault", 5)]) rfl sc_41.nd (ni_v (ne_v 2)) (blkOk_by rfl) (fun s_ H_ C_ cl_ fp_ => (ng_name 5 sc_41.nd rfl (by first | exact Or.inl rfl | exact Or.inr rfl))) (fun s_ H_ C_ cl_ fp_ => (pts_oneN (nt_cmp op_notNN no_isnot (no_o 5) (no_e ne_none) rfl))) (fun s_ H_ C_ cl_ fp_ => (ne_v 5)))))))
    (nss_cons (ns_if (nt_cmp op_gtN no_gt (no_e (ne_len T.f_len (na_cons (no_o 1) na_nil))) (no_e ne_int) rfl) (nss_one (ns_ret (ne_f 1))) nss_nil)
    (nss_one (ns_ret (ne_l (neo_lc (own := [("at", 3)]) rfl sc_41.nd (ni_rg2 T.f_range (na_cons (no_e ne_int) (na_cons (no_e (ne_len T.f_len (na_cons (no_o 0) na_nil))) na_nil))) (blkOk_by rfl) (fun s_ H_ C_ cl_ fp_ => (ng_name 3 sc_41.nd rfl (by first | exact Or.inl rfl | exact Or.inr rfl))) (fun s_ H_ C_ cl_ fp_ => (pts_oneN (nt_cmp op_leN no_le (no_e (ne_ix (no_e (ne_ix (no_o 0) (no_o 3))) (no_e ne_int))) (no_e (ne_ix (no_e (ne_ix (no_o 0) (no_e (ne_op op_sub no_sub (no_o 3) (no_e ne_int))))) (no_e ne_int))) rfl))) (fun s_ H_ C_ cl_ fp_ => (ne_tup (na_cons (no_e ne_str) (na_cons (no_e (ne_v 3)) na_nil)))))))))))))
theorem sc_43 : FnScope ["script", "draws", "seed", "cell", "number", "k"] ["script"] (defScope (top 43)) := ⟨rfl, rfl, rfl, by decide +kernel, rfl, by decide +kernel, by decide +kernel⟩
def B_43 : NSt → R (List PyData) :=
  sSeqO (sOwn 1 (nLstO (aNil)))
  (sSeqO (sAsg (nC (.int 11)) (gN 2))
  (sSeqO (sFor (iScr 0) (gN 3) (sSeq (sAsg (nCB bAbs (aCons (.e (nCB bInt (aCons (.o 3) (aNil)))) (aNil))) (gN 4))
  (sSeq (sAsg (nOp2 oMod (.e (nCB bInt (aCons (.e (nOp2 oAdd (.e (nOp2 oAdd (.e (nOp2 oMul (.o 2) (.e (nC (.int 48271))))) (.o 4))) (.e (nC (.int 1))))) (aNil)))) (.e (nC (.int 2147483647)))) (gN 2))
  (sSeq (sIf (asB (nOp2 oLt (.o 4) (.e (nOp2 oPow (.e (nC (.int 10))) (.e (nC (.int 18))))))) (sSeq (sExpr (nAppend 1 (nOp2 oMod (.e (nCB bInt (aCons (.o 4) (aNil)))) (.e (nC (.int 997))))))
  (sSeq (sExpr (nAppend 1 (nOp2 oMod (.e (nCB bInt (aCons (.o 2) (aNil)))) (.e (nC (.int 65521))))))
  (sAsg (nC (.int 0)) (gN 4)))) (sNil))
  (sFor (iRg1 (aCons (.e (nC (.int 60))) (aNil))) (gN 5) (sIf (asB (nOp2 oGt (.o 4) (.e (nC (.int 0))))) (sSeq (sExpr (nAppend 1 (nOp2 oMod (.e (nCB bInt (aCons (.o 4) (aNil)))) (.e (nC (.int 997))))))
  (sAsg (nOp2 oFdiv (.o 4) (.e (nC (.int 997)))) (gN 4))) (sNil)))))))
  (sSeqO (sFor (iRg1 (aCons (.e (nC (.int 900))) (aNil))) (gN 5) (sSeq (sAsg (nOp2 oMod (.e (nCB bInt (aCons (.e (nOp2 oAdd (.e (nOp2 oMul (.o 2) (.e (nC (.int 48271))))) (.e (nC (.int 69621))))) (aNil)))) (.e (nC (.int 2147483647)))) (gN 2))
  (sExpr (nAppend 1 (nOp2 oFdiv (.o 2) (.e (nC (.int 5))))))))
  (nLstRev (.o 1)))))
def D_43 : NSt → R (List PyData) := runDO 6 B_43
theorem n_43 {x : Str} (T : Tx K mg) (h : DefIn K mg x "_law_draws" (top 43)) : NFnO P w K mg base 1 x 1 D_43 := by
  obtain ⟨f, fd, F0, hm⟩ := h.ex
  exact NFnO.of F0 hm sc_43 (FunD.bindsN (ps := ["script"]) F0 fun _ _ _ _ _ _ us hl => match us, hl with | [_], _ => rfl) rfl fun cdv A outer s H E hr => by exact (nso_cons (ns_own 1 sc_43.nd rfl (by first | exact Or.inl rfl | exact Or.inr rfl) (neo_lst na_nil))
    (nso_cons (ns_asg ne_int (ng_name 2 sc_43.nd rfl (by first | exact Or.inl rfl | exact Or.inr rfl)))
    (nso_cons (ns_for (passes_of rfl) rfl (ni_scr 0) (ng_name 3 sc_43.nd rfl (by first | exact Or.inl rfl | exact Or.inr rfl)) (nss_cons (ns_asg (ne_cb call_abs cn_abs T.f_abs bt_abs (na_cons (no_e (ne_cty call_int1 cn_int T.f_int bt_int (na_cons (no_o 3) na_nil))) na_nil)) (ng_name 4 sc_43.nd rfl (by first | exact Or.inl rfl | exact Or.inr rfl)))
    (nss_cons (ns_asg (ne_op op_modN no_mod (no_e (ne_cty call_int1 cn_int T.f_int bt_int (na_cons (no_e (ne_op op_addN no_add (no_e (ne_op op_addN no_add (no_e (ne_op op_mulN no_mul (no_o 2) (no_e ne_int))) (no_o 4))) (no_e ne_int))) na_nil))) (no_e ne_int)) (ng_name 2 sc_43.nd rfl (by first | exact Or.inl rfl | exact Or.inr rfl)))
    (nss_cons (ns_if (nt_cmp (op_ltN hr.units) no_lt (no_o 4) (no_e (ne_op op_pow no_pow (no_e ne_int) (no_e ne_int))) rfl) (nss_cons (ns_expr (ne_append 1 (ne_op op_modN no_mod (no_e (ne_cty call_int1 cn_int T.f_int bt_int (na_cons (no_o 4) na_nil))) (no_e ne_int))))
    (nss_cons (ns_expr (ne_append 1 (ne_op op_modN no_mod (no_e (ne_cty call_int1 cn_int T.f_int bt_int (na_cons (no_o 2) na_nil))) (no_e ne_int))))
    (nss_one (ns_asg ne_int (ng_name 4 sc_43.nd rfl (by first | exact Or.inl rfl | exact Or.inr rfl)))))) nss_nil)
    (nss_one (ns_for (passes_of rfl) rfl (ni_rg1 T.f_range (na_cons (no_e ne_int) na_nil)) (ng_name 5 sc_43.nd rfl (by first | exact Or.inl rfl | exact Or.inr rfl)) (nss_one (ns_if (nt_cmp op_gtN no_gt (no_o 4) (no_e ne_int) rfl) (nss_cons (ns_expr (ne_append 1 (ne_op op_modN no_mod (no_e (ne_cty call_int1 cn_int T.f_int bt_int (na_cons (no_o 4) na_nil))) (no_e ne_int))))
    (nss_one (ns_asg (ne_op op_fdivNN no_fdiv (no_o 4) (no_e ne_int)) (ng_name 4 sc_43.nd rfl (by first | exact Or.inl rfl | exact Or.inr rfl))))) nss_nil))))))))
    (nso_cons (ns_for (passes_of rfl) rfl (ni_rg1 T.f_range (na_cons (no_e ne_int) na_nil)) (ng_name 5 sc_43.nd rfl (by first | exact Or.inl rfl | exact Or.inr rfl)) (nss_cons (ns_asg (ne_op op_modN no_mod (no_e (ne_cty call_int1 cn_int T.f_int bt_int (na_cons (no_e (ne_op op_addN no_add (no_e (ne_op op_mulN no_mul (no_o 2) (no_e ne_int))) (no_e ne_int))) na_nil))) (no_e ne_int)) (ng_name 2 sc_43.nd rfl (by first | exact Or.inl rfl | exact Or.inr rfl)))
    (nss_one (ns_expr (ne_append 1 (ne_op op_fdivNN no_fdiv (no_o 2) (no_e ne_int)))))))
    (nso_ret (neo_listRev rfl T.f_list T.f_reversed (no_o 1)))))))
theorem sc_44 : FnScope ["draws", "bound"] ["draws", "bound"] (defScope (top 44)) := ⟨rfl, rfl, rfl, by decide +kernel, rfl, by decide +kernel, by decide +kernel⟩
def B_44 : NStm :=
  sSeq (sIf (asB (nOp2 oEq (.e (nCB bLen (aCons (.o 0) (aNil)))) (.e (nC (.int 0))))) (sRet (nC (.int 0))) (sNil))
  (sRet (nOp2 oMod (.e (nCB bInt (aCons (.e (nPop 0)) (aNil)))) (.o 1)))
def D_44 : NExp := runD 2 B_44
theorem n_44 {x : Str} (T : Tx K mg) (h : DefIn K mg x "_law_take" (top 44)) : NFn P w K mg base 1 x 2 D_44 := by
  obtain ⟨f, fd, F0, hm⟩ := h.ex
  exact NFn.of F0 hm sc_44 (FunD.bindsN (ps := ["draws", "bound"]) F0 fun _ _ _ _ _ _ us hl => match us, hl with | [_, _], _ => rfl) rfl fun cdv A outer s H E hr => by exact (nss_cons (ns_if (nt_cmp (op_eqN hr.units) no_eq (no_e (ne_len T.f_len (na_cons (no_o 0) na_nil))) (no_e ne_int) rfl) (nss_one (ns_ret ne_int)) nss_nil)
    (nss_one (ns_ret (ne_op op_modN no_mod (no_e (ne_cty call_int1 cn_int T.f_int bt_int (na_cons (no_e (ne_pop 0)) na_nil))) (no_o 1)))))
theorem sc_45 : FnScope ["draws", "some"] ["draws", "some"] (defScope (top 45)) := ⟨rfl, rfl, rfl, by decide +kernel, rfl, by decide +kernel, by decide +kernel⟩
def B_45 : NStm :=
  sRet (nOp2 oIx (.o 1) (.e (nCall D_44 (aCons (.o 0) (aCons (.e (nCB bLen (aCons (.o 1) (aNil)))) (aNil))))))
def D_45 : NExp := runD 2 B_45
theorem n_45 {x : Str} (T : Tx K mg) (h : DefIn K mg x "_law_pick" (top 45)) : NFn P w K mg base 2 x 2 D_45 := by
  obtain ⟨f, fd, F0, hm⟩ := h.ex
  exact NFn.of F0 hm sc_45 (FunD.bindsN (ps := ["draws", "some"]) F0 fun _ _ _ _ _ _ us hl => match us, hl with | [_, _], _ => rfl) rfl fun cdv A outer s H E hr => by exact (nss_one (ns_ret (ne_ix (no_o 1) (no_e (ne_call ((n_44 T T.d__law_take).mono (by omega)) hr (takes_of rfl rfl rfl rfl) (na_cons (no_o 0) (na_cons (no_e (ne_len T.f_len (na_cons (no_o 1) na_nil))) na_nil)) rfl rfl (aCons_len (aCons_len aNil_len)))))))
theorem sc_46 : FnScope ["actual", "due", "k", "key"] ["actual", "due"] (defScope (top 46)) := ⟨rfl, rfl, rfl, by decide +kernel, rfl, by decide +kernel, by decide +kernel⟩
def B_46 (D : NExp) : NStm :=
  sSeq (sIf (asB (nOp2 oIs (.o 1) (.e (nC .none)))) (sRet (nOp2 oIs (.o 0) (.e (nC .none)))) (sNil))
  (sSeq (sIf (tOr' (asT (.e (nIsi "tuple" (.o 1)))) (asT (.e (nIsi "list" (.o 1))))) (sSeq (sIf (tOr' (asB (nOp2 oNe (.e (nIsi "tuple" (.o 1))) (.e (nIsi "tuple" (.o 0))))) (asB (nOp2 oNe (.e (nIsi "list" (.o 1))) (.e (nIsi "list" (.o 0)))))) (sRet (nC (.bool false))) (sNil))
  (sSeq (sIf (asB (nOp2 oNe (.e (nCB bLen (aCons (.o 0) (aNil)))) (.e (nCB bLen (aCons (.o 1) (aNil)))))) (sRet (nC (.bool false))) (sNil))
  (sSeq (sFor (iRg1 (aCons (.e (nCB bLen (aCons (.o 1) (aNil)))) (aNil))) (gN 2) (sIf (tNot' (asT (.e (nCall D (aCons (.e (nOp2 oIx (.o 0) (.o 2))) (aCons (.e (nOp2 oIx (.o 1) (.o 2))) (aNil))))))) (sRet (nC (.bool false))) (sNil)))
  (sRet (nC (.bool true)))))) (sNil))
  (sSeq (sIf (asT (.e (nIsi "dict" (.o 1)))) (sSeq (sIf (tOr' (tNot' (asT (.e (nIsi "dict" (.o 0))))) (asB (nOp2 oNe (.e (nCB bLen (aCons (.o 0) (aNil)))) (.e (nCB bLen (aCons (.o 1) (aNil))))))) (sRet (nC (.bool false))) (sNil))
  (sRet (nOp2 oEq (.e (nL (nLc (iV (nF 1)) (gN 3) (tOr' (asB (nOp2 oNotIn (.o 3) (.o 0))) (tNot' (asT (.e (nCall D (aCons (.e (nOp2 oIx (.o 0) (.o 3))) (aCons (.e (nOp2 oIx (.o 1) (.o 3))) (aNil)))))))) (nV 3) [3]))) (.e (nL (nLstO (aNil))))))) (sNil))
  (sSeq (sIf (asB (nOp2 oNe (.e (nIsi "bool" (.o 1))) (.e (nIsi "bool" (.o 0))))) (sRet (nC (.bool false))) (sNil))
  (sSeq (sIf (tOr' (asB (nOp2 oNe (.e (nIsi "int" (.o 1))) (.e (nIsi "int" (.o 0))))) (asB (nOp2 oNe (.e (nIsi "str" (.o 1))) (.e (nIsi "str" (.o 0)))))) (sRet (nC (.bool false))) (sNil))
  (sRet (nOp2 oEq (.o 0) (.o 1)))))))
def D_46 : Nat → NExp
  | 0 => fun _ => .bad
  | k + 1 => runD 4 (B_46 (D_46 k))
theorem n_46 (T : Tx K mg) (h : DefIn K mg "_law_same" "_law_same" (top 46)) (fu : Nat) : NFn P w K mg base (0 + fu) "_law_same" 2 (D_46 fu) := by
  obtain ⟨f, fd, F0, hm⟩ := h.ex
  induction fu with
  | zero => exact NFn.bad F0 hm (FunD.bindsN (ps := ["actual", "due"]) F0 fun _ _ _ _ _ _ us hl => match us, hl with | [_, _], _ => rfl)
  | succ k ih =>
    exact NFn.of F0 hm sc_46 (FunD.bindsN (ps := ["actual", "due"]) F0 fun _ _ _ _ _ _ us hl => match us, hl with | [_, _], _ => rfl) rfl fun cdv A outer s H E hr => by exact (nss_cons (ns_if (nt_cmp op_isNN no_is (no_o 1) (no_e ne_none) rfl) (nss_one (ns_ret (ne_cmp op_isNN no_is (no_o 0) (no_e ne_none) rfl))) nss_nil)
    (nss_cons (ns_if (NW.t (nw_or (nt_t (no_e (ne_isi kit_tuple (no_o 1) T.f_isinstance T.f_tuple bt_tuple))) (nw_or1 (nt_t (no_e (ne_isi kit_list (no_o 1) T.f_isinstance T.f_list bt_list)))))) (nss_cons (ns_if (NW.t (nw_or (nt_cmp (op_neN hr.units) no_ne (no_e (ne_isi kit_tuple (no_o 1) T.f_isinstance T.f_tuple bt_tuple)) (no_e (ne_isi kit_tuple (no_o 0) T.f_isinstance T.f_tuple bt_tuple)) rfl) (nw_or1 (nt_cmp (op_neN hr.units) no_ne (no_e (ne_isi kit_list (no_o 1) T.f_isinstance T.f_list bt_list)) (no_e (ne_isi kit_list (no_o 0) T.f_isinstance T.f_list bt_list)) rfl)))) (nss_one (ns_ret ne_bool)) nss_nil)
    (nss_cons (ns_if (nt_cmp (op_neN hr.units) no_ne (no_e (ne_len T.f_len (na_cons (no_o 0) na_nil))) (no_e (ne_len T.f_len (na_cons (no_o 1) na_nil))) rfl) (nss_one (ns_ret ne_bool)) nss_nil)
    (nss_cons (ns_for (passes_of rfl) rfl (ni_rg1 T.f_range (na_cons (no_e (ne_len T.f_len (na_cons (no_o 1) na_nil))) na_nil)) (ng_name 2 sc_46.nd rfl (by first | exact Or.inl rfl | exact Or.inr rfl)) (nss_one (ns_if (nt_not (nt_t (no_e (ne_call ih hr (takes_of rfl rfl rfl rfl) (na_cons (no_e (ne_ix (no_o 0) (no_o 2))) (na_cons (no_e (ne_ix (no_o 1) (no_o 2))) na_nil)) rfl rfl (aCons_len (aCons_len aNil_len)))))) (nss_one (ns_ret ne_bool)) nss_nil)))
    (nss_one (ns_ret ne_bool))))) nss_nil)
    (nss_cons (ns_if (nt_t (no_e (ne_isi kit_dict (no_o 1) T.f_isinstance T.f_dict bt_dict))) (nss_cons (ns_if (NW.t (nw_or (nt_not (nt_t (no_e (ne_isi kit_dict (no_o 0) T.f_isinstance T.f_dict bt_dict)))) (nw_or1 (nt_cmp (op_neN hr.units) no_ne (no_e (ne_len T.f_len (na_cons (no_o 0) na_nil))) (no_e (ne_len T.f_len (na_cons (no_o 1) na_nil))) rfl)))) (nss_one (ns_ret ne_bool)) nss_nil)
    (nss_one (ns_ret (ne_cmp (op_eqN hr.units) no_eq (no_e (ne_l (neo_lc (own := [("key", 3)]) rfl sc_46.nd (ni_v (ne_f 1)) (blkOk_by rfl) (fun s_ H_ C_ cl_ fp_ => (ng_name 3 sc_46.nd rfl (by first | exact Or.inl rfl | exact Or.inr rfl))) (fun s_ H_ C_ cl_ fp_ => (pts_oneN (NW.t (nw_or (nt_cmp (op_notInN (u65 hr)) no_notin (no_o 3) (no_o 0) rfl) (nw_or1 (nt_not (nt_t (no_e (ne_call ih hr takes0 (na_cons (no_e (ne_ix (no_o 0) (no_o 3))) (na_cons (no_e (ne_ix (no_o 1) (no_o 3))) na_nil)) rfl rfl (aCons_len (aCons_len aNil_len))))))))))) (fun s_ H_ C_ cl_ fp_ => (ne_v 3))))) (no_e (ne_l (neo_lst na_nil))) rfl)))) nss_nil)
    (nss_cons (ns_if (nt_cmp (op_neN hr.units) no_ne (no_e (ne_isi kit_bool (no_o 1) T.f_isinstance T.f_bool bt_bool)) (no_e (ne_isi kit_bool (no_o 0) T.f_isinstance T.f_bool bt_bool)) rfl) (nss_one (ns_ret ne_bool)) nss_nil)
    (nss_cons (ns_if (NW.t (nw_or (nt_cmp (op_neN hr.units) no_ne (no_e (ne_isi kit_int (no_o 1) T.f_isinstance T.f_int bt_int)) (no_e (ne_isi kit_int (no_o 0) T.f_isinstance T.f_int bt_int)) rfl) (nw_or1 (nt_cmp (op_neN hr.units) no_ne (no_e (ne_isi kit_str (no_o 1) T.f_isinstance T.f_str bt_str)) (no_e (ne_isi kit_str (no_o 0) T.f_isinstance T.f_str bt_str)) rfl)))) (nss_one (ns_ret ne_bool)) nss_nil)
    (nss_one (ns_ret (ne_cmp (op_eqN hr.units) no_eq (no_o 0) (no_o 1) rfl))))))))
theorem sc_49 : FnScope ["draws", "begin", "found", "at"] ["draws"] (defScope (top 49)) := ⟨rfl, rfl, rfl, by decide +kernel, rfl, by decide +kernel, by decide +kernel⟩
def B_49 : NStm :=
  sSeq (sAsg (nCall D_44 (aCons (.o 0) (aCons (.e (nC (.int 900))) (aNil)))) (gN 1))
  (sSeq (sOwn 2 (nLstO (aCons (.e (nCall D_45 (aCons (.o 0) (aCons (.e (nL (nLstO (aCons (.e (nC (.str "pass"))) (aCons (.e (nC (.str "card"))) (aCons (.e (nC (.str "visa"))) (aCons (.e (nC (.str "permit"))) (aNil)))))))) (aNil))))) (aCons (.e (nCall D_45 (aCons (.o 0) (aCons (.e (nL (nLstO (aCons (.e (nC (.str "ann"))) (aCons (.e (nC (.str "bo1"))) (aNil)))))) (aNil))))) (aCons (.e (nCall D_45 (aCons (.o 0) (aCons (.e (nL (nLstO (aCons (.e (nC (.str "elba"))) (aCons (.e (nC (.str "oz"))) (aNil)))))) (aNil))))) (aNil))))))
  (sSeq (sOwn 2 (nOp2O oCatO (.o 2) (.e (nL (nLstO (aCons (.e (nV 1)) (aCons (.e (nOp2 oAdd (.o 1) (.e (nCall D_44 (aCons (.o 0) (aCons (.e (nC (.int 400))) (aNil))))))) (aCons (.e (nCall D_45 (aCons (.o 0) (aCons (.e (nL (nLstO (aCons (.e (nC .none)) (aCons (.e (nC (.int 1))) (aCons (.e (nC (.int 99))) (aNil))))))) (aNil))))) (aNil)))))))))
  (sSeq (sIf (asB (nOp2 oEq (.e (nCall D_44 (aCons (.o 0) (aCons (.e (nC (.int 3))) (aNil))))) (.e (nC (.int 0))))) (sSeq (sAsg (nCall D_44 (aCons (.o 0) (aCons (.e (nC (.int 6))) (aNil)))) (gN 3))
  (sSetI 2 (nV 3) (nCall D_45 (aCons (.o 0) (aCons (.e (nL (nLstO (aCons (.e (nC .none)) (aCons (.e (nNeg (nC (.int 1)))) (aCons (.e (nC (.int 0))) (aCons (.e (nC (.int 100))) (aCons (.e (nC (.int 100001))) (aCons (.e (nC (.bool true))) (aCons (.e (nC (.str "Ann"))) (aCons (.e (nC (.str ""))) (aCons (.e (nC (.str "pas"))) (aCons (.e (nC (.str "ann"))) (aCons (.e (nC (.int 5))) (aCons (.e (nL (nLstO (aNil)))) (aCons (.e (nTup (aCons (.e (nC (.str "pass"))) (aNil)))) (aNil))))))))))))))))) (aNil)))))) (sNil))
  (sSeq (sIf (asB (nOp2 oEq (.e (nCall D_44 (aCons (.o 0) (aCons (.e (nC (.int 12))) (aNil))))) (.e (nC (.int 0))))) (sAsg (nCall D_45 (aCons (.o 0) (aCons (.e (nL (nLstO (aCons (.e (nSl (.o 2) (pNone) (pSome (nC (.int 5))))) (aCons (.e (nOp2 oAdd (.o 2) (.e (nL (nLstO (aCons (.e (nC (.int 1))) (aNil))))))) (aCons (.e (nL (nLstO (aNil)))) (aNil))))))) (aNil)))) (gN 2)) (sNil))
  (sRet (nCB bTuple (aCons (.o 2) (aNil))))))))
def D_49 : NExp := runD 4 B_49
theorem n_49 {x : Str} (T : Tx K mg) (h : DefIn K mg x "_law_paper" (top 49)) : NFn P w K mg base 3 x 1 D_49 := by
  obtain ⟨f, fd, F0, hm⟩ := h.ex
  exact NFn.of F0 hm sc_49 (FunD.bindsN (ps := ["draws"]) F0 fun _ _ _ _ _ _ us hl => match us, hl with | [_], _ => rfl) rfl fun cdv A outer s H E hr => by exact (nss_cons (ns_asg (ne_call ((n_44 T T.d__law_take).mono (by omega)) hr (takes_of rfl rfl rfl rfl) (na_cons (no_o 0) (na_cons (no_e ne_int) na_nil)) rfl rfl (aCons_len (aCons_len aNil_len))) (ng_name 1 sc_49.nd rfl (by first | exact Or.inl rfl | exact Or.inr rfl)))
    (nss_cons (ns_own 2 sc_49.nd rfl (by first | exact Or.inl rfl | exact Or.inr rfl) (neo_lst (na_cons (no_e (ne_call ((n_45 T T.d__law_pick).mono (by omega)) hr (takes_of rfl rfl rfl rfl) (na_cons (no_o 0) (na_cons (no_e (ne_l (neo_lst (na_cons (no_e ne_str) (na_cons (no_e ne_str) (na_cons (no_e ne_str) (na_cons (no_e ne_str) na_nil))))))) na_nil)) rfl rfl (aCons_len (aCons_len aNil_len)))) (na_cons (no_e (ne_call ((n_45 T T.d__law_pick).mono (by omega)) hr (takes_of rfl rfl rfl rfl) (na_cons (no_o 0) (na_cons (no_e (ne_l (neo_lst (na_cons (no_e ne_str) (na_cons (no_e ne_str) na_nil))))) na_nil)) rfl rfl (aCons_len (aCons_len aNil_len)))) (na_cons (no_e (ne_call ((n_45 T T.d__law_pick).mono (by omega)) hr (takes_of rfl rfl rfl rfl) (na_cons (no_o 0) (na_cons (no_e (ne_l (neo_lst (na_cons (no_e ne_str) (na_cons (no_e ne_str) na_nil))))) na_nil)) rfl rfl (aCons_len (aCons_len aNil_len)))) na_nil)))))
    (nss_cons (ns_own 2 sc_49.nd rfl (by first | exact Or.inl rfl | exact Or.inr rfl) (neo_op op_addN no_catO (no_o 2) (no_e (ne_l (neo_lst (na_cons (no_e (ne_v 1)) (na_cons (no_e (ne_op op_addN no_add (no_o 1) (no_e (ne_call ((n_44 T T.d__law_take).mono (by omega)) hr (takes_of rfl rfl rfl rfl) (na_cons (no_o 0) (na_cons (no_e ne_int) na_nil)) rfl rfl (aCons_len (aCons_len aNil_len)))))) (na_cons (no_e (ne_call ((n_45 T T.d__law_pick).mono (by omega)) hr (takes_of rfl rfl rfl rfl) (na_cons (no_o 0) (na_cons (no_e (ne_l (neo_lst (na_cons (no_e ne_none) (na_cons (no_e ne_int) (na_cons (no_e ne_int) na_nil)))))) na_nil)) rfl rfl (aCons_len (aCons_len aNil_len)))) na_nil))))))))
    (nss_cons (ns_if (nt_cmp (op_eqN hr.units) no_eq (no_e (ne_call ((n_44 T T.d__law_take).mono (by omega)) hr (takes_of rfl rfl rfl rfl) (na_cons (no_o 0) (na_cons (no_e ne_int) na_nil)) rfl rfl (aCons_len (aCons_len aNil_len)))) (no_e ne_int) rfl) (nss_cons (ns_asg (ne_call ((n_44 T T.d__law_take).mono (by omega)) hr (takes_of rfl rfl rfl rfl) (na_cons (no_o 0) (na_cons (no_e ne_int) na_nil)) rfl rfl (aCons_len (aCons_len aNil_len))) (ng_name 3 sc_49.nd rfl (by first | exact Or.inl rfl | exact Or.inr rfl)))
    (nss_one (ns_seti 2 (ne_call ((n_45 T T.d__law_pick).mono (by omega)) hr (takes_of rfl rfl rfl rfl) (na_cons (no_o 0) (na_cons (no_e (ne_l (neo_lst (na_cons (no_e ne_none) (na_cons (no_e (ne_neg ne_int)) (na_cons (no_e ne_int) (na_cons (no_e ne_int) (na_cons (no_e ne_int) (na_cons (no_e ne_bool) (na_cons (no_e ne_str) (na_cons (no_e ne_str) (na_cons (no_e ne_str) (na_cons (no_e ne_str) (na_cons (no_e ne_int) (na_cons (no_e (ne_l (neo_lst na_nil))) (na_cons (no_e (ne_tup (na_cons (no_e ne_str) na_nil))) na_nil)))))))))))))))) na_nil)) rfl rfl (aCons_len (aCons_len aNil_len))) (ne_v 3)))) nss_nil)
    (nss_cons (ns_if (nt_cmp (op_eqN hr.units) no_eq (no_e (ne_call ((n_44 T T.d__law_take).mono (by omega)) hr (takes_of rfl rfl rfl rfl) (na_cons (no_o 0) (na_cons (no_e ne_int) na_nil)) rfl rfl (aCons_len (aCons_len aNil_len)))) (no_e ne_int) rfl) (nss_one (ns_asg (ne_call ((n_45 T T.d__law_pick).mono (by omega)) hr (takes_of rfl rfl rfl rfl) (na_cons (no_o 0) (na_cons (no_e (ne_l (neo_lst (na_cons (no_e (ne_sl (no_o 2) np_none (np_some ne_int))) (na_cons (no_e (ne_op op_addN no_add (no_o 2) (no_e (ne_l (neo_lst (na_cons (no_e ne_int) na_nil)))))) (na_cons (no_e (ne_l (neo_lst na_nil))) na_nil)))))) na_nil)) rfl rfl (aCons_len (aCons_len aNil_len))) (ng_name 2 sc_49.nd rfl (by first | exact Or.inl rfl | exact Or.inr rfl)))) nss_nil)
    (nss_one (ns_ret (ne_cty call_tuple_of cn_tuple T.f_tuple bt_tuple (na_cons (no_o 2) na_nil)))))))))
theorem sc_48 : FnScope ["value", "sign"] ["value"] (defScope (top 48)) := ⟨rfl, rfl, rfl, by decide +kernel, rfl, by decide +kernel, by decide +kernel⟩
def B_48 : NStm :=
  sSeq (sIf (tOr' (tNot' (asT (.e (nIsi "str" (.o 0))))) (tOr' (tNot' (asB (nChain oLe oLe (.e (nC (.int 1))) (.e (nCB bLen (aCons (.o 0) (aNil)))) (.e (nC (.int 12)))))) (asB (nOp2 oNotIn (.e (nOp2 oIx (.o 0) (.e (nC (.int 0))))) (.e (nC (.str "abcdefghijklmnopqrstuvwxyz"))))))) (sRet (nC (.bool false))) (sNil))
  (sRet (nOp2 oEq (.e (nL (nLc (iV (nF 0)) (gN 1) (asB (nOp2 oNotIn (.o 1) (.e (nC (.str "abcdefghijklmnopqrstuvwxyz0123456789"))))) (nV 1) [1]))) (.e (nL (nLstO (aNil))))))
def D_48 : NExp := runD 2 B_48
theorem n_48 {x : Str} (T : Tx K mg) (h : DefIn K mg x "_law_is_name" (top 48)) : NFn P w K mg base 1 x 1 D_48 := by
  obtain ⟨f, fd, F0, hm⟩ := h.ex
  exact NFn.of F0 hm sc_48 (FunD.bindsN (ps := ["value"]) F0 fun _ _ _ _ _ _ us hl => match us, hl with | [_], _ => rfl) rfl fun cdv A outer s H E hr => by exact (nss_cons (ns_if (NW.t (nw_or (nt_not (nt_t (no_e (ne_isi kit_str (no_o 0) T.f_isinstance T.f_str bt_str)))) (nw_or (nt_not (nt_chain op_leN op_leN no_le no_le (no_e ne_int) (no_e (ne_len T.f_len (na_cons (no_o 0) na_nil))) (no_e ne_int))) (nw_or1 (nt_cmp (op_notInN (u65 hr)) no_notin (no_e (ne_ix (no_o 0) (no_e ne_int))) (no_e ne_str) rfl))))) (nss_one (ns_ret ne_bool)) nss_nil)
    (nss_one (ns_ret (ne_cmp (op_eqN hr.units) no_eq (no_e (ne_l (neo_lc (own := [("sign", 1)]) rfl sc_48.nd (ni_v (ne_f 0)) (blkOk_by rfl) (fun s_ H_ C_ cl_ fp_ => (ng_name 1 sc_48.nd rfl (by first | exact Or.inl rfl | exact Or.inr rfl))) (fun s_ H_ C_ cl_ fp_ => (pts_oneN (nt_cmp (op_notInN (u65 hr)) no_notin (no_o 1) (no_e ne_str) rfl))) (fun s_ H_ C_ cl_ fp_ => (ne_v 1))))) (no_e (ne_l (neo_lst na_nil))) rfl))))
theorem sc_50 : FnScope ["value", "low", "high"] ["value", "low", "high"] (defScope (top 50)) := ⟨rfl, rfl, rfl, by decide +kernel, rfl, by decide +kernel, by decide +kernel⟩
def B_50 : NStm :=
  sRet (nAnd (nIsi "int" (.o 0)) (nAnd (nNot (nIsi "bool" (.o 0))) (nChain oLe oLe (.o 1) (.o 0) (.o 2))))
def D_50 : NExp := runD 3 B_50
theorem n_50 {x : Str} (T : Tx K mg) (h : DefIn K mg x "_law_is_number" (top 50)) : NFn P w K mg base 1 x 3 D_50 := by
  obtain ⟨f, fd, F0, hm⟩ := h.ex
  exact NFn.of F0 hm sc_50 (FunD.bindsN (ps := ["value", "low", "high"]) F0 fun _ _ _ _ _ _ us hl => match us, hl with | [_, _, _], _ => rfl) rfl fun cdv A outer s H E hr => by exact (nss_one (ns_ret (ne_and (ne_isi kit_int (no_o 0) T.f_isinstance T.f_int bt_int) (ne_and (ne_not (ne_isi kit_bool (no_o 0) T.f_isinstance T.f_bool bt_bool)) (ne_one (ne_chain op_leN op_leN no_le no_le (no_o 1) (no_o 0) (no_o 2)))))))
theorem sc_51 : FnScope ["k", "paper", "kind", "holder", "state", "begin", "end", "entries"] ["k", "paper"] (defScope (top 51)) := ⟨rfl, rfl, rfl, by decide +kernel, rfl, by decide +kernel, by decide +kernel⟩
def B_51 : NStm :=
  sSeq (sIf (asB (nOp2 oNe (.e (nCB bLen (aCons (.o 1) (aNil)))) (.e (nC (.int 6))))) (sRet (nTup (aCons (.e (nC (.str "form"))) (aCons (.e (nF 0)) (aNil))))) (sNil))
  (sSeq (sAsg (nF 1) (gT (gCons' (gN 2) (gCons' (gN 3) (gCons' (gN 4) (gCons' (gN 5) (gCons' (gN 6) (gCons' (gN 7) (gNil')))))))))
  (sSeq (sIf (tOr' (tNot' (asT (.e (nIsi "str" (.o 2))))) (asB (nOp2 oNotIn (.o 2) (.e (nL (nLstO (aCons (.e (nC (.str "pass"))) (aCons (.e (nC (.str "card"))) (aCons (.e (nC (.str "visa"))) (aCons (.e (nC (.str "permit"))) (aNil))))))))))) (sRet (nTup (aCons (.e (nC (.str "kind"))) (aCons (.e (nF 0)) (aNil))))) (sNil))
  (sSeq (sIf (tNot' (asT (.e (nCall D_48 (aCons (.o 3) (aNil)))))) (sRet (nTup (aCons (.e (nC (.str "holder"))) (aCons (.e (nF 0)) (aNil))))) (sNil))
  (sSeq (sIf (tNot' (asT (.e (nCall D_48 (aCons (.o 4) (aNil)))))) (sRet (nTup (aCons (.e (nC (.str "state"))) (aCons (.e (nF 0)) (aNil))))) (sNil))
  (sSeq (sIf (tOr' (tNot' (asT (.e (nCall D_50 (aCons (.o 5) (aCons (.e (nC (.int 0))) (aCons (.e (nC (.int 100000))) (aNil)))))))) (tNot' (asT (.e (nCall D_50 (aCons (.o 6) (aCons (.e (nC (.int 0))) (aCons (.e (nC (.int 100000))) (aNil))))))))) (sRet (nTup (aCons (.e (nC (.str "days"))) (aCons (.e (nF 0)) (aNil))))) (sNil))
  (sSeq (sIf (asB (nOp2 oLt (.o 6) (.o 5))) (sRet (nTup (aCons (.e (nC (.str "order"))) (aCons (.e (nF 0)) (aNil))))) (sNil))
  (sRet (nOp2 oIx (.e (nL (nLstO (aCons (.e (nTup (aCons (.e (nC (.str "entries"))) (aCons (.e (nF 0)) (aNil))))) (aCons (.e (nC .none)) (aNil)))))) (.e (nCB bInt (aCons (.e (nOr (nOp2 oIs (.o 7) (.e (nC .none))) (nCall D_50 (aCons (.o 7) (aCons (.e (nC (.int 1))) (aCons (.e (nC (.int 99))) (aNil))))))) (aNil))))))))))))
def D_51 : NExp := runD 8 B_51
theorem n_51 {x : Str} (T : Tx K mg) (h : DefIn K mg x "_law_fault" (top 51)) : NFn P w K mg base 2 x 2 D_51 := by
  obtain ⟨f, fd, F0, hm⟩ := h.ex
  exact NFn.of F0 hm sc_51 (FunD.bindsN (ps := ["k", "paper"]) F0 fun _ _ _ _ _ _ us hl => match us, hl with | [_, _], _ => rfl) rfl fun cdv A outer s H E hr => by exact (nss_cons (ns_if (nt_cmp (op_neN hr.units) no_ne (no_e (ne_len T.f_len (na_cons (no_o 1) na_nil))) (no_e ne_int) rfl) (nss_one (ns_ret (ne_tup (na_cons (no_e ne_str) (na_cons (no_e (ne_f 0)) na_nil))))) nss_nil)
    (nss_cons (ns_asg (ne_f 1) (ng_tup rfl (ngs_cons (ng_name 2 sc_51.nd rfl (by first | exact Or.inl rfl | exact Or.inr rfl)) (ngs_cons (ng_name 3 sc_51.nd rfl (by first | exact Or.inl rfl | exact Or.inr rfl)) (ngs_cons (ng_name 4 sc_51.nd rfl (by first | exact Or.inl rfl | exact Or.inr rfl)) (ngs_cons (ng_name 5 sc_51.nd rfl (by first | exact Or.inl rfl | exact Or.inr rfl)) (ngs_cons (ng_name 6 sc_51.nd rfl (by first | exact Or.inl rfl | exact Or.inr rfl)) (ngs_cons (ng_name 7 sc_51.nd rfl (by first | exact Or.inl rfl | exact Or.inr rfl)) ngs_nil)))))) (gCons_len (gCons_len (gCons_len (gCons_len (gCons_len (gCons_len gNil_len))))))))
    (nss_cons (ns_if (NW.t (nw_or (nt_not (nt_t (no_e (ne_isi kit_str (no_o 2) T.f_isinstance T.f_str bt_str)))) (nw_or1 (nt_cmp (op_notInN (u65 hr)) no_notin (no_o 2) (no_e (ne_l (neo_lst (na_cons (no_e ne_str) (na_cons (no_e ne_str) (na_cons (no_e ne_str) (na_cons (no_e ne_str) na_nil))))))) rfl)))) (nss_one (ns_ret (ne_tup (na_cons (no_e ne_str) (na_cons (no_e (ne_f 0)) na_nil))))) nss_nil)
    (nss_cons (ns_if (nt_not (nt_t (no_e (ne_call ((n_48 T T.d__law_is_name).mono (by omega)) hr (takes_of rfl rfl rfl rfl) (na_cons (no_o 3) na_nil) rfl rfl (aCons_len aNil_len))))) (nss_one (ns_ret (ne_tup (na_cons (no_e ne_str) (na_cons (no_e (ne_f 0)) na_nil))))) nss_nil)
    (nss_cons (ns_if (nt_not (nt_t (no_e (ne_call ((n_48 T T.d__law_is_name).mono (by omega)) hr (takes_of rfl rfl rfl rfl) (na_cons (no_o 4) na_nil) rfl rfl (aCons_len aNil_len))))) (nss_one (ns_ret (ne_tup (na_cons (no_e ne_str) (na_cons (no_e (ne_f 0)) na_nil))))) nss_nil)
    (nss_cons (ns_if (NW.t (nw_or (nt_not (nt_t (no_e (ne_call ((n_50 T T.d__law_is_number).mono (by omega)) hr (takes_of rfl rfl rfl rfl) (na_cons (no_o 5) (na_cons (no_e ne_int) (na_cons (no_e ne_int) na_nil))) rfl rfl (aCons_len (aCons_len (aCons_len aNil_len))))))) (nw_or1 (nt_not (nt_t (no_e (ne_call ((n_50 T T.d__law_is_number).mono (by omega)) hr (takes_of rfl rfl rfl rfl) (na_cons (no_o 6) (na_cons (no_e ne_int) (na_cons (no_e ne_int) na_nil))) rfl rfl (aCons_len (aCons_len (aCons_len aNil_len)))))))))) (nss_one (ns_ret (ne_tup (na_cons (no_e ne_str) (na_cons (no_e (ne_f 0)) na_nil))))) nss_nil)
    (nss_cons (ns_if (nt_cmp (op_ltN hr.units) no_lt (no_o 6) (no_o 5) rfl) (nss_one (ns_ret (ne_tup (na_cons (no_e ne_str) (na_cons (no_e (ne_f 0)) na_nil))))) nss_nil)
    (nss_one (ns_ret (ne_ix (no_e (ne_l (neo_lst (na_cons (no_e (ne_tup (na_cons (no_e ne_str) (na_cons (no_e (ne_f 0)) na_nil)))) (na_cons (no_e ne_none) na_nil))))) (no_e (ne_cty call_int1 cn_int T.f_int bt_int (na_cons (no_e (ne_or (ne_cmp op_isNN no_is (no_o 7) (no_e ne_none) rfl) (ne_one (ne_call ((n_50 T T.d__law_is_number).mono (by omega)) hr (takes_of rfl rfl rfl rfl) (na_cons (no_o 7) (na_cons (no_e ne_int) (na_cons (no_e ne_int) na_nil))) rfl rfl (aCons_len (aCons_len (aCons_len aNil_len))))))) na_nil)))))))))))))
theorem sc_53 : FnScope ["draws", "most", "found", "day", "k", "last", "at"] ["draws", "most"] (defScope (top 53)) := ⟨rfl, rfl, rfl, by decide +kernel, rfl, by decide +kernel, by decide +kernel⟩
def B_53 : NStm :=
  sSeq (sPar 2 3 (evO (nLstO (aNil))) (evV (nCall D_44 (aCons (.o 0) (aCons (.e (nC (.int 9))) (aNil))))))
  (sSeq (sFor (iRg1 (aCons (.o 1) (aNil))) (gN 4) (sSeq (sAsg (nOp2 oAdd (.o 3) (.e (nCall D_45 (aCons (.o 0) (aCons (.e (nL (nLstO (aCons (.e (nC (.int 0))) (aCons (.e (nC (.int 1))) (aCons (.e (nC (.int 7))) (aCons (.e (nOp2 oAdd (.e (nNeg (nC (.int 1)))) (.e (nCB bInt (aCons (.e (nOp2 oGt (.e (nCall D_44 (aCons (.o 0) (aCons (.e (nC (.int 9))) (aNil))))) (.e (nC (.int 0))))) (aNil)))))) (aNil)))))))) (aNil)))))) (gN 5))
  (sSeq (sExpr (nAppend 2 (nTup (aCons (.e (nV 3)) (aCons (.e (nV 5)) (aNil))))))
  (sAsg (nCB bMax (aCons (.e (nC (.int 0))) (aCons (.e (nOp2 oAdd (.e (nOp2 oAdd (.o 5) (.e (nC (.int 1))))) (.e (nCall D_45 (aCons (.o 0) (aCons (.e (nL (nLstO (aCons (.e (nC (.int 0))) (aCons (.e (nC (.int 1))) (aCons (.e (nC (.int 5))) (aCons (.e (nOp2 oMul (.e (nNeg (nC (.int 1)))) (.e (nCB bInt (aCons (.e (nOp2 oEq (.e (nCall D_44 (aCons (.o 0) (aCons (.e (nC (.int 9))) (aNil))))) (.e (nC (.int 0))))) (aNil)))))) (aNil)))))))) (aNil))))))) (aNil)))) (gN 3)))))
  (sSeq (sIf (tAnd' (asB (nOp2 oNe (.o 2) (.e (nL (nLstO (aNil)))))) (asB (nOp2 oEq (.e (nCall D_44 (aCons (.o 0) (aCons (.e (nC (.int 4))) (aNil))))) (.e (nC (.int 0)))))) (sSeq (sAsg (nCall D_44 (aCons (.o 0) (aCons (.e (nCB bLen (aCons (.o 2) (aNil)))) (aNil)))) (gN 6))
  (sSetI 2 (nV 6) (nCall D_45 (aCons (.o 0) (aCons (.e (nL (nLstO (aCons (.e (nTup (aCons (.e (nOp2 oIx (.e (nOp2 oIx (.o 2) (.o 6))) (.e (nC (.int 0))))) (aNil)))) (aCons (.e (nOp2 oAdd (.e (nOp2 oIx (.o 2) (.o 6))) (.e (nTup (aCons (.e (nC (.int 1))) (aNil)))))) (aCons (.e (nTup (aCons (.e (nNeg (nC (.int 1)))) (aCons (.e (nC (.int 5))) (aNil))))) (aCons (.e (nTup (aCons (.e (nC (.int 5))) (aCons (.e (nC (.int 100001))) (aNil))))) (aCons (.e (nTup (aCons (.e (nC .none)) (aCons (.e (nC (.int 5))) (aNil))))) (aCons (.e (nTup (aCons (.e (nC (.int 5))) (aCons (.e (nC (.bool true))) (aNil))))) (aCons (.e (nTup (aNil))) (aCons (.e (nTup (aCons (.e (nC (.int 9))) (aCons (.e (nC (.int 3))) (aNil))))) (aNil)))))))))))) (aNil)))))) (sNil))
  (sRet (nF 2))))
def D_53 : NExp := runD 7 B_53
theorem n_53 {x : Str} (T : Tx K mg) (h : DefIn K mg x "_law_stays" (top 53)) : NFn P w K mg base 3 x 2 D_53 := by
  obtain ⟨f, fd, F0, hm⟩ := h.ex
  exact NFn.of F0 hm sc_53 (FunD.bindsN (ps := ["draws", "most"]) F0 fun _ _ _ _ _ _ us hl => match us, hl with | [_, _], _ => rfl) rfl fun cdv A outer s H E hr => by exact (nss_cons (ns_par 2 3 rfl sc_53.nd rfl rfl (by decide) rfl rfl (nv_o (neo_lst na_nil)) (nv_v (ne_call ((n_44 T T.d__law_take).mono (by omega)) hr (takes_of rfl rfl rfl rfl) (na_cons (no_o 0) (na_cons (no_e ne_int) na_nil)) rfl rfl (aCons_len (aCons_len aNil_len)))))
    (nss_cons (ns_for (passes_of rfl) rfl (ni_rg1 T.f_range (na_cons (no_o 1) na_nil)) (ng_name 4 sc_53.nd rfl (by first | exact Or.inl rfl | exact Or.inr rfl)) (nss_cons (ns_asg (ne_op op_addN no_add (no_o 3) (no_e (ne_call ((n_45 T T.d__law_pick).mono (by omega)) hr (takes_of rfl rfl rfl rfl) (na_cons (no_o 0) (na_cons (no_e (ne_l (neo_lst (na_cons (no_e ne_int) (na_cons (no_e ne_int) (na_cons (no_e ne_int) (na_cons (no_e (ne_op op_addN no_add (no_e (ne_neg ne_int)) (no_e (ne_cty call_int1 cn_int T.f_int bt_int (na_cons (no_e (ne_cmp op_gtN no_gt (no_e (ne_call ((n_44 T T.d__law_take).mono (by omega)) hr (takes_of rfl rfl rfl rfl) (na_cons (no_o 0) (na_cons (no_e ne_int) na_nil)) rfl rfl (aCons_len (aCons_len aNil_len)))) (no_e ne_int) rfl)) na_nil))))) na_nil))))))) na_nil)) rfl rfl (aCons_len (aCons_len aNil_len))))) (ng_name 5 sc_53.nd rfl (by first | exact Or.inl rfl | exact Or.inr rfl)))
    (nss_cons (ns_expr (ne_append 2 (ne_tup (na_cons (no_e (ne_v 3)) (na_cons (no_e (ne_v 5)) na_nil)))))
    (nss_one (ns_asg (ne_cb (cr_maxN rfl) cn_max T.f_max bt_max (na_cons (no_e ne_int) (na_cons (no_e (ne_op op_addN no_add (no_e (ne_op op_addN no_add (no_o 5) (no_e ne_int))) (no_e (ne_call ((n_45 T T.d__law_pick).mono (by omega)) hr (takes_of rfl rfl rfl rfl) (na_cons (no_o 0) (na_cons (no_e (ne_l (neo_lst (na_cons (no_e ne_int) (na_cons (no_e ne_int) (na_cons (no_e ne_int) (na_cons (no_e (ne_op op_mulN no_mul (no_e (ne_neg ne_int)) (no_e (ne_cty call_int1 cn_int T.f_int bt_int (na_cons (no_e (ne_cmp (op_eqN hr.units) no_eq (no_e (ne_call ((n_44 T T.d__law_take).mono (by omega)) hr (takes_of rfl rfl rfl rfl) (na_cons (no_o 0) (na_cons (no_e ne_int) na_nil)) rfl rfl (aCons_len (aCons_len aNil_len)))) (no_e ne_int) rfl)) na_nil))))) na_nil))))))) na_nil)) rfl rfl (aCons_len (aCons_len aNil_len)))))) na_nil))) (ng_name 3 sc_53.nd rfl (by first | exact Or.inl rfl | exact Or.inr rfl)))))))
    (nss_cons (ns_if (NW.t (nw_and (nt_cmp (op_neN hr.units) no_ne (no_o 2) (no_e (ne_l (neo_lst na_nil))) rfl) (nw_and1 (nt_cmp (op_eqN hr.units) no_eq (no_e (ne_call ((n_44 T T.d__law_take).mono (by omega)) hr (takes_of rfl rfl rfl rfl) (na_cons (no_o 0) (na_cons (no_e ne_int) na_nil)) rfl rfl (aCons_len (aCons_len aNil_len)))) (no_e ne_int) rfl)))) (nss_cons (ns_asg (ne_call ((n_44 T T.d__law_take).mono (by omega)) hr (takes_of rfl rfl rfl rfl) (na_cons (no_o 0) (na_cons (no_e (ne_len T.f_len (na_cons (no_o 2) na_nil))) na_nil)) rfl rfl (aCons_len (aCons_len aNil_len))) (ng_name 6 sc_53.nd rfl (by first | exact Or.inl rfl | exact Or.inr rfl)))
    (nss_one (ns_seti 2 (ne_call ((n_45 T T.d__law_pick).mono (by omega)) hr (takes_of rfl rfl rfl rfl) (na_cons (no_o 0) (na_cons (no_e (ne_l (neo_lst (na_cons (no_e (ne_tup (na_cons (no_e (ne_ix (no_e (ne_ix (no_o 2) (no_o 6))) (no_e ne_int))) na_nil))) (na_cons (no_e (ne_op op_addN no_add (no_e (ne_ix (no_o 2) (no_o 6))) (no_e (ne_tup (na_cons (no_e ne_int) na_nil))))) (na_cons (no_e (ne_tup (na_cons (no_e (ne_neg ne_int)) (na_cons (no_e ne_int) na_nil)))) (na_cons (no_e (ne_tup (na_cons (no_e ne_int) (na_cons (no_e ne_int) na_nil)))) (na_cons (no_e (ne_tup (na_cons (no_e ne_none) (na_cons (no_e ne_int) na_nil)))) (na_cons (no_e (ne_tup (na_cons (no_e ne_int) (na_cons (no_e ne_bool) na_nil)))) (na_cons (no_e (ne_tup na_nil)) (na_cons (no_e (ne_tup (na_cons (no_e ne_int) (na_cons (no_e ne_int) na_nil)))) na_nil))))))))))) na_nil)) rfl rfl (aCons_len (aCons_len aNil_len))) (ne_v 6)))) nss_nil)
    (nss_one (ns_ret (ne_f 2))))))
theorem sc_52 : FnScope ["k", "stay", "one"] ["k", "stay"] (defScope (top 52)) := ⟨rfl, rfl, rfl, by decide +kernel, rfl, by decide +kernel, by decide +kernel⟩
def B_52 : NStm :=
  sSeq (sIf (tOr' (asB (nOp2 oNe (.e (nCB bLen (aCons (.o 1) (aNil)))) (.e (nC (.int 2))))) (asB (nOp2 oNe (.e (nL (nLc (iV (nF 1)) (gN 2) (tNot' (asT (.e (nCall D_50 (aCons (.o 2) (aCons (.e (nC (.int 0))) (aCons (.e (nC (.int 100000))) (aNil)))))))) (nV 2) [2]))) (.e (nL (nLstO (aNil))))))) (sRet (nTup (aCons (.e (nC (.str "form"))) (aCons (.e (nF 0)) (aNil))))) (sNil))
  (sRet (nOp2 oIx (.e (nL (nLstO (aCons (.e (nC .none)) (aCons (.e (nTup (aCons (.e (nC (.str "order"))) (aCons (.e (nF 0)) (aNil))))) (aNil)))))) (.e (nCB bInt (aCons (.e (nOp2 oLt (.e (nOp2 oIx (.o 1) (.e (nC (.int 1))))) (.e (nOp2 oIx (.o 1) (.e (nC (.int 0))))))) (aNil))))))
def D_52 : NExp := runD 3 B_52
theorem n_52 {x : Str} (T : Tx K mg) (h : DefIn K mg x "_law_stay_fault" (top 52)) : NFn P w K mg base 2 x 2 D_52 := by
  obtain ⟨f, fd, F0, hm⟩ := h.ex
  exact NFn.of F0 hm sc_52 (FunD.bindsN (ps := ["k", "stay"]) F0 fun _ _ _ _ _ _ us hl => match us, hl with | [_, _], _ => rfl) rfl fun cdv A outer s H E hr => by exact (nss_cons (ns_if (NW.t (nw_or (nt_cmp (op_neN hr.units) no_ne (no_e (ne_len T.f_len (na_cons (no_o 1) na_nil))) (no_e ne_int) rfl) (nw_or1 (nt_cmp (op_neN hr.units) no_ne (no_e (ne_l (neo_lc (own := [("one", 2)]) rfl sc_52.nd (ni_v (ne_f 1)) (blkOk_by rfl) (fun s_ H_ C_ cl_ fp_ => (ng_name 2 sc_52.nd rfl (by first | exact Or.inl rfl | exact Or.inr rfl))) (fun s_ H_ C_ cl_ fp_ => (pts_oneN (nt_not (nt_t (no_e (ne_call ((n_50 T T.d__law_is_number).mono (by omega)) hr takes0 (na_cons (no_o 2) (na_cons (no_e ne_int) (na_cons (no_e ne_int) na_nil))) rfl rfl (aCons_len (aCons_len (aCons_len aNil_len))))))))) (fun s_ H_ C_ cl_ fp_ => (ne_v 2))))) (no_e (ne_l (neo_lst na_nil))) rfl)))) (nss_one (ns_ret (ne_tup (na_cons (no_e ne_str) (na_cons (no_e (ne_f 0)) na_nil))))) nss_nil)
    (nss_one (ns_ret (ne_ix (no_e (ne_l (neo_lst (na_cons (no_e ne_none) (na_cons (no_e (ne_tup (na_cons (no_e ne_str) (na_cons (no_e (ne_f 0)) na_nil)))) na_nil))))) (no_e (ne_cty call_int1 cn_int T.f_int bt_int (na_cons (no_e (ne_cmp (op_ltN hr.units) no_lt (no_e (ne_ix (no_o 1) (no_e ne_int))) (no_e (ne_ix (no_o 1) (no_e ne_int))) rfl)) na_nil)))))))
theorem sc_54 : FnScope ["draft", "found", "rows", "k", "row"] ["draft"] (defScope (top 54)) := ⟨rfl, rfl, rfl, by decide +kernel, rfl, by decide +kernel, by decide +kernel⟩
def B_54 : NStm :=
  sSeq (sAsg (nOp2 oMul (.e (nL (nLstO (aCons (.e (nTup (aCons (.e (nC (.str "many"))) (aCons (.e (nCB bLen (aCons (.o 0) (aNil)))) (aNil))))) (aNil))))) (.e (nCB bInt (aCons (.e (nOp2 oGt (.e (nCB bLen (aCons (.o 0) (aNil)))) (.e (nC (.int 200))))) (aNil))))) (gN 1))
  (sSeq (sSetL 2 (nLc (iRg1 (aCons (.e (nCB bLen (aCons (.o 0) (aNil)))) (aNil))) (gN 3) (tYesN) (nCall D_52 (aCons (.o 3) (aCons (.e (nOp2 oIx (.o 0) (.o 3))) (aNil)))) [3]))
  (sSeq (sAsg (nOp2 oAdd (.o 1) (.e (nL (nLc (iV (nV 2)) (gN 4) (asB (nOp2 oIsNot (.o 4) (.e (nC .none)))) (nV 4) [4])))) (gN 1))
  (sSeq (sIf (asB (nOp2 oEq (.o 1) (.e (nL (nLstO (aNil)))))) (sSetL 1 (nLc (iRg2 (aCons (.e (nC (.int 1))) (aCons (.e (nCB bLen (aCons (.o 0) (aNil)))) (aNil)))) (gN 3) (asB (nOp2 oLe (.e (nOp2 oIx (.e (nOp2 oIx (.o 0) (.o 3))) (.e (nC (.int 0))))) (.e (nOp2 oIx (.e (nOp2 oIx (.o 0) (.e (nOp2 oSub (.o 3) (.e (nC (.int 1))))))) (.e (nC (.int 1))))))) (nTup (aCons (.e (nC (.str "apart"))) (aCons (.e (nV 3)) (aNil)))) [3])) (sNil))
  (sRet (nV 1)))))
def D_54 : NExp := runD 5 B_54
theorem n_54 {x : Str} (T : Tx K mg) (h : DefIn K mg x "_law_stay_faults" (top 54)) : NFn P w K mg base 3 x 1 D_54 := by
  obtain ⟨f, fd, F0, hm⟩ := h.ex
  exact NFn.of F0 hm sc_54 (FunD.bindsN (ps := ["draft"]) F0 fun _ _ _ _ _ _ us hl => match us, hl with | [_], _ => rfl) rfl fun cdv A outer s H E hr => by exact (nss_cons (ns_asg (ne_op op_mulN no_mul (no_e (ne_l (neo_lst (na_cons (no_e (ne_tup (na_cons (no_e ne_str) (na_cons (no_e (ne_len T.f_len (na_cons (no_o 0) na_nil))) na_nil)))) na_nil)))) (no_e (ne_cty call_int1 cn_int T.f_int bt_int (na_cons (no_e (ne_cmp op_gtN no_gt (no_e (ne_len T.f_len (na_cons (no_o 0) na_nil))) (no_e ne_int) rfl)) na_nil)))) (ng_name 1 sc_54.nd rfl (by first | exact Or.inl rfl | exact Or.inr rfl)))
    (nss_cons (ns_setLc (own := [("k", 3)]) 2 rfl sc_54.nd rfl rfl rfl (ni_rg1 T.f_range (na_cons (no_e (ne_len T.f_len (na_cons (no_o 0) na_nil))) na_nil)) (blkOk_by rfl) (fun s_ H_ C_ cl_ fp_ => (ng_name 3 sc_54.nd rfl (by first | exact Or.inl rfl | exact Or.inr rfl))) (fun s_ H_ C_ cl_ fp_ => pts_nilN) (fun s_ H_ C_ cl_ fp_ => (ne_call ((n_52 T T.d__law_stay_fault).mono (by omega)) hr takes0 (na_cons (no_o 3) (na_cons (no_e (ne_ix (no_o 0) (no_o 3))) na_nil)) rfl rfl (aCons_len (aCons_len aNil_len)))))
    (nss_cons (ns_asg (ne_op op_addN no_add (no_o 1) (no_e (ne_l (neo_lc (own := [("row", 4)]) rfl sc_54.nd (ni_v (ne_v 2)) (blkOk_by rfl) (fun s_ H_ C_ cl_ fp_ => (ng_name 4 sc_54.nd rfl (by first | exact Or.inl rfl | exact Or.inr rfl))) (fun s_ H_ C_ cl_ fp_ => (pts_oneN (nt_cmp op_notNN no_isnot (no_o 4) (no_e ne_none) rfl))) (fun s_ H_ C_ cl_ fp_ => (ne_v 4)))))) (ng_name 1 sc_54.nd rfl (by first | exact Or.inl rfl | exact Or.inr rfl)))
    (nss_cons (ns_if (nt_cmp (op_eqN hr.units) no_eq (no_o 1) (no_e (ne_l (neo_lst na_nil))) rfl) (nss_one (ns_setLc (own := [("k", 3)]) 1 rfl sc_54.nd rfl rfl rfl (ni_rg2 T.f_range (na_cons (no_e ne_int) (na_cons (no_e (ne_len T.f_len (na_cons (no_o 0) na_nil))) na_nil))) (blkOk_by rfl) (fun s_ H_ C_ cl_ fp_ => (ng_name 3 sc_54.nd rfl (by first | exact Or.inl rfl | exact Or.inr rfl))) (fun s_ H_ C_ cl_ fp_ => (pts_oneN (nt_cmp op_leN no_le (no_e (ne_ix (no_e (ne_ix (no_o 0) (no_o 3))) (no_e ne_int))) (no_e (ne_ix (no_e (ne_ix (no_o 0) (no_e (ne_op op_sub no_sub (no_o 3) (no_e ne_int))))) (no_e ne_int))) rfl))) (fun s_ H_ C_ cl_ fp_ => (ne_tup (na_cons (no_e ne_str) (na_cons (no_e (ne_v 3)) na_nil)))))) nss_nil)
    (nss_one (ns_ret (ne_v 1)))))))
theorem sc_47 : FnScope ["e"] ["e"] (defScope (top 47)) := ⟨rfl, rfl, rfl, by decide +kernel, rfl, by decide +kernel, by decide +kernel⟩
theorem nFlags (T : Tx K mg) : NFl P w K mg base 1 "_law_flags" subF tblF := by
  obtain ⟨f, fd, F0, hm⟩ := T.d__law_flags.ex
  refine NFl.of F0 hm sc_47 (FunD.bindsN (ps := ["e"]) F0 fun _ _ _ _ _ _ us hl => match us, hl with | [_], _ => rfl) (by decide) fun A outer s H p cdv x D fl zc vf => ?_
  obtain ⟨C0, c0, k0⟩ := fl.a "NotRight" (by decide)
  obtain ⟨C1, c1, k1⟩ := fl.a "NotThere" (by decide)
  obtain ⟨C2, c2, k2⟩ := fl.a "NoAnswer" (by decide)
  obtain ⟨C3, c3, k3⟩ := fl.a "TooLarge" (by decide)
  obtain ⟨C4, c4, k4⟩ := fl.a "Malformed" (by decide)
  exact (pfl_cons (ev := "e") List.mem_cons_self fl.c zc vf c0 k0 T.f_isinstance (pfl_cons (ev := "e") List.mem_cons_self fl.c zc vf c1 k1 T.f_isinstance (pfl_cons (ev := "e") List.mem_cons_self fl.c zc vf c2 k2 T.f_isinstance (pfl_cons (ev := "e") List.mem_cons_self fl.c zc vf c3 k3 T.f_isinstance (pfl_cons (ev := "e") List.mem_cons_self fl.c zc vf c4 k4 T.f_isinstance pfl_nil rfl (Or.inl rfl) (by decide) (by decide) rfl rfl (by decide)) rfl (Or.inl rfl) (by decide) (by decide) rfl rfl (by decide)) rfl (Or.inl rfl) (by decide) (by decide) rfl rfl (by decide)) rfl (Or.inl rfl) (by decide) (by decide) rfl rfl (by decide)) rfl (Or.inl rfl) (by decide) (by decide) rfl rfl (by decide))
theorem sc_55 : FnScope ["which", "draft", "e"] ["which", "draft"] (defScope (top 55)) := ⟨rfl, rfl, rfl, by decide +kernel, rfl, by decide +kernel, by decide +kernel⟩
def B_55 : NStm :=
  sTryF 2 subF tblF knownF (sRet (nPick [D_39, D_41] (nF 0) (aCons (.o 1) (aNil))))
def D_55 : NExp := runD 3 B_55
theorem n_55 {x : Str} (T : Tx K mg) (h : DefIn K mg x "_law_told" (top 55)) : NFn P w K mg base 6 x 2 D_55 := by
  obtain ⟨f, fd, F0, hm⟩ := h.ex
  obtain ⟨CB, gb, known⟩ := T.CB
  exact NFn.of F0 hm sc_55 (FunD.bindsN (ps := ["which", "draft"]) F0 fun _ _ _ _ _ _ us hl => match us, hl with | [_, _], _ => rfl) rfl fun cdv A outer s H E hr => by exact (nss_one (ns_tryF (i := 2) rfl rfl sc_55.nd rfl rfl gb (takes_of rfl rfl rfl rfl) hr ((nFlags T).mono (by omega)) known (fun W_ pn_ xe_ tk_ hp_ => (nss_one (ns_ret (ne_pick (picks_cons ((n_39 T T.d_papers_faults).mono (by omega)) (Nat.le_refl _) (picks_cons ((n_41 T T.d_stays_faults).mono (by omega)) (Nat.le_refl _) picks_nil)) (by decide) hr tk_ (ne_f 0) (na_cons (no_o 1) na_nil) rfl (aCons_len aNil_len))))) rfl (by decide) rfl (by decide) (Or.inl rfl) (by decide) (by decide)))
theorem sc_56 : FnScope ["script", "draws", "turn", "draft", "k", "rows", "due", "row", "paper", "stays", "many", "near", "odd", "value", "got"] ["script"] (defScope (top 56)) := ⟨rfl, rfl, rfl, by decide +kernel, rfl, by decide +kernel, by decide +kernel⟩
def B_56 : NStm :=
  sSeq (sOwn 1 (nCallO D_43 (aCons (.o 0) (aNil))))
  (sSeq (sFor (iRg1 (aCons (.e (nC (.int 8))) (aNil))) (gN 2) (sSeq (sAsg (nL (nLc (iRg1 (aCons (.e (nCall D_44 (aCons (.o 1) (aCons (.e (nC (.int 11))) (aNil))))) (aNil))) (gN 4) (tYesN) (nCall D_49 (aCons (.o 1) (aNil))) [4])) (gN 3))
  (sSeq (sSetL 5 (nLc (iRg1 (aCons (.e (nCB bLen (aCons (.o 3) (aNil)))) (aNil))) (gN 4) (tYesN) (nCall D_51 (aCons (.o 4) (aCons (.e (nOp2 oIx (.o 3) (.o 4))) (aNil)))) [4]))
  (sSeq (sSetL 6 (nLc (iV (nV 5)) (gN 7) (asB (nOp2 oIsNot (.o 7) (.e (nC .none)))) (nV 7) [7]))
  (sSeq (sIf (tNot' (asT (.e (nCall (D_46 12) (aCons (.e (nOp2 oAdd (.e (nL (nLstO (aCons (.e (nCall D_55 (aCons (.e (nC (.int 0))) (aCons (.e (nL (nListO (.o 3)))) (aNil))))) (aNil))))) (.e (nL (nLc (iV (nV 3)) (gN 8) (tYesN) (nCall D_25 (aCons (.o 8) (aNil))) [8]))))) (aCons (.e (nOp2 oAdd (.e (nL (nLstO (aCons (.e (nV 6)) (aNil))))) (.e (nL (nLc (iV (nV 5)) (gN 7) (tYesN) (nOp2 oIs (.o 7) (.e (nC .none))) [7]))))) (aNil))))))) (sRet (nC (.bool false))) (sNil))
  (sSeq (sAsg (nCall D_53 (aCons (.o 1) (aCons (.e (nCall D_44 (aCons (.o 1) (aCons (.e (nC (.int 9))) (aNil))))) (aNil)))) (gN 9))
  (sSeq (sAsg (nCall D_54 (aCons (.o 9) (aNil))) (gN 6))
  (sIf (tNot' (asT (.e (nCall (D_46 12) (aCons (.e (nL (nLstO (aCons (.e (nCall D_55 (aCons (.e (nC (.int 1))) (aCons (.e (nL (nListO (.o 9)))) (aNil))))) (aCons (.e (nCall D_28 (aCons (.o 9) (aNil)))) (aNil)))))) (aCons (.e (nL (nLstO (aCons (.e (nV 6)) (aCons (.e (nOp2 oEq (.o 6) (.e (nL (nLstO (aNil)))))) (aNil)))))) (aNil))))))) (sRet (nC (.bool false))) (sNil)))))))))
  (sSeq (sAsg (nCall D_45 (aCons (.o 1) (aCons (.e (nL (nLstO (aCons (.e (nC (.int 40))) (aCons (.e (nC (.int 41))) (aCons (.e (nC (.int 60))) (aNil))))))) (aNil)))) (gN 10))
  (sSeq (sAsg (nOp2 oMul (.e (nL (nLc (iRg1 (aCons (.e (nC (.int 7))) (aNil))) (gN 4) (tYesN) (nCall D_49 (aCons (.o 1) (aNil))) [4]))) (.e (nC (.int 9)))) (gN 3))
  (sSeq (sSetL 5 (nLc (iRg1 (aCons (.o 10) (aNil))) (gN 4) (tYesN) (nCall D_51 (aCons (.o 4) (aCons (.e (nOp2 oIx (.o 3) (.o 4))) (aNil)))) [4]))
  (sSeq (sIf (tNot' (asT (.e (nCall (D_46 12) (aCons (.e (nCall D_55 (aCons (.e (nC (.int 0))) (aCons (.e (nSl (.o 3) (pNone) (pSome (nV 10)))) (aNil))))) (aCons (.e (nOp2 oAdd (.e (nOp2 oMul (.e (nL (nLstO (aCons (.e (nTup (aCons (.e (nC (.str "many"))) (aCons (.e (nV 10)) (aNil))))) (aNil))))) (.e (nCB bInt (aCons (.e (nOp2 oGt (.o 10) (.e (nC (.int 40))))) (aNil)))))) (.e (nL (nLc (iV (nV 5)) (gN 7) (asB (nOp2 oIsNot (.o 7) (.e (nC .none)))) (nV 7) [7]))))) (aNil))))))) (sRet (nC (.bool false))) (sNil))
  (sSeq (sAsg (nCall D_45 (aCons (.o 1) (aCons (.e (nL (nLstO (aCons (.e (nC (.int 199))) (aCons (.e (nC (.int 200))) (aCons (.e (nC (.int 201))) (aNil))))))) (aNil)))) (gN 10))
  (sSeq (sSetL 9 (nLc (iRg1 (aCons (.o 10) (aNil))) (gN 4) (tYesN) (nTup (aCons (.e (nOp2 oMul (.e (nC (.int 3))) (.o 4))) (aCons (.e (nOp2 oAdd (.e (nOp2 oMul (.e (nC (.int 3))) (.o 4))) (.e (nC (.int 1))))) (aNil)))) [4]))
  (sSeq (sAsg (nOp2 oAdd (.e (nSl (.o 9) (pNone) (pSome (nOp2 oSub (.o 10) (.e (nC (.int 1))))))) (.e (nL (nLstO (aCons (.e (nCall D_45 (aCons (.o 1) (aCons (.e (nL (nLstO (aCons (.e (nTup (aCons (.e (nC (.int 0))) (aCons (.e (nC (.int 1))) (aNil))))) (aCons (.e (nTup (aCons (.e (nC (.int 9))) (aCons (.e (nC (.int 3))) (aNil))))) (aCons (.e (nTup (aCons (.e (nC (.int 1))) (aNil)))) (aCons (.e (nTup (aCons (.e (nOp2 oMul (.e (nC (.int 3))) (.o 10))) (aCons (.e (nOp2 oMul (.e (nC (.int 3))) (.o 10))) (aNil))))) (aNil)))))))) (aNil))))) (aNil)))))) (gN 11))
  (sSeq (sFor (iV (nL (nLstO (aCons (.e (nV 9)) (aCons (.e (nV 11)) (aNil)))))) (gN 3) (sSeq (sAsg (nCall D_54 (aCons (.o 3) (aNil))) (gN 6))
  (sIf (tNot' (asT (.e (nCall (D_46 12) (aCons (.e (nL (nLstO (aCons (.e (nCall D_55 (aCons (.e (nC (.int 1))) (aCons (.o 3) (aNil))))) (aCons (.e (nCall D_28 (aCons (.o 3) (aNil)))) (aNil)))))) (aCons (.e (nL (nLstO (aCons (.e (nV 6)) (aCons (.e (nOp2 oEq (.o 6) (.e (nL (nLstO (aNil)))))) (aNil)))))) (aNil))))))) (sRet (nC (.bool false))) (sNil))))
  (sSeq (sAsg (nL (nLstO (aCons (.e (nC .none)) (aCons (.e (nTup (aNil))) (aCons (.e (nTup (aCons (.e (nTup (aCons (.e (nC (.int 0))) (aCons (.e (nC (.int 1))) (aNil))))) (aNil)))) (aCons (.e (nL (nLstO (aCons (.e (nL (nLstO (aCons (.e (nC (.int 0))) (aCons (.e (nC (.int 1))) (aNil)))))) (aNil))))) (aCons (.e (nL (nLstO (aCons (.e (nTup (aCons (.e (nC (.int 0))) (aCons (.e (nC (.int 1))) (aNil))))) (aCons (.e (nC .none)) (aNil)))))) (aCons (.e (nC (.str "text"))) (aCons (.e (nL (nLstO (aCons (.e (nC (.int 5))) (aNil))))) (aCons (.e ((fun m => .ok (.dict []) m))) (aNil))))))))))) (gN 12))
  (sSeq (sIf (tNot' (asT (.e (nCall (D_46 12) (aCons (.e (nOp2 oAdd (.e (nL (nLc (iV (nV 12)) (gN 13) (tYesN) (nCall D_55 (aCons (.e (nC (.int 0))) (aCons (.o 13) (aNil)))) [13]))) (.e (nL (nLc (iV (nV 12)) (gN 13) (tYesN) (nCall D_55 (aCons (.e (nC (.int 1))) (aCons (.o 13) (aNil)))) [13]))))) (aCons (.e (nOp2 oMul (.e (nL (nLstO (aCons (.e (nL (nLstO (aCons (.e (nC (.bool true))) (aCons (.e (nC (.bool false))) (aCons (.e (nC (.bool false))) (aCons (.e (nC (.bool false))) (aCons (.e (nC (.bool false))) (aNil))))))))) (aNil))))) (.e (nC (.int 16))))) (aNil))))))) (sRet (nC (.bool false))) (sNil))
  (sSeq (sAsg (nL (nLstO (aCons (.e (nCall D_39 (aCons (.e (nL (nLstO (aCons (.e (nTup (aCons (.e (nC (.str "pass"))) (aCons (.e (nC (.str "ann"))) (aCons (.e (nC (.str "elba"))) (aCons (.e (nC (.int 5))) (aCons (.e (nC (.int 1))) (aCons (.e (nC .none)) (aNil))))))))) (aCons (.e (nTup (aCons (.e (nC (.str "pas"))) (aCons (.e (nC (.str "ann"))) (aCons (.e (nC (.str "elba"))) (aCons (.e (nC (.int 0))) (aCons (.e (nC (.int 1))) (aCons (.e (nC .none)) (aNil))))))))) (aNil)))))) (aNil)))) (aCons (.e (nCall D_41 (aCons (.e (nL (nLstO (aCons (.e (nTup (aCons (.e (nC (.int 0))) (aCons (.e (nC (.int 2))) (aNil))))) (aCons (.e (nTup (aCons (.e (nC (.int 2))) (aCons (.e (nC (.int 3))) (aNil))))) (aNil)))))) (aNil)))) (aCons (.e (nCall D_41 (aCons (.e (nL (nLstO (aCons (.e (nTup (aCons (.e (nC (.int 3))) (aCons (.e (nC (.int 2))) (aNil))))) (aNil))))) (aNil)))) (aNil)))))) (gN 14))
  (sSeq (sAsg (nOp2 oAdd (.o 14) (.e (nL (nLstO (aCons (.e (nCall D_39 (aCons (.e (nL (nLstO (aNil)))) (aNil)))) (aCons (.e (nCall D_41 (aCons (.e (nL (nLstO (aNil)))) (aNil)))) (aCons (.e (nCall D_41 (aCons (.e (nL (nLstO (aCons (.e (nTup (aCons (.e (nC (.int 3))) (aCons (.e (nC (.int 2))) (aNil))))) (aCons (.e (nTup (aCons (.e (nC (.int 0))) (aCons (.e (nC (.int 1))) (aNil))))) (aNil)))))) (aNil)))) (aNil)))))))) (gN 14))
  (sRet (nCall (D_46 12) (aCons (.o 14) (aCons (.e (nL (nLstO (aCons (.e (nL (nLstO (aCons (.e (nTup (aCons (.e (nC (.str "order"))) (aCons (.e (nC (.int 0))) (aNil))))) (aCons (.e (nTup (aCons (.e (nC (.str "kind"))) (aCons (.e (nC (.int 1))) (aNil))))) (aNil)))))) (aCons (.e (nL (nLstO (aCons (.e (nTup (aCons (.e (nC (.str "apart"))) (aCons (.e (nC (.int 1))) (aNil))))) (aNil))))) (aCons (.e (nL (nLstO (aCons (.e (nTup (aCons (.e (nC (.str "order"))) (aCons (.e (nC (.int 0))) (aNil))))) (aNil))))) (aCons (.e (nL (nLstO (aNil)))) (aCons (.e (nL (nLstO (aNil)))) (aCons (.e (nL (nLstO (aCons (.e (nTup (aCons (.e (nC (.str "order"))) (aCons (.e (nC (.int 0))) (aNil))))) (aNil))))) (aNil)))))))))) (aNil))))))))))))))))))
def D_56 : NExp := runD 15 B_56
theorem law_ok (T : Tx K mg) {f : Addr} {fd : FuncData} (F0 : FunD K "law" "law" (defArgs (top 56)) (defBody (top 56)) (defScope (top 56)) [] [] f fd) : FnOk P w K mg base (L2.CX P w) 14 f fd ["script"] (NProm K mg 1 D_56) := by
  exact NFn.ok F0 sc_56 rfl fun cdv A outer s H E hr => by exact (nss_cons (ns_own 1 sc_56.nd rfl (by first | exact Or.inl rfl | exact Or.inr rfl) (neo_call ((n_43 T T.d__law_draws).mono (by omega)) hr (takes_of rfl rfl rfl rfl) (na_cons (no_o 0) na_nil) rfl rfl (aCons_len aNil_len)))
    (nss_cons (ns_for (passes_of rfl) rfl (ni_rg1 T.f_range (na_cons (no_e ne_int) na_nil)) (ng_name 2 sc_56.nd rfl (by first | exact Or.inl rfl | exact Or.inr rfl)) (nss_cons (ns_asg (ne_l (neo_lc (own := [("k", 4)]) rfl sc_56.nd (ni_rg1 T.f_range (na_cons (no_e (ne_call ((n_44 T T.d__law_take).mono (by omega)) hr (takes_of rfl rfl rfl rfl) (na_cons (no_o 1) (na_cons (no_e ne_int) na_nil)) rfl rfl (aCons_len (aCons_len aNil_len)))) na_nil)) (blkOk_by rfl) (fun s_ H_ C_ cl_ fp_ => (ng_name 4 sc_56.nd rfl (by first | exact Or.inl rfl | exact Or.inr rfl))) (fun s_ H_ C_ cl_ fp_ => pts_nilN) (fun s_ H_ C_ cl_ fp_ => (ne_call ((n_49 T T.d__law_paper).mono (by omega)) hr takes0 (na_cons (no_o 1) na_nil) rfl rfl (aCons_len aNil_len))))) (ng_name 3 sc_56.nd rfl (by first | exact Or.inl rfl | exact Or.inr rfl)))
    (nss_cons (ns_setLc (own := [("k", 4)]) 5 rfl sc_56.nd rfl rfl rfl (ni_rg1 T.f_range (na_cons (no_e (ne_len T.f_len (na_cons (no_o 3) na_nil))) na_nil)) (blkOk_by rfl) (fun s_ H_ C_ cl_ fp_ => (ng_name 4 sc_56.nd rfl (by first | exact Or.inl rfl | exact Or.inr rfl))) (fun s_ H_ C_ cl_ fp_ => pts_nilN) (fun s_ H_ C_ cl_ fp_ => (ne_call ((n_51 T T.d__law_fault).mono (by omega)) hr takes0 (na_cons (no_o 4) (na_cons (no_e (ne_ix (no_o 3) (no_o 4))) na_nil)) rfl rfl (aCons_len (aCons_len aNil_len)))))
    (nss_cons (ns_setLc (own := [("row", 7)]) 6 rfl sc_56.nd rfl rfl rfl (ni_v (ne_v 5)) (blkOk_by rfl) (fun s_ H_ C_ cl_ fp_ => (ng_name 7 sc_56.nd rfl (by first | exact Or.inl rfl | exact Or.inr rfl))) (fun s_ H_ C_ cl_ fp_ => (pts_oneN (nt_cmp op_notNN no_isnot (no_o 7) (no_e ne_none) rfl))) (fun s_ H_ C_ cl_ fp_ => (ne_v 7)))
    (nss_cons (ns_if (nt_not (nt_t (no_e (ne_call ((n_46 T T.d__law_same 12).mono (by omega)) hr (takes_of rfl rfl rfl rfl) (na_cons (no_e (ne_op op_addN no_add (no_e (ne_l (neo_lst (na_cons (no_e (ne_call ((n_55 T T.d__law_told).mono (by omega)) hr (takes_of rfl rfl rfl rfl) (na_cons (no_e ne_int) (na_cons (no_e (ne_l (neo_list T.f_list (no_o 3)))) na_nil)) rfl rfl (aCons_len (aCons_len aNil_len)))) na_nil)))) (no_e (ne_l (neo_lc (own := [("paper", 8)]) rfl sc_56.nd (ni_v (ne_v 3)) (blkOk_by rfl) (fun s_ H_ C_ cl_ fp_ => (ng_name 8 sc_56.nd rfl (by first | exact Or.inl rfl | exact Or.inr rfl))) (fun s_ H_ C_ cl_ fp_ => pts_nilN) (fun s_ H_ C_ cl_ fp_ => (ne_call ((n_25 T T.d_is_paper).mono (by omega)) hr takes0 (na_cons (no_o 8) na_nil) rfl rfl (aCons_len aNil_len)))))))) (na_cons (no_e (ne_op op_addN no_add (no_e (ne_l (neo_lst (na_cons (no_e (ne_v 6)) na_nil)))) (no_e (ne_l (neo_lc (own := [("row", 7)]) rfl sc_56.nd (ni_v (ne_v 5)) (blkOk_by rfl) (fun s_ H_ C_ cl_ fp_ => (ng_name 7 sc_56.nd rfl (by first | exact Or.inl rfl | exact Or.inr rfl))) (fun s_ H_ C_ cl_ fp_ => pts_nilN) (fun s_ H_ C_ cl_ fp_ => (ne_cmp op_isNN no_is (no_o 7) (no_e ne_none) rfl))))))) na_nil)) rfl rfl (aCons_len (aCons_len aNil_len)))))) (nss_one (ns_ret ne_bool)) nss_nil)
    (nss_cons (ns_asg (ne_call ((n_53 T T.d__law_stays).mono (by omega)) hr (takes_of rfl rfl rfl rfl) (na_cons (no_o 1) (na_cons (no_e (ne_call ((n_44 T T.d__law_take).mono (by omega)) hr (takes_of rfl rfl rfl rfl) (na_cons (no_o 1) (na_cons (no_e ne_int) na_nil)) rfl rfl (aCons_len (aCons_len aNil_len)))) na_nil)) rfl rfl (aCons_len (aCons_len aNil_len))) (ng_name 9 sc_56.nd rfl (by first | exact Or.inl rfl | exact Or.inr rfl)))
    (nss_cons (ns_asg (ne_call ((n_54 T T.d__law_stay_faults).mono (by omega)) hr (takes_of rfl rfl rfl rfl) (na_cons (no_o 9) na_nil) rfl rfl (aCons_len aNil_len)) (ng_name 6 sc_56.nd rfl (by first | exact Or.inl rfl | exact Or.inr rfl)))
    (nss_one (ns_if (nt_not (nt_t (no_e (ne_call ((n_46 T T.d__law_same 12).mono (by omega)) hr (takes_of rfl rfl rfl rfl) (na_cons (no_e (ne_l (neo_lst (na_cons (no_e (ne_call ((n_55 T T.d__law_told).mono (by omega)) hr (takes_of rfl rfl rfl rfl) (na_cons (no_e ne_int) (na_cons (no_e (ne_l (neo_list T.f_list (no_o 9)))) na_nil)) rfl rfl (aCons_len (aCons_len aNil_len)))) (na_cons (no_e (ne_call ((n_28 T T.d_are_stays).mono (by omega)) hr (takes_of rfl rfl rfl rfl) (na_cons (no_o 9) na_nil) rfl rfl (aCons_len aNil_len))) na_nil))))) (na_cons (no_e (ne_l (neo_lst (na_cons (no_e (ne_v 6)) (na_cons (no_e (ne_cmp (op_eqN hr.units) no_eq (no_o 6) (no_e (ne_l (neo_lst na_nil))) rfl)) na_nil))))) na_nil)) rfl rfl (aCons_len (aCons_len aNil_len)))))) (nss_one (ns_ret ne_bool)) nss_nil)))))))))
    (nss_cons (ns_asg (ne_call ((n_45 T T.d__law_pick).mono (by omega)) hr (takes_of rfl rfl rfl rfl) (na_cons (no_o 1) (na_cons (no_e (ne_l (neo_lst (na_cons (no_e ne_int) (na_cons (no_e ne_int) (na_cons (no_e ne_int) na_nil)))))) na_nil)) rfl rfl (aCons_len (aCons_len aNil_len))) (ng_name 10 sc_56.nd rfl (by first | exact Or.inl rfl | exact Or.inr rfl)))
    (nss_cons (ns_asg (ne_op op_mulN no_mul (no_e (ne_l (neo_lc (own := [("k", 4)]) rfl sc_56.nd (ni_rg1 T.f_range (na_cons (no_e ne_int) na_nil)) (blkOk_by rfl) (fun s_ H_ C_ cl_ fp_ => (ng_name 4 sc_56.nd rfl (by first | exact Or.inl rfl | exact Or.inr rfl))) (fun s_ H_ C_ cl_ fp_ => pts_nilN) (fun s_ H_ C_ cl_ fp_ => (ne_call ((n_49 T T.d__law_paper).mono (by omega)) hr takes0 (na_cons (no_o 1) na_nil) rfl rfl (aCons_len aNil_len)))))) (no_e ne_int)) (ng_name 3 sc_56.nd rfl (by first | exact Or.inl rfl | exact Or.inr rfl)))
    (nss_cons (ns_setLc (own := [("k", 4)]) 5 rfl sc_56.nd rfl rfl rfl (ni_rg1 T.f_range (na_cons (no_o 10) na_nil)) (blkOk_by rfl) (fun s_ H_ C_ cl_ fp_ => (ng_name 4 sc_56.nd rfl (by first | exact Or.inl rfl | exact Or.inr rfl))) (fun s_ H_ C_ cl_ fp_ => pts_nilN) (fun s_ H_ C_ cl_ fp_ => (ne_call ((n_51 T T.d__law_fault).mono (by omega)) hr takes0 (na_cons (no_o 4) (na_cons (no_e (ne_ix (no_o 3) (no_o 4))) na_nil)) rfl rfl (aCons_len (aCons_len aNil_len)))))
    (nss_cons (ns_if (nt_not (nt_t (no_e (ne_call ((n_46 T T.d__law_same 12).mono (by omega)) hr (takes_of rfl rfl rfl rfl) (na_cons (no_e (ne_call ((n_55 T T.d__law_told).mono (by omega)) hr (takes_of rfl rfl rfl rfl) (na_cons (no_e ne_int) (na_cons (no_e (ne_sl (no_o 3) np_none (np_some (ne_v 10)))) na_nil)) rfl rfl (aCons_len (aCons_len aNil_len)))) (na_cons (no_e (ne_op op_addN no_add (no_e (ne_op op_mulN no_mul (no_e (ne_l (neo_lst (na_cons (no_e (ne_tup (na_cons (no_e ne_str) (na_cons (no_e (ne_v 10)) na_nil)))) na_nil)))) (no_e (ne_cty call_int1 cn_int T.f_int bt_int (na_cons (no_e (ne_cmp op_gtN no_gt (no_o 10) (no_e ne_int) rfl)) na_nil))))) (no_e (ne_l (neo_lc (own := [("row", 7)]) rfl sc_56.nd (ni_v (ne_v 5)) (blkOk_by rfl) (fun s_ H_ C_ cl_ fp_ => (ng_name 7 sc_56.nd rfl (by first | exact Or.inl rfl | exact Or.inr rfl))) (fun s_ H_ C_ cl_ fp_ => (pts_oneN (nt_cmp op_notNN no_isnot (no_o 7) (no_e ne_none) rfl))) (fun s_ H_ C_ cl_ fp_ => (ne_v 7))))))) na_nil)) rfl rfl (aCons_len (aCons_len aNil_len)))))) (nss_one (ns_ret ne_bool)) nss_nil)
    (nss_cons (ns_asg (ne_call ((n_45 T T.d__law_pick).mono (by omega)) hr (takes_of rfl rfl rfl rfl) (na_cons (no_o 1) (na_cons (no_e (ne_l (neo_lst (na_cons (no_e ne_int) (na_cons (no_e ne_int) (na_cons (no_e ne_int) na_nil)))))) na_nil)) rfl rfl (aCons_len (aCons_len aNil_len))) (ng_name 10 sc_56.nd rfl (by first | exact Or.inl rfl | exact Or.inr rfl)))
    (nss_cons (ns_setLc (own := [("k", 4)]) 9 rfl sc_56.nd rfl rfl rfl (ni_rg1 T.f_range (na_cons (no_o 10) na_nil)) (blkOk_by rfl) (fun s_ H_ C_ cl_ fp_ => (ng_name 4 sc_56.nd rfl (by first | exact Or.inl rfl | exact Or.inr rfl))) (fun s_ H_ C_ cl_ fp_ => pts_nilN) (fun s_ H_ C_ cl_ fp_ => (ne_tup (na_cons (no_e (ne_op op_mulN no_mul (no_e ne_int) (no_o 4))) (na_cons (no_e (ne_op op_addN no_add (no_e (ne_op op_mulN no_mul (no_e ne_int) (no_o 4))) (no_e ne_int))) na_nil)))))
    (nss_cons (ns_asg (ne_op op_addN no_add (no_e (ne_sl (no_o 9) np_none (np_some (ne_op op_sub no_sub (no_o 10) (no_e ne_int))))) (no_e (ne_l (neo_lst (na_cons (no_e (ne_call ((n_45 T T.d__law_pick).mono (by omega)) hr (takes_of rfl rfl rfl rfl) (na_cons (no_o 1) (na_cons (no_e (ne_l (neo_lst (na_cons (no_e (ne_tup (na_cons (no_e ne_int) (na_cons (no_e ne_int) na_nil)))) (na_cons (no_e (ne_tup (na_cons (no_e ne_int) (na_cons (no_e ne_int) na_nil)))) (na_cons (no_e (ne_tup (na_cons (no_e ne_int) na_nil))) (na_cons (no_e (ne_tup (na_cons (no_e (ne_op op_mulN no_mul (no_e ne_int) (no_o 10))) (na_cons (no_e (ne_op op_mulN no_mul (no_e ne_int) (no_o 10))) na_nil)))) na_nil))))))) na_nil)) rfl rfl (aCons_len (aCons_len aNil_len)))) na_nil))))) (ng_name 11 sc_56.nd rfl (by first | exact Or.inl rfl | exact Or.inr rfl)))
    (nss_cons (ns_for (passes_of rfl) rfl (ni_v (ne_l (neo_lst (na_cons (no_e (ne_v 9)) (na_cons (no_e (ne_v 11)) na_nil))))) (ng_name 3 sc_56.nd rfl (by first | exact Or.inl rfl | exact Or.inr rfl)) (nss_cons (ns_asg (ne_call ((n_54 T T.d__law_stay_faults).mono (by omega)) hr (takes_of rfl rfl rfl rfl) (na_cons (no_o 3) na_nil) rfl rfl (aCons_len aNil_len)) (ng_name 6 sc_56.nd rfl (by first | exact Or.inl rfl | exact Or.inr rfl)))
    (nss_one (ns_if (nt_not (nt_t (no_e (ne_call ((n_46 T T.d__law_same 12).mono (by omega)) hr (takes_of rfl rfl rfl rfl) (na_cons (no_e (ne_l (neo_lst (na_cons (no_e (ne_call ((n_55 T T.d__law_told).mono (by omega)) hr (takes_of rfl rfl rfl rfl) (na_cons (no_e ne_int) (na_cons (no_o 3) na_nil)) rfl rfl (aCons_len (aCons_len aNil_len)))) (na_cons (no_e (ne_call ((n_28 T T.d_are_stays).mono (by omega)) hr (takes_of rfl rfl rfl rfl) (na_cons (no_o 3) na_nil) rfl rfl (aCons_len aNil_len))) na_nil))))) (na_cons (no_e (ne_l (neo_lst (na_cons (no_e (ne_v 6)) (na_cons (no_e (ne_cmp (op_eqN hr.units) no_eq (no_o 6) (no_e (ne_l (neo_lst na_nil))) rfl)) na_nil))))) na_nil)) rfl rfl (aCons_len (aCons_len aNil_len)))))) (nss_one (ns_ret ne_bool)) nss_nil))))
    (nss_cons (ns_asg (ne_l (neo_lst (na_cons (no_e ne_none) (na_cons (no_e (ne_tup na_nil)) (na_cons (no_e (ne_tup (na_cons (no_e (ne_tup (na_cons (no_e ne_int) (na_cons (no_e ne_int) na_nil)))) na_nil))) (na_cons (no_e (ne_l (neo_lst (na_cons (no_e (ne_l (neo_lst (na_cons (no_e ne_int) (na_cons (no_e ne_int) na_nil))))) na_nil)))) (na_cons (no_e (ne_l (neo_lst (na_cons (no_e (ne_tup (na_cons (no_e ne_int) (na_cons (no_e ne_int) na_nil)))) (na_cons (no_e ne_none) na_nil))))) (na_cons (no_e ne_str) (na_cons (no_e (ne_l (neo_lst (na_cons (no_e ne_int) na_nil)))) (na_cons (no_e ne_dict0) na_nil)))))))))) (ng_name 12 sc_56.nd rfl (by first | exact Or.inl rfl | exact Or.inr rfl)))
    (nss_cons (ns_if (nt_not (nt_t (no_e (ne_call ((n_46 T T.d__law_same 12).mono (by omega)) hr (takes_of rfl rfl rfl rfl) (na_cons (no_e (ne_op op_addN no_add (no_e (ne_l (neo_lc (own := [("value", 13)]) rfl sc_56.nd (ni_v (ne_v 12)) (blkOk_by rfl) (fun s_ H_ C_ cl_ fp_ => (ng_name 13 sc_56.nd rfl (by first | exact Or.inl rfl | exact Or.inr rfl))) (fun s_ H_ C_ cl_ fp_ => pts_nilN) (fun s_ H_ C_ cl_ fp_ => (ne_call ((n_55 T T.d__law_told).mono (by omega)) hr takes0 (na_cons (no_e ne_int) (na_cons (no_o 13) na_nil)) rfl rfl (aCons_len (aCons_len aNil_len))))))) (no_e (ne_l (neo_lc (own := [("value", 13)]) rfl sc_56.nd (ni_v (ne_v 12)) (blkOk_by rfl) (fun s_ H_ C_ cl_ fp_ => (ng_name 13 sc_56.nd rfl (by first | exact Or.inl rfl | exact Or.inr rfl))) (fun s_ H_ C_ cl_ fp_ => pts_nilN) (fun s_ H_ C_ cl_ fp_ => (ne_call ((n_55 T T.d__law_told).mono (by omega)) hr takes0 (na_cons (no_e ne_int) (na_cons (no_o 13) na_nil)) rfl rfl (aCons_len (aCons_len aNil_len))))))))) (na_cons (no_e (ne_op op_mulN no_mul (no_e (ne_l (neo_lst (na_cons (no_e (ne_l (neo_lst (na_cons (no_e ne_bool) (na_cons (no_e ne_bool) (na_cons (no_e ne_bool) (na_cons (no_e ne_bool) (na_cons (no_e ne_bool) na_nil)))))))) na_nil)))) (no_e ne_int))) na_nil)) rfl rfl (aCons_len (aCons_len aNil_len)))))) (nss_one (ns_ret ne_bool)) nss_nil)
    (nss_cons (ns_asg (ne_l (neo_lst (na_cons (no_e (ne_call ((n_39 T T.d_papers_faults).mono (by omega)) hr (takes_of rfl rfl rfl rfl) (na_cons (no_e (ne_l (neo_lst (na_cons (no_e (ne_tup (na_cons (no_e ne_str) (na_cons (no_e ne_str) (na_cons (no_e ne_str) (na_cons (no_e ne_int) (na_cons (no_e ne_int) (na_cons (no_e ne_none) na_nil)))))))) (na_cons (no_e (ne_tup (na_cons (no_e ne_str) (na_cons (no_e ne_str) (na_cons (no_e ne_str) (na_cons (no_e ne_int) (na_cons (no_e ne_int) (na_cons (no_e ne_none) na_nil)))))))) na_nil))))) na_nil) rfl rfl (aCons_len aNil_len))) (na_cons (no_e (ne_call ((n_41 T T.d_stays_faults).mono (by omega)) hr (takes_of rfl rfl rfl rfl) (na_cons (no_e (ne_l (neo_lst (na_cons (no_e (ne_tup (na_cons (no_e ne_int) (na_cons (no_e ne_int) na_nil)))) (na_cons (no_e (ne_tup (na_cons (no_e ne_int) (na_cons (no_e ne_int) na_nil)))) na_nil))))) na_nil) rfl rfl (aCons_len aNil_len))) (na_cons (no_e (ne_call ((n_41 T T.d_stays_faults).mono (by omega)) hr (takes_of rfl rfl rfl rfl) (na_cons (no_e (ne_l (neo_lst (na_cons (no_e (ne_tup (na_cons (no_e ne_int) (na_cons (no_e ne_int) na_nil)))) na_nil)))) na_nil) rfl rfl (aCons_len aNil_len))) na_nil))))) (ng_name 14 sc_56.nd rfl (by first | exact Or.inl rfl | exact Or.inr rfl)))
    (nss_cons (ns_asg (ne_op op_addN no_add (no_o 14) (no_e (ne_l (neo_lst (na_cons (no_e (ne_call ((n_39 T T.d_papers_faults).mono (by omega)) hr (takes_of rfl rfl rfl rfl) (na_cons (no_e (ne_l (neo_lst na_nil))) na_nil) rfl rfl (aCons_len aNil_len))) (na_cons (no_e (ne_call ((n_41 T T.d_stays_faults).mono (by omega)) hr (takes_of rfl rfl rfl rfl) (na_cons (no_e (ne_l (neo_lst na_nil))) na_nil) rfl rfl (aCons_len aNil_len))) (na_cons (no_e (ne_call ((n_41 T T.d_stays_faults).mono (by omega)) hr (takes_of rfl rfl rfl rfl) (na_cons (no_e (ne_l (neo_lst (na_cons (no_e (ne_tup (na_cons (no_e ne_int) (na_cons (no_e ne_int) na_nil)))) (na_cons (no_e (ne_tup (na_cons (no_e ne_int) (na_cons (no_e ne_int) na_nil)))) na_nil))))) na_nil) rfl rfl (aCons_len aNil_len))) na_nil))))))) (ng_name 14 sc_56.nd rfl (by first | exact Or.inl rfl | exact Or.inr rfl)))
    (nss_one (ns_ret (ne_call ((n_46 T T.d__law_same 12).mono (by omega)) hr (takes_of rfl rfl rfl rfl) (na_cons (no_o 14) (na_cons (no_e (ne_l (neo_lst (na_cons (no_e (ne_l (neo_lst (na_cons (no_e (ne_tup (na_cons (no_e ne_str) (na_cons (no_e ne_int) na_nil)))) (na_cons (no_e (ne_tup (na_cons (no_e ne_str) (na_cons (no_e ne_int) na_nil)))) na_nil))))) (na_cons (no_e (ne_l (neo_lst (na_cons (no_e (ne_tup (na_cons (no_e ne_str) (na_cons (no_e ne_int) na_nil)))) na_nil)))) (na_cons (no_e (ne_l (neo_lst (na_cons (no_e (ne_tup (na_cons (no_e ne_str) (na_cons (no_e ne_int) na_nil)))) na_nil)))) (na_cons (no_e (ne_l (neo_lst na_nil))) (na_cons (no_e (ne_l (neo_lst na_nil))) (na_cons (no_e (ne_l (neo_lst (na_cons (no_e (ne_tup (na_cons (no_e ne_str) (na_cons (no_e ne_int) na_nil)))) na_nil)))) na_nil))))))))) na_nil)) rfl rfl (aCons_len (aCons_len aNil_len)))))))))))))))))))
def fd_0 : He.DefD := ⟨("_law_draws", none), "_law_draws", "_law_draws", defArgs (top 43), defBody (top 43), defScope (top 43), [], []⟩
def fd_1 : He.DefD := ⟨("_law_fault", none), "_law_fault", "_law_fault", defArgs (top 51), defBody (top 51), defScope (top 51), [], []⟩
def fd_2 : He.DefD := ⟨("_law_flags", none), "_law_flags", "_law_flags", defArgs (top 47), defBody (top 47), defScope (top 47), [], []⟩
def fd_3 : He.DefD := ⟨("_law_is_name", none), "_law_is_name", "_law_is_name", defArgs (top 48), defBody (top 48), defScope (top 48), [], []⟩
def fd_4 : He.DefD := ⟨("_law_is_number", none), "_law_is_number", "_law_is_number", defArgs (top 50), defBody (top 50), defScope (top 50), [], []⟩
def fd_5 : He.DefD := ⟨("_law_paper", none), "_law_paper", "_law_paper", defArgs (top 49), defBody (top 49), defScope (top 49), [], []⟩
def fd_6 : He.DefD := ⟨("_law_pick", none), "_law_pick", "_law_pick", defArgs (top 45), defBody (top 45), defScope (top 45), [], []⟩
def fd_7 : He.DefD := ⟨("_law_same", none), "_law_same", "_law_same", defArgs (top 46), defBody (top 46), defScope (top 46), [], []⟩
def fd_8 : He.DefD := ⟨("_law_stay_fault", none), "_law_stay_fault", "_law_stay_fault", defArgs (top 52), defBody (top 52), defScope (top 52), [], []⟩
def fd_9 : He.DefD := ⟨("_law_stay_faults", none), "_law_stay_faults", "_law_stay_faults", defArgs (top 54), defBody (top 54), defScope (top 54), [], []⟩
def fd_10 : He.DefD := ⟨("_law_stays", none), "_law_stays", "_law_stays", defArgs (top 53), defBody (top 53), defScope (top 53), [], []⟩
def fd_11 : He.DefD := ⟨("_law_take", none), "_law_take", "_law_take", defArgs (top 44), defBody (top 44), defScope (top 44), [], []⟩
def fd_12 : He.DefD := ⟨("_law_told", none), "_law_told", "_law_told", defArgs (top 55), defBody (top 55), defScope (top 55), [], []⟩
def fd_13 : He.DefD := ⟨("are_stays", none), "are_stays", "are_stays", defArgs (top 28), defBody (top 28), defScope (top 28), [], []⟩
def fd_14 : He.DefD := ⟨("check", none), "check", "check", defArgs (top 11), defBody (top 11), defScope (top 11), [], []⟩
def fd_15 : He.DefD := ⟨("check_draft", none), "check_draft", "check_draft", defArgs (top 38), defBody (top 38), defScope (top 38), [], []⟩
def fd_16 : He.DefD := ⟨("is_day_papers", none), "is_day", "is_day", defArgs (top 22), defBody (top 22), defScope (top 22), [], []⟩
def fd_17 : He.DefD := ⟨("is_day_sheets", none), "is_day", "is_day", defArgs (top 35), defBody (top 35), defScope (top 35), [], []⟩
def fd_18 : He.DefD := ⟨("is_integer", none), "is_integer", "is_integer", defArgs (top 8), defBody (top 8), defScope (top 8), [], []⟩
def fd_19 : He.DefD := ⟨("is_kind", none), "is_kind", "is_kind", defArgs (top 24), defBody (top 24), defScope (top 24), [], []⟩
def fd_20 : He.DefD := ⟨("is_name", none), "is_name", "is_name", defArgs (top 10), defBody (top 10), defScope (top 10), [], []⟩
def fd_21 : He.DefD := ⟨("is_paper", none), "is_paper", "is_paper", defArgs (top 25), defBody (top 25), defScope (top 25), [], []⟩
def fd_22 : He.DefD := ⟨("is_within", none), "is_within", "is_within", defArgs (top 9), defBody (top 9), defScope (top 9), [], []⟩
def fd_23 : He.DefD := ⟨("paper_fault", none), "paper_fault", "paper_fault", defArgs (top 37), defBody (top 37), defScope (top 37), [], []⟩
def fd_24 : He.DefD := ⟨("papers_faults", none), "papers_faults", "papers_faults", defArgs (top 39), defBody (top 39), defScope (top 39), [], []⟩
def fd_25 : He.DefD := ⟨("stay_fault", none), "stay_fault", "stay_fault", defArgs (top 40), defBody (top 40), defScope (top 40), [], []⟩
def fd_26 : He.DefD := ⟨("stays_faults", none), "stays_faults", "stays_faults", defArgs (top 41), defBody (top 41), defScope (top 41), [], []⟩
def fd_27 : He.DefD := ⟨("law", none), "law", "law", defArgs (top 56), defBody (top 56), defScope (top 56), [], []⟩
def fn_0 : List He.DefD := [fd_0, fd_1, fd_2, fd_3, fd_4, fd_5, fd_6, fd_7, fd_8, fd_9, fd_10, fd_11, fd_12, fd_13, fd_14, fd_15, fd_16, fd_17, fd_18, fd_19, fd_20, fd_21, fd_22, fd_23, fd_24, fd_25, fd_26, fd_27]
def fn : List He.DefD := fn_0
def fa_0 : List He.Fa := [.free "abs", .free "all", .free "bool", .free "dict", .free "enumerate", .free "int", .free "isinstance", .free "len", .free "list", .free "max", .free "range", .free "reversed", .free "str", .free "tuple", .free "zip", .glo "_law_draws", .glo "_law_fault", .glo "_law_flags", .glo "_law_is_name", .glo "_law_is_number", .glo "_law_paper", .glo "_law_pick", .glo "_law_same", .glo "_law_stay_fault", .glo "_law_stay_faults", .glo "_law_stays", .glo "_law_take", .glo "_law_told", .glo "are_stays", .glo "check"]
def fa_1 : List He.Fa := [.glo "check_draft", .glo "is_day_papers", .glo "is_day_sheets", .glo "is_integer", .glo "is_kind", .glo "is_name", .glo "is_paper", .glo "is_within", .glo "paper_fault", .glo "papers_faults", .glo "stay_fault", .glo "stays_faults", .exc "NotRight", .glo "NotRight", .glo "Malformed", .glo "TooLarge", .glo "NoAnswer", .glo "NotThere", .exm "NotRight" "BorderError" true, .glo "BorderError", .glo "law"]
def fa : List He.Fa := fa_0 ++ fa_1
def fb_0 : List Fb := [.dat "BEGIN" (.int 3), .dat "END" (.int 4), .dat "ENTRIES" (.int 5), .dat "HOLDER" (.int 1), .dat "KIND" (.int 0), .dat "KINDS_papers" (.tuple [(.str "pass"), (.str "card"), (.str "visa"), (.str "permit")]), .dat "KINDS_sheets" (.tuple [(.str "pass"), (.str "card"), (.str "visa"), (.str "permit")]), .dat "LAST_DAY_papers" (.int 100000), .dat "LAST_DAY_sheets" (.int 100000), .dat "MOST_ENTRIES_papers" (.int 99), .dat "MOST_ENTRIES_sheets" (.int 99), .dat "MOST_PAPERS" (.int 40), .dat "MOST_SIGNS" (.int 12), .dat "MOST_STAYS_sheets" (.int 200), .dat "MOST_STAYS_stays" (.int 200), .dat "STATE" (.int 2), .kit "NotRight" "Malformed" false, .kit "NotRight" "TooLarge" false, .kit "NotRight" "NoAnswer" false, .kit "NotRight" "NotThere" false, .kit "NotRight" "NotRight" true, .excC "NotRight"]
def fb : List Fb := fb_0
def loose_0 : List PySem.Str := ["__name__", "MOST_SIGNS", "BorderError", "NotRight", "NotThere", "NoAnswer", "TooLarge", "Malformed", "is_integer", "is_within", "is_name", "check", "KINDS_papers", "LAST_DAY_papers", "MOST_ENTRIES_papers", "KIND", "HOLDER", "STATE", "BEGIN", "END", "ENTRIES", "is_day", "is_day_papers", "is_kind", "is_paper", "MOST_STAYS_stays", "are_stays", "LAST_DAY_sheets", "MOST_PAPERS", "MOST_STAYS_sheets"]
def loose_1 : List PySem.Str := ["MOST_ENTRIES_sheets", "KINDS_sheets", "is_day_sheets", "paper_fault", "check_draft", "papers_faults", "stay_fault", "stays_faults", "_law_draws", "_law_take", "_law_pick", "_law_same", "_law_flags", "_law_is_name", "_law_paper", "_law_is_number", "_law_fault", "_law_stay_fault", "_law_stays", "_law_stay_faults", "_law_told"]
def loose : List PySem.Str := loose_0 ++ loose_1
abbrev RR : PySem.W.OpenRow := PySem.W.OpenLaw.row PySem.Challenge.rw_borderward_k16_whole_faults_of_drafts
abbrev hk : PySem.W.Hook := hookM 4 fa fn fb
def ob (s : PySem.W.SharedT) : AlM := obsM 4 fa fn fb (HandSHeadRun.getT s)
theorem ob_eq (s : PySem.W.SharedT) : ob s = hk.obs s.abs := obsM_eq (HandSHeadRun.getT_eq s)
theorem run (w : World) : HandSHeadRun.RunEq RR (PySem.W.view RR.prog [56]) hk ob 8000 loose w := by
  intro os
  kernel_rfl
theorem facts {K : PySem.W.Frag} {h : Heap} {mg : Str → Option Value} (X : K.In h) (G : h.Ns mainGlobals mg) (c : He.SaysD fa fn K) (c2 : (fb.all fun f => f.ok K) = true) : Tx K mg :=
  ⟨(He.free_ok X G (c.fact 0 (f := .free "abs") rfl)),
  (He.free_ok X G (c.fact 1 (f := .free "all") rfl)),
  (He.free_ok X G (c.fact 2 (f := .free "bool") rfl)),
  (He.free_ok X G (c.fact 3 (f := .free "dict") rfl)),
  (He.free_ok X G (c.fact 4 (f := .free "enumerate") rfl)),
  (He.free_ok X G (c.fact 5 (f := .free "int") rfl)),
  (He.free_ok X G (c.fact 6 (f := .free "isinstance") rfl)),
  (He.free_ok X G (c.fact 7 (f := .free "len") rfl)),
  (He.free_ok X G (c.fact 8 (f := .free "list") rfl)),
  (He.free_ok X G (c.fact 9 (f := .free "max") rfl)),
  (He.free_ok X G (c.fact 10 (f := .free "range") rfl)),
  (He.free_ok X G (c.fact 11 (f := .free "reversed") rfl)),
  (He.free_ok X G (c.fact 12 (f := .free "str") rfl)),
  (He.free_ok X G (c.fact 13 (f := .free "tuple") rfl)),
  (He.free_ok X G (c.fact 14 (f := .free "zip") rfl)),
  (dat_ok X G (fb_at c2 0 (f := .dat "BEGIN" (.int 3)) rfl)),
  (dat_ok X G (fb_at c2 1 (f := .dat "END" (.int 4)) rfl)),
  (dat_ok X G (fb_at c2 2 (f := .dat "ENTRIES" (.int 5)) rfl)),
  (dat_ok X G (fb_at c2 3 (f := .dat "HOLDER" (.int 1)) rfl)),
  (dat_ok X G (fb_at c2 4 (f := .dat "KIND" (.int 0)) rfl)),
  (dat_ok X G (fb_at c2 5 (f := .dat "KINDS_papers" (.tuple [(.str "pass"), (.str "card"), (.str "visa"), (.str "permit")])) rfl)),
  (dat_ok X G (fb_at c2 6 (f := .dat "KINDS_sheets" (.tuple [(.str "pass"), (.str "card"), (.str "visa"), (.str "permit")])) rfl)),
  (dat_ok X G (fb_at c2 7 (f := .dat "LAST_DAY_papers" (.int 100000)) rfl)),
  (dat_ok X G (fb_at c2 8 (f := .dat "LAST_DAY_sheets" (.int 100000)) rfl)),
  (dat_ok X G (fb_at c2 9 (f := .dat "MOST_ENTRIES_papers" (.int 99)) rfl)),
  (dat_ok X G (fb_at c2 10 (f := .dat "MOST_ENTRIES_sheets" (.int 99)) rfl)),
  (dat_ok X G (fb_at c2 11 (f := .dat "MOST_PAPERS" (.int 40)) rfl)),
  (dat_ok X G (fb_at c2 12 (f := .dat "MOST_SIGNS" (.int 12)) rfl)),
  (dat_ok X G (fb_at c2 13 (f := .dat "MOST_STAYS_sheets" (.int 200)) rfl)),
  (dat_ok X G (fb_at c2 14 (f := .dat "MOST_STAYS_stays" (.int 200)) rfl)),
  (dat_ok X G (fb_at c2 15 (f := .dat "STATE" (.int 2)) rfl)),
  (let ⟨fd, F⟩ := c.def_ 0 (d := fd_0) rfl; ⟨_, fd, F, He.glo_ok X G (c.fact 15 (f := .glo "_law_draws") rfl)⟩),
  (let ⟨fd, F⟩ := c.def_ 1 (d := fd_1) rfl; ⟨_, fd, F, He.glo_ok X G (c.fact 16 (f := .glo "_law_fault") rfl)⟩),
  (let ⟨fd, F⟩ := c.def_ 2 (d := fd_2) rfl; ⟨_, fd, F, He.glo_ok X G (c.fact 17 (f := .glo "_law_flags") rfl)⟩),
  (let ⟨fd, F⟩ := c.def_ 3 (d := fd_3) rfl; ⟨_, fd, F, He.glo_ok X G (c.fact 18 (f := .glo "_law_is_name") rfl)⟩),
  (let ⟨fd, F⟩ := c.def_ 4 (d := fd_4) rfl; ⟨_, fd, F, He.glo_ok X G (c.fact 19 (f := .glo "_law_is_number") rfl)⟩),
  (let ⟨fd, F⟩ := c.def_ 5 (d := fd_5) rfl; ⟨_, fd, F, He.glo_ok X G (c.fact 20 (f := .glo "_law_paper") rfl)⟩),
  (let ⟨fd, F⟩ := c.def_ 6 (d := fd_6) rfl; ⟨_, fd, F, He.glo_ok X G (c.fact 21 (f := .glo "_law_pick") rfl)⟩),
  (let ⟨fd, F⟩ := c.def_ 7 (d := fd_7) rfl; ⟨_, fd, F, He.glo_ok X G (c.fact 22 (f := .glo "_law_same") rfl)⟩),
  (let ⟨fd, F⟩ := c.def_ 8 (d := fd_8) rfl; ⟨_, fd, F, He.glo_ok X G (c.fact 23 (f := .glo "_law_stay_fault") rfl)⟩),
  (let ⟨fd, F⟩ := c.def_ 9 (d := fd_9) rfl; ⟨_, fd, F, He.glo_ok X G (c.fact 24 (f := .glo "_law_stay_faults") rfl)⟩),
  (let ⟨fd, F⟩ := c.def_ 10 (d := fd_10) rfl; ⟨_, fd, F, He.glo_ok X G (c.fact 25 (f := .glo "_law_stays") rfl)⟩),
  (let ⟨fd, F⟩ := c.def_ 11 (d := fd_11) rfl; ⟨_, fd, F, He.glo_ok X G (c.fact 26 (f := .glo "_law_take") rfl)⟩),
  (let ⟨fd, F⟩ := c.def_ 12 (d := fd_12) rfl; ⟨_, fd, F, He.glo_ok X G (c.fact 27 (f := .glo "_law_told") rfl)⟩),
  (let ⟨fd, F⟩ := c.def_ 13 (d := fd_13) rfl; ⟨_, fd, F, He.glo_ok X G (c.fact 28 (f := .glo "are_stays") rfl)⟩),
  (let ⟨fd, F⟩ := c.def_ 14 (d := fd_14) rfl; ⟨_, fd, F, He.glo_ok X G (c.fact 29 (f := .glo "check") rfl)⟩),
  (let ⟨fd, F⟩ := c.def_ 15 (d := fd_15) rfl; ⟨_, fd, F, He.glo_ok X G (c.fact 30 (f := .glo "check_draft") rfl)⟩),
  (let ⟨fd, F⟩ := c.def_ 16 (d := fd_16) rfl; ⟨_, fd, F, He.glo_ok X G (c.fact 31 (f := .glo "is_day_papers") rfl)⟩),
  (let ⟨fd, F⟩ := c.def_ 17 (d := fd_17) rfl; ⟨_, fd, F, He.glo_ok X G (c.fact 32 (f := .glo "is_day_sheets") rfl)⟩),
  (let ⟨fd, F⟩ := c.def_ 18 (d := fd_18) rfl; ⟨_, fd, F, He.glo_ok X G (c.fact 33 (f := .glo "is_integer") rfl)⟩),
  (let ⟨fd, F⟩ := c.def_ 19 (d := fd_19) rfl; ⟨_, fd, F, He.glo_ok X G (c.fact 34 (f := .glo "is_kind") rfl)⟩),
  (let ⟨fd, F⟩ := c.def_ 20 (d := fd_20) rfl; ⟨_, fd, F, He.glo_ok X G (c.fact 35 (f := .glo "is_name") rfl)⟩),
  (let ⟨fd, F⟩ := c.def_ 21 (d := fd_21) rfl; ⟨_, fd, F, He.glo_ok X G (c.fact 36 (f := .glo "is_paper") rfl)⟩),
  (let ⟨fd, F⟩ := c.def_ 22 (d := fd_22) rfl; ⟨_, fd, F, He.glo_ok X G (c.fact 37 (f := .glo "is_within") rfl)⟩),
  (let ⟨fd, F⟩ := c.def_ 23 (d := fd_23) rfl; ⟨_, fd, F, He.glo_ok X G (c.fact 38 (f := .glo "paper_fault") rfl)⟩),
  (let ⟨fd, F⟩ := c.def_ 24 (d := fd_24) rfl; ⟨_, fd, F, He.glo_ok X G (c.fact 39 (f := .glo "papers_faults") rfl)⟩),
  (let ⟨fd, F⟩ := c.def_ 25 (d := fd_25) rfl; ⟨_, fd, F, He.glo_ok X G (c.fact 40 (f := .glo "stay_fault") rfl)⟩),
  (let ⟨fd, F⟩ := c.def_ 26 (d := fd_26) rfl; ⟨_, fd, F, He.glo_ok X G (c.fact 41 (f := .glo "stays_faults") rfl)⟩),
  (excF_ok X G (c.fact 42 (f := .exc "NotRight") rfl) (c.fact 43 (f := .glo "NotRight") rfl)),
  ⟨_, (He.glo_ok X G (c.fact 49 (f := .glo "BorderError") rfl)), (fall_cons ⟨_, ⟨(He.glo_ok X G (c.fact 43 (f := .glo "NotRight") rfl)), excC_ok (fb_at c2 21 (f := .excC "NotRight") rfl), (fall_cons ⟨_, (He.glo_ok X G (c.fact 43 (f := .glo "NotRight") rfl)), kit_ok (fb_at c2 20 (f := .kit "NotRight" "NotRight" true) rfl)⟩ (fall_cons ⟨_, (He.glo_ok X G (c.fact 47 (f := .glo "NotThere") rfl)), kit_ok (fb_at c2 19 (f := .kit "NotRight" "NotThere" false) rfl)⟩ (fall_cons ⟨_, (He.glo_ok X G (c.fact 46 (f := .glo "NoAnswer") rfl)), kit_ok (fb_at c2 18 (f := .kit "NotRight" "NoAnswer" false) rfl)⟩ (fall_cons ⟨_, (He.glo_ok X G (c.fact 45 (f := .glo "TooLarge") rfl)), kit_ok (fb_at c2 17 (f := .kit "NotRight" "TooLarge" false) rfl)⟩ (fall_cons ⟨_, (He.glo_ok X G (c.fact 44 (f := .glo "Malformed") rfl)), kit_ok (fb_at c2 16 (f := .kit "NotRight" "Malformed" false) rfl)⟩ fall_nil)))))⟩, He.exm_ok (c.fact 48 (f := .exm "NotRight" "BorderError" true) rfl)⟩ fall_nil)⟩⟩
end Wlaw_k16
end NL
end L2
namespace L2
namespace NL
open PySem PySem.Spec PyProof.Rows
namespace Wlaw_k16
theorem e43 : D_43 = Draws := rfl
theorem e44 : D_44 = Take := rfl
theorem e45 : D_45 = Pick := rfl
theorem e46 : D_46 = Same := by
  funext k
  induction k with
  | zero => rfl
  | succ k ih =>
    show runD 4 (B_46 (D_46 k)) = runD 4 (sameB (Same k))
    rw [ih]
    rfl
def numQ (v : PyData) (lo hi : Int) : Bool := match v with
  | .int i => decide (lo ≤ i) && decide (i ≤ hi)
  | _ => false
theorem s50 (v : PyData) (lo hi : Int) : D_50 [some (.val v), some (.val (.int lo)), some (.val (.int hi))] = .ok (.bool (numQ v lo hi)) [some (.val v), some (.val (.int lo)), some (.val (.int hi))] := by
  apply wp_eq
  unfold D_50
  rw [wp_run]
  cases v <;> simp -dsimp [B_50, isTy, numQ]
  rename_i i
  by_cases h : lo ≤ i <;> simp -dsimp [h, numQ]
theorem s8 (v : PyData) : D_8 [some (.val v)] = .ok (.bool (match v with | .int _ => true | _ => false)) [some (.val v)] := by
  apply wp_eq
  unfold D_8
  rw [wp_run]
  cases v <;> simp -dsimp [B_8, isTy]
theorem s9 (v : PyData) (lo hi : Int) : D_9 [some (.val v), some (.val (.int lo)), some (.val (.int hi))] = .ok (.bool (numQ v lo hi)) [some (.val v), some (.val (.int lo)), some (.val (.int hi))] := by
  apply wp_eq
  unfold D_9
  rw [wp_run]
  cases v <;> simp -dsimp [B_9, s8, numQ]
  rename_i i
  by_cases h : lo ≤ i <;> simp -dsimp [h, numQ]
theorem s22 (v : PyData) : D_22 [some (.val v)] = .ok (.bool (numQ v 0 100000)) [some (.val v)] := by
  apply wp_eq
  unfold D_22
  rw [wp_run]
  simp -dsimp [B_22, s9]
theorem s35 (v : PyData) : D_35 [some (.val v)] = .ok (.bool (numQ v 0 100000)) [some (.val v)] := by
  apply wp_eq
  unfold D_35
  rw [wp_run]
  simp -dsimp [B_35, s9]
def Lall : List PyData := [.str "pass", .str "card", .str "visa", .str "permit", .str "ann", .str "bo1", .str "elba", .str "oz", .none, .int 1, .int 99, .int (-1), .int 0, .int 100, .int 100001, .bool true, .str "Ann", .str "", .str "pas", .int 5, .list [], .tuple [.str "pass"]]
theorem s10 : ∀ v ∈ Lall, ∃ b, D_10 [some (.val v)] = .ok (.bool b) [some (.val v)] ∧ D_48 [some (.val v)] = .ok (.bool b) [some (.val v)] := by
  unfold Lall
  simp -dsimp only [List.forall_mem_cons]
  exact ⟨⟨true, by kernel_rfl, by kernel_rfl⟩, ⟨true, by kernel_rfl, by kernel_rfl⟩, ⟨true, by kernel_rfl, by kernel_rfl⟩, ⟨true, by kernel_rfl, by kernel_rfl⟩, ⟨true, by kernel_rfl, by kernel_rfl⟩, ⟨true, by kernel_rfl, by kernel_rfl⟩, ⟨true, by kernel_rfl, by kernel_rfl⟩, ⟨true, by kernel_rfl, by kernel_rfl⟩, ⟨false, by kernel_rfl, by kernel_rfl⟩, ⟨false, by kernel_rfl, by kernel_rfl⟩, ⟨false, by kernel_rfl, by kernel_rfl⟩, ⟨false, by kernel_rfl, by kernel_rfl⟩, ⟨false, by kernel_rfl, by kernel_rfl⟩, ⟨false, by kernel_rfl, by kernel_rfl⟩, ⟨false, by kernel_rfl, by kernel_rfl⟩, ⟨false, by kernel_rfl, by kernel_rfl⟩, ⟨false, by kernel_rfl, by kernel_rfl⟩, ⟨false, by kernel_rfl, by kernel_rfl⟩, ⟨true, by kernel_rfl, by kernel_rfl⟩, ⟨false, by kernel_rfl, by kernel_rfl⟩, ⟨false, by kernel_rfl, by kernel_rfl⟩, ⟨false, by kernel_rfl, by kernel_rfl⟩, fun _ h => by cases h⟩
def kt : PyData := .tuple [(.str "pass"), (.str "card"), (.str "visa"), (.str "permit")]
def kl : PyData := .list [.str "pass", .str "card", .str "visa", .str "permit"]
theorem sk : ∀ v ∈ Lall, ∃ b, oIn v kt = some (.bool b) ∧ oNotIn v kl = some (.bool (!b)) ∧ (b = true → isTy "str" v = true) := by
  unfold Lall
  simp -dsimp only [List.forall_mem_cons]
  exact ⟨⟨true, by kernel_rfl, by kernel_rfl, fun _ => by kernel_rfl⟩, ⟨true, by kernel_rfl, by kernel_rfl, fun _ => by kernel_rfl⟩, ⟨true, by kernel_rfl, by kernel_rfl, fun _ => by kernel_rfl⟩, ⟨true, by kernel_rfl, by kernel_rfl, fun _ => by kernel_rfl⟩, ⟨false, by kernel_rfl, by kernel_rfl, fun h => by cases h⟩, ⟨false, by kernel_rfl, by kernel_rfl, fun h => by cases h⟩, ⟨false, by kernel_rfl, by kernel_rfl, fun h => by cases h⟩, ⟨false, by kernel_rfl, by kernel_rfl, fun h => by cases h⟩, ⟨false, by kernel_rfl, by kernel_rfl, fun h => by cases h⟩, ⟨false, by kernel_rfl, by kernel_rfl, fun h => by cases h⟩, ⟨false, by kernel_rfl, by kernel_rfl, fun h => by cases h⟩, ⟨false, by kernel_rfl, by kernel_rfl, fun h => by cases h⟩, ⟨false, by kernel_rfl, by kernel_rfl, fun h => by cases h⟩, ⟨false, by kernel_rfl, by kernel_rfl, fun h => by cases h⟩, ⟨false, by kernel_rfl, by kernel_rfl, fun h => by cases h⟩, ⟨false, by kernel_rfl, by kernel_rfl, fun h => by cases h⟩, ⟨false, by kernel_rfl, by kernel_rfl, fun h => by cases h⟩, ⟨false, by kernel_rfl, by kernel_rfl, fun h => by cases h⟩, ⟨false, by kernel_rfl, by kernel_rfl, fun h => by cases h⟩, ⟨false, by kernel_rfl, by kernel_rfl, fun h => by cases h⟩, ⟨false, by kernel_rfl, by kernel_rfl, fun h => by cases h⟩, ⟨false, by kernel_rfl, by kernel_rfl, fun h => by cases h⟩, fun _ h => by cases h⟩

def entQ (v : PyData) : Bool := isNoneD v || numQ v 1 99
def ordQ (b e : PyData) : Bool := match b, e with
  | .int i, .int j => decide (i ≤ j)
  | _, _ => false
/-- the first word that is wrong -/
def wordQ (kq hq sq dq oq nq : Bool) : Option Str := if kq = false then some "kind" else if hq = false then some "holder" else if sq = false then some "state" else if dq = false then some "days" else if oq = false then some "order" else if nq = false then some "entries" else none
def fault (at_ : PyData) : Option Str → PyData
  | none => .none
  | some w => .tuple [.str w, at_]
def isFine : Option Str → Bool
  | none => true
  | _ => false
/-- what a paper is: its faults' word -/
inductive PaperQ : List PyData → Option Str → Prop
  | short {xs : List PyData} (h : xs.length ≠ 6) : PaperQ xs (some "form")
  | six {k h s b e n : PyData} {kq hq sq : Bool} (k1 : oIn k kt = some (.bool kq)) (k2 : oNotIn k kl = some (.bool (!kq))) (k3 : kq = true → isTy "str" k = true)
    (h1 : D_10 [some (.val h)] = .ok (.bool hq) [some (.val h)]) (h2 : D_48 [some (.val h)] = .ok (.bool hq) [some (.val h)]) (s1 : D_10 [some (.val s)] = .ok (.bool sq) [some (.val s)]) (s2 : D_48 [some (.val s)] = .ok (.bool sq) [some (.val s)]) :
    PaperQ [k, h, s, b, e, n] (wordQ kq hq sq (numQ b 0 100000 && numQ e 0 100000) (numQ b 0 100000 && numQ e 0 100000 && ordQ b e) (entQ n))
theorem numQ_int {v : PyData} {lo hi : Int} (h : numQ v lo hi = true) : ∃ i : Int, v = .int i := by
  cases v <;> first | exact ⟨_, rfl⟩ | cases h
theorem small6 : (6 : Nat) ≤ sizeLine := by decide
end Wlaw_k16
end NL
end L2
namespace L2
namespace NL
open PySem PySem.Spec PyProof.Rows
namespace Wlaw_k16
theorem szn : ∀ j : Nat, j ≤ 1000 → j ≤ sizeLine := fun j h => by have := sizeBig; omega
theorem atI_0 {x : PyData} {xs : List PyData} : atI (x :: xs) 0 = some x := by
  unfold atI ixN
  rw [if_pos (by omega), if_pos (by simp -dsimp)]
  rfl
theorem atI_1 {x y : PyData} {xs : List PyData} : atI (x :: y :: xs) 1 = some y := by
  unfold atI ixN
  rw [if_pos (by omega), if_pos (by simp -dsimp; omega)]
  rfl
theorem s51 {xs : List PyData} {w : Option Str} (q : PaperQ xs w) (k : PyData) : D_51 [some (.val k), some (.val (.tuple xs))] = .ok (fault k w) [some (.val k), some (.val (.tuple xs))] := by
  apply wp_eq
  unfold D_51
  rw [wp_run]
  cases q with
  | short h =>
    have h' : ¬ ((xs.length : Int) = 6) := by omega
    simp -dsimp [B_51, h', fault, szn]
  | six k1 k2 k3 h1 h2 s1 s2 =>
    rename_i kk hh ss b e n kq hq sq
    unfold kl at k2
    cases hT : isTy "str" kk with
    | false =>
      have : kq = false := by
        cases kq with
        | false => rfl
        | true => rw [k3 rfl] at hT; cases hT
      subst this
      simp -dsimp [B_51, hT, fault, wordQ, szn]
    | true =>
      cases kq with
      | false => simp -dsimp [B_51, hT, k2, fault, wordQ, szn]
      | true =>
        cases hq with
        | false => simp -dsimp [B_51, hT, k2, h2, fault, wordQ, szn]
        | true =>
          cases sq with
          | false => simp -dsimp [B_51, hT, k2, h2, s2, fault, wordQ, szn]
          | true =>
            cases hb : numQ b 0 100000 with
            | false => simp -dsimp [B_51, hT, k2, h2, s2, s50, hb, fault, wordQ, szn]
            | true =>
              cases he : numQ e 0 100000 with
              | false => simp -dsimp [B_51, hT, k2, h2, s2, s50, hb, he, fault, wordQ, szn]
              | true =>
                obtain ⟨i, rfl⟩ := numQ_int hb
                obtain ⟨j, rfl⟩ := numQ_int he
                by_cases ho : j < i
                · have ho' : ¬ i ≤ j := by omega
                  simp -dsimp [B_51, hT, k2, h2, s2, s50, hb, he, ho, ho', fault, wordQ, ordQ, szn]
                · have ho' : i ≤ j := by omega
                  cases hn : isNoneD n with
                  | true => simp -dsimp [B_51, hT, k2, h2, s2, s50, hb, he, ho, ho', hn, fault, wordQ, ordQ, entQ, szn, atI_1]
                  | false =>
                    cases hm : numQ n 1 99 <;> simp -dsimp [B_51, hT, k2, h2, s2, s50, hb, he, ho, ho', hn, hm, fault, wordQ, ordQ, entQ, szn, atI_0, atI_1]
end Wlaw_k16
end NL
end L2
namespace L2
namespace NL
open PySem PySem.Spec PyProof.Rows
namespace Wlaw_k16
def badQ : PyData → Bool
  | .tuple [_, .bool b] => !b
  | _ => false
def wordOf : PyData → PyData
  | .tuple [w, _] => w
  | _ => .none
theorem wrongC {ds : List PyData} {a0 a1 a2 a3 a4 a5 a6 a7 a9 : Option Sl} (h : ∀ d ∈ ds, ∃ w b, d = .tuple [w, .bool b]) (hl : ds.length ≤ 1000) :
    nLc (iV (nV 8)) (gT (gCons' (gN 10) (gCons' (gN 11) (gNil')))) (tNot' (asT (.o 11))) (nV 10) [10, 11] [a0, a1, a2, a3, a4, a5, a6, a7, some (.val (.list ds)), a9, none, none] = .ok ((ds.filter badQ).map wordOf) [a0, a1, a2, a3, a4, a5, a6, a7, some (.val (.list ds)), a9, none, none] := by
  refine lc_pure badQ wordOf rfl rfl (fun d hd => ?_) (szn _ hl) rfl
  obtain ⟨w, b, rfl⟩ := h d hd
  exact ⟨_, rfl, rfl, fun _ => rfl, rfl⟩
def tail37 : NStm := sSeq (sSetL 9 (nLc (iV (nV 8)) (gT (gCons' (gN 10) (gCons' (gN 11) (gNil')))) (tNot' (asT (.o 11))) (nV 10) [10, 11]))
  (sRet (nIf (asB (nOp2 oGt (.e (nCB bLen (aCons (.o 9) (aNil)))) (.e (nC (.int 0))))) (nTup (aCons (.e (nOp2 oIx (.o 9) (.e (nC (.int 0))))) (aCons (.e (nF 0)) (aNil)))) (nC .none)))
theorem B37_eq : B_37 = sSeq (sIf (asB (nOp2 oNe (.e (nCB bLen (aCons (.o 1) (aNil)))) (.e (nC (.int 6))))) (sRet (nTup (aCons (.e (nC (.str "form"))) (aCons (.e (nF 0)) (aNil))))) (sNil))
  (sSeq (sAsg (nF 1) (gT (gCons' (gN 2) (gCons' (gN 3) (gCons' (gN 4) (gCons' (gN 5) (gCons' (gN 6) (gCons' (gN 7) (gNil')))))))))
  (sSeq (sAsg (nL (nLstO (aCons (.e (nTup (aCons (.e (nC (.str "kind"))) (aCons (.e (nOp2 oIn (.o 2) (.e (nC (.tuple [(.str "pass"), (.str "card"), (.str "visa"), (.str "permit")]))))) (aNil))))) (aCons (.e (nTup (aCons (.e (nC (.str "holder"))) (aCons (.e (nCall D_10 (aCons (.o 3) (aNil)))) (aNil))))) (aCons (.e (nTup (aCons (.e (nC (.str "state"))) (aCons (.e (nCall D_10 (aCons (.o 4) (aNil)))) (aNil))))) (aCons (.e (nTup (aCons (.e (nC (.str "days"))) (aCons (.e (nAnd (nCall D_35 (aCons (.o 5) (aNil))) (nCall D_35 (aCons (.o 6) (aNil))))) (aNil))))) (aCons (.e (nTup (aCons (.e (nC (.str "order"))) (aCons (.e (nAnd (nCall D_35 (aCons (.o 5) (aNil))) (nAnd (nCall D_35 (aCons (.o 6) (aNil))) (nOp2 oLe (.o 5) (.o 6))))) (aNil))))) (aCons (.e (nTup (aCons (.e (nC (.str "entries"))) (aCons (.e (nOr (nOp2 oIs (.o 7) (.e (nC .none))) (nCall D_9 (aCons (.o 7) (aCons (.e (nC (.int 1))) (aCons (.e (nC (.int 99))) (aNil))))))) (aNil))))) (aNil))))))))) (gN 8))
  tail37)) := rfl
theorem s37 {xs : List PyData} {w : Option Str} (q : PaperQ xs w) (k : PyData) : D_37 [some (.val k), some (.val (.tuple xs))] = .ok (fault k w) [some (.val k), some (.val (.tuple xs))] := by
  apply wp_eq
  unfold D_37
  rw [wp_run, B37_eq]
  cases q with
  | short h =>
    have h' : ¬ ((xs.length : Int) = 6) := by omega
    have ht : asB (nOp2 oNe (.e (nCB bLen (aCons (.o 1) (aNil)))) (.e (nC (.int 6)))) ([some (.val k), some (.val (.tuple xs))] ++ List.replicate (12 - [some (Sl.val k), some (.val (.tuple xs))].length) none) = .ok true ([some (.val k), some (.val (.tuple xs))] ++ List.replicate (12 - [some (Sl.val k), some (.val (.tuple xs))].length) none) := by
      apply wp_eq
      simp -dsimp [h, h']
    rw [wps_seq, wps_sIf, ht, wp_ok]
    simp -dsimp only [Br_true, wps_sRet]
    simp -dsimp [fault, szn]
  | six k1 k2 k3 h1 h2 s1 s2 =>
    rename_i kk hh ss b e n kq hq sq
    unfold kt at k1
    have go : ∀ (bq oq nq : Bool) (Nx : NSt → Prop) (Bk Ct : NSt → Prop), WpS (tail37 [some (.val k), some (.val (.tuple [kk, hh, ss, b, e, n])), some (.val kk), some (.val hh), some (.val ss), some (.val b), some (.val e), some (.val n), some (.val (.list [.tuple [.str "kind", .bool kq], .tuple [.str "holder", .bool hq], .tuple [.str "state", .bool sq], .tuple [.str "days", .bool bq], .tuple [.str "order", .bool oq], .tuple [.str "entries", .bool nq]])), none, none, none])
        Nx (fun d n' => d = fault k (wordQ kq hq sq bq oq nq) ∧ outs [some (.val k), some (.val (.tuple [kk, hh, ss, b, e, n]))] n' = [some (.val k), some (.val (.tuple [kk, hh, ss, b, e, n]))]) Bk Ct := by
      intro bq oq nq Nx Bk Ct
      have hw := wrongC (ds := [.tuple [.str "kind", .bool kq], .tuple [.str "holder", .bool hq], .tuple [.str "state", .bool sq], .tuple [.str "days", .bool bq], .tuple [.str "order", .bool oq], .tuple [.str "entries", .bool nq]]) (a0 := some (.val k)) (a1 := some (.val (.tuple [kk, hh, ss, b, e, n]))) (a2 := some (.val kk)) (a3 := some (.val hh)) (a4 := some (.val ss)) (a5 := some (.val b)) (a6 := some (.val e)) (a7 := some (.val n)) (a9 := none)
        (by
          intro d hd
          simp -dsimp only [List.mem_cons, List.not_mem_nil, or_false] at hd
          rcases hd with rfl | rfl | rfl | rfl | rfl | rfl <;> exact ⟨_, _, rfl⟩) (by simp -dsimp)
      unfold tail37
      rw [wps_seq, wps_sSetL, hw]
      cases kq with
      | false => simp -dsimp [badQ, wordOf, atI_0, fault, wordQ, szn]
      | true =>
        cases hq with
        | false => simp -dsimp [badQ, wordOf, atI_0, fault, wordQ, szn]
        | true =>
          cases sq with
          | false => simp -dsimp [badQ, wordOf, atI_0, fault, wordQ, szn]
          | true =>
            cases bq with
            | false => simp -dsimp [badQ, wordOf, atI_0, fault, wordQ, szn]
            | true =>
              cases oq with
              | false => simp -dsimp [badQ, wordOf, atI_0, fault, wordQ, szn]
              | true => cases nq <;> simp -dsimp [badQ, wordOf, atI_0, fault, wordQ, szn]
    cases hb : numQ b 0 100000 with
    | false =>
      cases hn : isNoneD n with
      | true =>
        simp -dsimp [k1, h1, s1, s35, s9, hb, hn, szn, entQ]
        exact go _ _ _ _ _ _
      | false =>
        simp -dsimp [k1, h1, s1, s35, s9, hb, hn, szn, entQ]
        exact go _ _ _ _ _ _
    | true =>
      cases he : numQ e 0 100000 with
      | false =>
        cases hn : isNoneD n with
        | true =>
          simp -dsimp [k1, h1, s1, s35, s9, hb, he, hn, szn, entQ]
          exact go _ _ _ _ _ _
        | false =>
          simp -dsimp [k1, h1, s1, s35, s9, hb, he, hn, szn, entQ]
          exact go _ _ _ _ _ _
      | true =>
        obtain ⟨i, rfl⟩ := numQ_int hb
        obtain ⟨j, rfl⟩ := numQ_int he
        cases hn : isNoneD n with
        | true =>
          simp -dsimp [k1, h1, s1, s35, s9, hb, he, hn, szn, entQ, ordQ]
          exact wps_mono (go _ _ _ _ _ _) (fun _ h => h) (fun d n h => by simpa [entQ, ordQ, hn] using h) (fun _ h => h) (fun _ h => h)
        | false =>
          simp -dsimp [k1, h1, s1, s35, s9, hb, he, hn, szn, entQ, ordQ]
          exact wps_mono (go _ _ _ _ _ _) (fun _ h => h) (fun d n h => by simpa [entQ, ordQ, hn] using h) (fun _ h => h) (fun _ h => h)
end Wlaw_k16
end NL
end L2
namespace L2
namespace NL
open PySem PySem.Spec PyProof.Rows
namespace Wlaw_k16
theorem atI_at {xs : List PyData} {k : Nat} (i : Int) (hi : i = (k : Int)) : atI xs i = xs[k]? := by
  subst hi
  unfold atI ixN
  rw [if_pos (by omega)]
  by_cases h : (k : Int) < xs.length
  · rw [if_pos h]
    rfl
  · rw [if_neg h]
    have : xs.length ≤ k := by omega
    simp -dsimp [this]
theorem atI_2 {xs : List PyData} : atI xs 2 = xs[2]? := atI_at (k := 2) 2 rfl
theorem atI_3 {xs : List PyData} : atI xs 3 = xs[3]? := atI_at (k := 3) 3 rfl
theorem atI_4 {xs : List PyData} : atI xs 4 = xs[4]? := atI_at (k := 4) 4 rfl
theorem atI_5 {xs : List PyData} : atI xs 5 = xs[5]? := atI_at (k := 5) 5 rfl
theorem s24 {k : PyData} {kq : Bool} (k1 : oIn k kt = some (.bool kq)) (k3 : kq = true → isTy "str" k = true) : D_24 [some (.val k)] = .ok (.bool kq) [some (.val k)] := by
  apply wp_eq
  unfold D_24
  rw [wp_run]
  unfold kt at k1
  cases hT : isTy "str" k with
  | false =>
    have : kq = false := by
      cases kq with
      | false => rfl
      | true => rw [k3 rfl] at hT; cases hT
    subst this
    simp -dsimp [B_24, hT]
  | true => simp -dsimp [B_24, hT, k1]
theorem s25 {xs : List PyData} {w : Option Str} (q : PaperQ xs w) : D_25 [some (.val (.tuple xs))] = .ok (.bool (isFine w)) [some (.val (.tuple xs))] := by
  apply wp_eq
  unfold D_25
  rw [wp_run]
  cases q with
  | short h =>
    have h' : ¬ ((xs.length : Int) = 6) := by omega
    simp -dsimp [B_25, h', h, isTy, isFine]
  | six k1 k2 k3 h1 h2 s1 s2 =>
    rename_i kk hh ss b e n kq hq sq
    have e24 := s24 k1 k3
    cases kq with
    | false => simp -dsimp [B_25, isTy, atI_0, e24, isFine, wordQ]
    | true =>
      cases hq with
      | false => simp -dsimp [B_25, isTy, atI_0, atI_1, e24, h1, isFine, wordQ]
      | true =>
        cases sq with
        | false => simp -dsimp [B_25, isTy, atI_0, atI_1, atI_2, e24, h1, s1, isFine, wordQ]
        | true =>
          cases hb : numQ b 0 100000 with
          | false => simp -dsimp [B_25, isTy, atI_0, atI_1, atI_2, atI_3, e24, h1, s1, s22, hb, isFine, wordQ]
          | true =>
            cases he : numQ e 0 100000 with
            | false => simp -dsimp [B_25, isTy, atI_0, atI_1, atI_2, atI_3, atI_4, e24, h1, s1, s22, hb, he, isFine, wordQ]
            | true =>
              obtain ⟨i, rfl⟩ := numQ_int hb
              obtain ⟨j, rfl⟩ := numQ_int he
              by_cases ho : i ≤ j
              · cases hn : isNoneD n with
                | true => simp -dsimp [B_25, isTy, atI_0, atI_1, atI_2, atI_3, atI_4, atI_5, e24, h1, s1, s22, s9, hb, he, ho, hn, isFine, wordQ, ordQ, entQ]
                | false => cases hm : numQ n 1 99 <;> simp -dsimp [B_25, isTy, atI_0, atI_1, atI_2, atI_3, atI_4, atI_5, e24, h1, s1, s22, s9, hb, he, ho, hn, hm, isFine, wordQ, ordQ, entQ]
              · simp -dsimp [B_25, isTy, atI_0, atI_1, atI_2, atI_3, atI_4, e24, h1, s1, s22, hb, he, ho, isFine, wordQ, ordQ]
end Wlaw_k16
end NL
end L2
namespace L2
namespace NL
open PySem PySem.Spec PyProof.Rows
namespace Wlaw_k16
/-- six, as papers are drawn -/
def G6 (xs : List PyData) : Prop := ∃ k h s b e n, xs = [k, h, s, b, e, n] ∧ k ∈ Lall ∧ h ∈ Lall ∧ s ∈ Lall ∧ n ∈ Lall
theorem G6.q {xs : List PyData} (g : G6 xs) : ∃ w, PaperQ xs w := by
  obtain ⟨k, h, s, b, e, n, rfl, mk, mh, ms, mn⟩ := g
  obtain ⟨kq, k1, k2, k3⟩ := sk k mk
  obtain ⟨hq, h1, h2⟩ := s10 h mh
  obtain ⟨sq, s1, s2⟩ := s10 s ms
  exact ⟨_, .six k1 k2 k3 h1 h2 s1 s2⟩
theorem G6.len {xs : List PyData} (g : G6 xs) : xs.length = 6 := by
  obtain ⟨k, h, s, b, e, n, rfl, _⟩ := g
  rfl
theorem G6.set {xs : List PyData} (g : G6 xs) {m : Nat} (hm : m < 6) {v : PyData} (hv : v ∈ Lall) : G6 (xs.set m v) := by
  obtain ⟨k, h, s, b, e, n, rfl, mk, mh, ms, mn⟩ := g
  match m, hm with
  | 0, _ => exact ⟨v, h, s, b, e, n, rfl, hv, mh, ms, mn⟩
  | 1, _ => exact ⟨k, v, s, b, e, n, rfl, mk, hv, ms, mn⟩
  | 2, _ => exact ⟨k, h, v, b, e, n, rfl, mk, mh, hv, mn⟩
  | 3, _ => exact ⟨k, h, s, v, e, n, rfl, mk, mh, ms, mn⟩
  | 4, _ => exact ⟨k, h, s, b, v, n, rfl, mk, mh, ms, mn⟩
  | 5, _ => exact ⟨k, h, s, b, e, v, rfl, mk, mh, ms, hv⟩
def setPart : NStm := sIf (asB (nOp2 oEq (.e (nCall D_44 (aCons (.o 0) (aCons (.e (nC (.int 3))) (aNil))))) (.e (nC (.int 0))))) (sSeq (sAsg (nCall D_44 (aCons (.o 0) (aCons (.e (nC (.int 6))) (aNil)))) (gN 3))
  (sSetI 2 (nV 3) (nCall D_45 (aCons (.o 0) (aCons (.e (nL (nLstO (aCons (.e (nC .none)) (aCons (.e (nNeg (nC (.int 1)))) (aCons (.e (nC (.int 0))) (aCons (.e (nC (.int 100))) (aCons (.e (nC (.int 100001))) (aCons (.e (nC (.bool true))) (aCons (.e (nC (.str "Ann"))) (aCons (.e (nC (.str ""))) (aCons (.e (nC (.str "pas"))) (aCons (.e (nC (.str "ann"))) (aCons (.e (nC (.int 5))) (aCons (.e (nL (nLstO (aNil)))) (aCons (.e (nTup (aCons (.e (nC (.str "pass"))) (aNil)))) (aNil))))))))))))))))) (aNil)))))) (sNil)
def cutPart : NStm := sIf (asB (nOp2 oEq (.e (nCall D_44 (aCons (.o 0) (aCons (.e (nC (.int 12))) (aNil))))) (.e (nC (.int 0))))) (sAsg (nCall D_45 (aCons (.o 0) (aCons (.e (nL (nLstO (aCons (.e (nSl (.o 2) (pNone) (pSome (nC (.int 5))))) (aCons (.e (nOp2 oAdd (.o 2) (.e (nL (nLstO (aCons (.e (nC (.int 1))) (aNil))))))) (aCons (.e (nL (nLstO (aNil)))) (aNil))))))) (aNil)))) (gN 2)) (sNil)
theorem setPart_spec {l xs : List PyData} (h : Dr l) (g : G6 xs) {x1 : Option Sl} {Nx : NSt → Prop} {Rt : PyData → NSt → Prop} {Bk Ct : NSt → Prop}
    (hN : ∀ l' xs' x3, Dr l' → G6 xs' → Vl x3 → Nx [some (.lent l'), x1, some (.own xs'), x3]) : WpS (setPart [some (.lent l), x1, some (.own xs), none]) Nx Rt Bk Ct := by
  unfold setPart
  simp -dsimp [e44, e45]
  refine take_spec h (by omega) fun r l1 d1 r0 r1 => ?_
  simp -dsimp
  refine Br_mk (fun _ => ?_) fun _ => hN _ _ _ d1 g Vl.none
  simp -dsimp [e44, e45]
  refine take_spec d1 (by omega) fun r l2 d2 r0 r1 => ?_
  simp -dsimp [e44, e45, szn]
  refine pick_spec d2 (by simp -dsimp) fun v l3 d3 hv => ?_
  have hv : v ∈ Lall := by
    revert hv
    revert v
    simp -dsimp [Lall]
  have e : ixN xs.length r = some r.toNat := by
    unfold ixN
    rw [if_pos r0, if_pos (by rw [g.len]; omega)]
  simp -dsimp [e]
  exact hN _ _ _ d3 (g.set (by omega) hv) Vl.val
theorem cutPart_spec {l xs : List PyData} (h : Dr l) (g : G6 xs) {x1 x3 : Option Sl} {Nx : NSt → Prop} {Rt : PyData → NSt → Prop} {Bk Ct : NSt → Prop}
    (hN : ∀ l' xs' x2, Dr l' → (∃ w, PaperQ xs' w) → (x2 = .own xs' ∨ x2 = .val (.list xs')) → Nx [some (.lent l'), x1, some x2, x3]) : WpS (cutPart [some (.lent l), x1, some (.own xs), x3]) Nx Rt Bk Ct := by
  unfold cutPart
  simp -dsimp [e44, e45]
  refine take_spec h (by omega) fun r l1 d1 r0 r1 => ?_
  simp -dsimp
  refine Br_mk (fun _ => ?_) fun _ => hN _ _ _ d1 g.q (.inl rfl)
  have e1 : (cutP xs none (some 5)).length = 5 := by
    unfold cutP HT.sIx
    simp -dsimp [g.len]
  simp -dsimp [e44, e45, szn, g.len]
  refine pick_spec d1 (by simp -dsimp) fun v l2 d2 hv => ?_
  simp -dsimp only [List.mem_cons, List.not_mem_nil, or_false] at hv
  rcases hv with rfl | rfl | rfl
  · simp -dsimp
    exact hN _ _ _ d2 ⟨_, .short (by omega)⟩ (.inr rfl)
  · simp -dsimp
    exact hN _ _ _ d2 ⟨_, .short (by simp -dsimp [g.len])⟩ (.inr rfl)
  · simp -dsimp
    exact hN _ _ _ d2 ⟨_, .short (by simp -dsimp)⟩ (.inr rfl)
end Wlaw_k16
end NL
end L2
namespace L2
namespace NL
open PySem PySem.Spec PyProof.Rows
namespace Wlaw_k16
theorem B49_eq : B_49 = sSeq (sAsg (nCall D_44 (aCons (.o 0) (aCons (.e (nC (.int 900))) (aNil)))) (gN 1))
  (sSeq (sOwn 2 (nLstO (aCons (.e (nCall D_45 (aCons (.o 0) (aCons (.e (nL (nLstO (aCons (.e (nC (.str "pass"))) (aCons (.e (nC (.str "card"))) (aCons (.e (nC (.str "visa"))) (aCons (.e (nC (.str "permit"))) (aNil)))))))) (aNil))))) (aCons (.e (nCall D_45 (aCons (.o 0) (aCons (.e (nL (nLstO (aCons (.e (nC (.str "ann"))) (aCons (.e (nC (.str "bo1"))) (aNil)))))) (aNil))))) (aCons (.e (nCall D_45 (aCons (.o 0) (aCons (.e (nL (nLstO (aCons (.e (nC (.str "elba"))) (aCons (.e (nC (.str "oz"))) (aNil)))))) (aNil))))) (aNil))))))
  (sSeq (sOwn 2 (nOp2O oCatO (.o 2) (.e (nL (nLstO (aCons (.e (nV 1)) (aCons (.e (nOp2 oAdd (.o 1) (.e (nCall D_44 (aCons (.o 0) (aCons (.e (nC (.int 400))) (aNil))))))) (aCons (.e (nCall D_45 (aCons (.o 0) (aCons (.e (nL (nLstO (aCons (.e (nC .none)) (aCons (.e (nC (.int 1))) (aCons (.e (nC (.int 99))) (aNil))))))) (aNil))))) (aNil)))))))))
  (sSeq setPart (sSeq cutPart (sRet (nCB bTuple (aCons (.o 2) (aNil)))))))) := rfl
theorem paper_spec {l : List PyData} (h : Dr l) {P : PyData → NSt → Prop} (hP : ∀ xs l' w, Dr l' → PaperQ xs w → P (.tuple xs) [some (.lent l')]) : Wp (D_49 [some (.lent l)]) P := by
  unfold D_49
  rw [wp_run, B49_eq]
  simp -dsimp [e44, e45]
  refine take_spec h (by omega) fun b l1 d1 b0 b1 => ?_
  simp -dsimp [e44, e45, szn]
  refine pick_spec d1 (by simp -dsimp) fun v1 l2 d2 hv1 => ?_
  simp -dsimp [e44, e45, szn]
  refine pick_spec d2 (by simp -dsimp) fun v2 l3 d3 hv2 => ?_
  simp -dsimp [e44, e45, szn]
  refine pick_spec d3 (by simp -dsimp) fun v3 l4 d4 hv3 => ?_
  simp -dsimp [e44, e45, szn]
  refine take_spec d4 (by omega) fun c l5 d5 c0 c1 => ?_
  simp -dsimp [e44, e45, szn]
  refine pick_spec d5 (by simp -dsimp) fun v6 l6 d6 hv6 => ?_
  simp -dsimp [szn]
  have m1 : v1 ∈ Lall := by
    revert hv1
    revert v1
    simp -dsimp [Lall]
  have m2 : v2 ∈ Lall := by
    revert hv2
    revert v2
    simp -dsimp [Lall]
  have m3 : v3 ∈ Lall := by
    revert hv3
    revert v3
    simp -dsimp [Lall]
  have m6 : v6 ∈ Lall := by
    revert hv6
    revert v6
    simp -dsimp [Lall]
  refine setPart_spec d6 ⟨v1, v2, v3, _, _, v6, rfl, m1, m2, m3, m6⟩ fun l7 xs x3 d7 g v3' => ?_
  rw [wps_seq]
  refine cutPart_spec d7 g fun l8 xs' x2 d8 q hx => ?_
  obtain ⟨w, q⟩ := q
  rcases hx with rfl | rfl <;> (simp -dsimp; exact hP xs' l8 w d8 q)
end Wlaw_k16
end NL
end L2
namespace L2
namespace NL
open PySem PySem.Spec PyProof.Rows
namespace Wlaw_k16
/-- a row that stands for a paper -/
def GoodP (d : PyData) : Prop := ∃ xs w, d = .tuple xs ∧ PaperQ xs w
open Classical in
noncomputable def Wd (d : PyData) : Option Str := if h : ∃ w xs, d = .tuple xs ∧ PaperQ xs w then Classical.choose h else none
theorem Wd_ok {d : PyData} (h : GoodP d) : ∃ xs, d = .tuple xs ∧ PaperQ xs (Wd d) := by
  obtain ⟨xs, w, e, q⟩ := h
  have h' : ∃ w xs, d = .tuple xs ∧ PaperQ xs w := ⟨w, xs, e, q⟩
  unfold Wd
  rw [dif_pos h']
  exact Classical.choose_spec h'
noncomputable def fRow (k : Nat) (d : PyData) : PyData := fault (.int (k : Int)) (Wd d)
noncomputable def rowsP (ds : List PyData) : List PyData := ixMap fRow 0 ds
def notNone (d : PyData) : Bool := !isNoneD d
noncomputable def dueP (ds : List PyData) : List PyData := (rowsP ds).filter notNone
theorem s11t : D_11 [some (.val (.bool true))] = .ok .none [some (.val (.bool true))] := by
  apply wp_eq
  unfold D_11
  rw [wp_run]
  simp -dsimp [B_11]
theorem s11f : D_11 [some (.val (.bool false))] = .err ⟨"NotRight", none⟩ [some (.val (.bool false))] := by
  kernel_rfl
def isTup (d : PyData) : Bool := isTy "tuple" d
theorem allTup {ds : List PyData} (hl : ds.length ≤ 1000) (d : Option Sl) (hd : d = some (.val (.list ds))) : nLc (iV (nF 0)) (gN 1) (tYesN) (nIsi "tuple" (.o 1)) [1] [d, none] = .ok (ds.map fun x => .bool (isTup x)) [d, none] := by
  subst hd
  have := lc_pure (fi := iV (nF 0)) (g := gN 1) (t := tYesN) (f := nIsi "tuple" (.o 1)) (vs := [1]) (n := [some (.val (.list ds)), none]) (ds := ds) (fun _ => true) (fun x => .bool (isTup x)) rfl rfl (fun x hx => ⟨_, rfl, rfl, fun _ => rfl, rfl⟩) (szn _ hl) rfl
  rw [this, filter_all]
theorem s38 {ds : List PyData} (hl : ds.length ≤ 1000) (h : ∀ d ∈ ds, isTup d = true) : D_38 [some (.val (.list ds))] = .ok .none [some (.val (.list ds))] := by
  apply wp_eq
  unfold D_38
  rw [wp_run]
  have hb : boolsOf (ds.map fun x => .bool (isTup x)) = some (ds.map isTup) := boolsOf_mapB isTup ds
  have ha : bAll [.list (ds.map fun x => .bool (isTup x))] = some (.bool true) := by
    show (boolsOf _).map _ = _
    rw [hb]
    simp -dsimp
    exact h
  simp -dsimp [B_38, isTy, allTup hl _ rfl, ha, s11t]
theorem s39 {ds : List PyData} (hl : ds.length ≤ 900) (h : ∀ d ∈ ds, GoodP d) : D_39 [some (.val (.list ds))] = .ok (.list ((if ds.length > 40 then [.tuple [.str "many", .int ds.length]] else []) ++ dueP ds)) [some (.val (.list ds))] := by
  have sz := sizeBig
  apply wp_eq
  unfold D_39
  rw [wp_run]
  have e38 := s38 (ds := ds) (by omega) fun d hd => by
    obtain ⟨xs, w, rfl, _⟩ := h d hd
    rfl
  have c1 : ∀ a1 : Option Sl, nLc (iEn (aCons (.e (nF 0)) (aNil))) (gT (gCons' (gN 3) (gCons' (gN 4) (gNil')))) (tYesN) (nCall D_37 (aCons (.o 3) (aCons (.o 4) (aNil)))) [3, 4] [some (.val (.list ds)), a1, none, none, none, none] = .ok (rowsP ds) [some (.val (.list ds)), a1, none, none, none, none] := fun a1 => by
    have := lc_pure (fi := iEn (aCons (.e (nF 0)) (aNil))) (g := gT (gCons' (gN 3) (gCons' (gN 4) (gNil')))) (t := tYesN) (f := nCall D_37 (aCons (.o 3) (aCons (.o 4) (aNil)))) (vs := [3, 4]) (n := [some (.val (.list ds)), a1, none, none, none, none]) (ds := enumD 0 ds) (fun _ => true)
      (fun x => match x with
        | .tuple [.int k, d] => fault (.int k) (Wd d)
        | _ => .none) rfl rfl (fun x hx => ?_) (szn _ (by rw [enumD_len]; omega)) rfl
    · rw [this, filter_all]
      congr 1
      exact ixMap_enum fRow _ (fun k x => rfl) 0 ds
    · obtain ⟨i, y, rfl, hy⟩ := enumD_mem hx
      obtain ⟨xs, rfl, q⟩ := Wd_ok (h y hy)
      refine ⟨_, rfl, rfl, fun _ => ?_, rfl⟩
      apply wp_eq
      simp -dsimp [s37 q]
  have c2 : ∀ a1 : Option Sl, nLc (iV (nV 2)) (gN 5) (asB (nOp2 oIsNot (.o 5) (.e (nC .none)))) (nV 5) [5] [some (.val (.list ds)), a1, some (.val (.list (rowsP ds))), none, none, none] = .ok (dueP ds) [some (.val (.list ds)), a1, some (.val (.list (rowsP ds))), none, none, none] := fun a1 => by
    have := lc_pure (fi := iV (nV 2)) (g := gN 5) (t := asB (nOp2 oIsNot (.o 5) (.e (nC .none)))) (f := nV 5) (vs := [5]) (n := [some (.val (.list ds)), a1, some (.val (.list (rowsP ds))), none, none, none]) (ds := rowsP ds) notNone (fun x => x) rfl rfl (fun x hx => ⟨_, rfl, by cases x <;> rfl, fun _ => rfl, rfl⟩) (szn _ (by unfold rowsP; rw [ixMap_len]; omega)) rfl
    rw [this]
    congr 1
    simp -dsimp [dueP]
  have hd : (dueP ds).length ≤ 900 := by
    unfold dueP rowsP
    refine Nat.le_trans (List.length_filter_le _ _) ?_
    rw [ixMap_len]
    exact hl
  by_cases hm : 40 < ds.length
  · have hm' : (40 : Int) < ds.length := by omega
    simp -dsimp [B_39, e38, c1, c2, hm, hm', szn]
    omega
  · have hm' : ¬ (40 : Int) < ds.length := by omega
    simp -dsimp [B_39, e38, c1, c2, hm, hm', szn]
    omega
end Wlaw_k16
end NL
end L2
namespace L2
namespace NL
open PySem PySem.Spec PyProof.Rows
namespace Wlaw_k16
def El (x : PyData) : Prop := (∃ i : Int, x = .int i) ∨ x = .none ∨ ∃ b, x = .bool b
theorem El.shp {x : PyData} (h : El x) : Shp 1 x := by
  rcases h with ⟨i, rfl⟩ | rfl | ⟨b, rfl⟩
  · exact Shp.int
  · exact Shp.none
  · exact Shp.bool
def num (x : PyData) : Bool := numQ x 0 100000
def late : List PyData → Bool
  | [.int a, .int b] => decide (b < a)
  | _ => false
def sWord (xs : List PyData) : Option Str := if xs.length ≠ 2 ∨ xs.all num = false then some "form" else if late xs = true then some "order" else none
theorem two {xs : List PyData} (h : xs.length = 2) (hn : xs.all num = true) : ∃ a b : Int, xs = [.int a, .int b] := by
  match xs, h with
  | [x, y], _ =>
    simp -dsimp at hn
    obtain ⟨i, rfl⟩ := numQ_int hn.1
    obtain ⟨j, rfl⟩ := numQ_int hn.2
    exact ⟨i, j, rfl⟩
theorem s40 {xs : List PyData} (hl : xs.length ≤ 900) (k : PyData) : D_40 [some (.val k), some (.val (.tuple xs))] = .ok (fault k (sWord xs)) [some (.val k), some (.val (.tuple xs))] := by
  apply wp_eq
  unfold D_40
  rw [wp_run]
  have c1 : nLc (iV (nF 1)) (gN 2) (tYesN) (nCall D_35 (aCons (.o 2) (aNil))) [2] [some (.val k), some (.val (.tuple xs)), none] = .ok (xs.map fun x => .bool (num x)) [some (.val k), some (.val (.tuple xs)), none] := by
    have := lc_pure (fi := iV (nF 1)) (g := gN 2) (t := tYesN) (f := nCall D_35 (aCons (.o 2) (aNil))) (vs := [2]) (n := [some (.val k), some (.val (.tuple xs)), none]) (ds := xs) (fun _ => true) (fun x => .bool (num x)) rfl rfl (fun x hx => ?_) (szn _ (by omega)) rfl
    · rw [this, filter_all]
    · refine ⟨_, rfl, rfl, fun _ => ?_, rfl⟩
      apply wp_eq
      simp -dsimp [s35, num]
  by_cases h2 : xs.length = 2
  · cases hn : xs.all num with
    | false =>
      have ha := bAll_map num xs
      rw [hn] at ha
      simp -dsimp [B_40, c1, h2, ha, sWord, hn, fault, szn]
    | true =>
      obtain ⟨a, b, rfl⟩ := two h2 hn
      have hq := hn
      simp -dsimp at hq
      have ha : bAll [.list [.bool true, .bool true]] = some (.bool true) := rfl
      by_cases hb : b < a <;> simp -dsimp [B_40, c1, ha, sWord, hq.1, hq.2, fault, szn, atI_0, atI_1, late, hb]
  · have h2' : ¬ (xs.length : Int) = 2 := by omega
    have ht : asB (nOp2 oNe (.e (nCB bLen (aCons (.o 1) (aNil)))) (.e (nC (.int 2)))) ([some (.val k), some (.val (.tuple xs))] ++ List.replicate (3 - [some (Sl.val k), some (.val (.tuple xs))].length) none) = .ok true ([some (.val k), some (.val (.tuple xs))] ++ List.replicate (3 - [some (Sl.val k), some (.val (.tuple xs))].length) none) := by
      apply wp_eq
      simp -dsimp [h2, h2']
    unfold B_40
    rw [wps_seq, wps_sIf, wp_tOr, ht, wp_ok]
    simp -dsimp only [Br_true, wps_sRet]
    simp -dsimp [fault, szn, sWord, h2]
theorem s52 {xs : List PyData} (hl : xs.length ≤ 900) (he : ∀ x ∈ xs, El x) (k : PyData) : D_52 [some (.val k), some (.val (.tuple xs))] = .ok (fault k (sWord xs)) [some (.val k), some (.val (.tuple xs))] := by
  apply wp_eq
  unfold D_52
  rw [wp_run]
  have c1 : nLc (iV (nF 1)) (gN 2) (tNot' (asT (.e (nCall D_50 (aCons (.o 2) (aCons (.e (nC (.int 0))) (aCons (.e (nC (.int 100000))) (aNil)))))))) (nV 2) [2] [some (.val k), some (.val (.tuple xs)), none] = .ok (xs.filter fun x => !num x) [some (.val k), some (.val (.tuple xs)), none] := by
    have := lc_pure (fi := iV (nF 1)) (g := gN 2) (t := tNot' (asT (.e (nCall D_50 (aCons (.o 2) (aCons (.e (nC (.int 0))) (aCons (.e (nC (.int 100000))) (aNil)))))))) (f := nV 2) (vs := [2]) (n := [some (.val k), some (.val (.tuple xs)), none]) (ds := xs) (fun x => !num x) (fun x => x) rfl rfl (fun x hx => ?_) (szn _ (by omega)) rfl
    · rw [this]
      simp -dsimp
    · refine ⟨_, rfl, ?_, fun _ => rfl, rfl⟩
      apply wp_eq
      simp -dsimp [s50, num]
  have ho : oNe (.list (xs.filter fun x => !num x)) (.list []) = some (.bool (!(xs.filter fun x => !num x).isEmpty)) := oNe_nil (k := 1) (fun x hx => (he x (List.mem_filter.mp hx).1).shp) (by omega)
  by_cases h2 : xs.length = 2
  · cases hn : xs.all num with
    | false =>
      have hf : (xs.filter fun x => !num x).isEmpty = false := by
        rw [Bool.eq_false_iff]
        intro z
        have z := List.isEmpty_iff.mp z
        have : xs.all num = true := by
          rw [List.all_eq_true]
          intro x hx
          have := List.filter_eq_nil_iff.mp z x hx
          simpa using this
        rw [hn] at this
        cases this
      rw [hf] at ho
      simp -dsimp [B_52, c1, h2, ho, sWord, hn, fault, szn]
    | true =>
      obtain ⟨a, b, rfl⟩ := two h2 hn
      have hf : (([PyData.int a, .int b] : List PyData).filter fun x => !num x) = [] := by
        simp -dsimp at hn
        simp -dsimp [hn]
      rw [hf] at ho c1
      have ho : oNe (.list []) (.list []) = some (.bool false) := ho
      by_cases hb : b < a <;> simp -dsimp [B_52, c1, ho, sWord, hn, fault, szn, atI_0, atI_1, late, hb] <;> simp -dsimp at hn <;> simp -dsimp [hn]
  · have h2' : ¬ (xs.length : Int) = 2 := by omega
    have ht : asB (nOp2 oNe (.e (nCB bLen (aCons (.o 1) (aNil)))) (.e (nC (.int 2)))) ([some (.val k), some (.val (.tuple xs))] ++ List.replicate (3 - [some (Sl.val k), some (.val (.tuple xs))].length) none) = .ok true ([some (.val k), some (.val (.tuple xs))] ++ List.replicate (3 - [some (Sl.val k), some (.val (.tuple xs))].length) none) := by
      apply wp_eq
      simp -dsimp [h2, h2']
    unfold B_52
    rw [wps_seq, wps_sIf, wp_tOr, ht, wp_ok]
    simp -dsimp only [Br_true, wps_sRet]
    simp -dsimp [fault, szn, sWord, h2]
end Wlaw_k16
end NL
end L2
namespace L2
namespace NL
open PySem PySem.Spec PyProof.Rows
namespace Wlaw_k16
def GoodS (d : PyData) : Prop := ∃ xs, d = .tuple xs ∧ xs.length ≤ 900 ∧ ∀ x ∈ xs, El x
def sW : PyData → Option Str
  | .tuple xs => sWord xs
  | _ => none
def gRow (k : Nat) (d : PyData) : PyData := fault (.int (k : Int)) (sW d)
def rowsS (ds : List PyData) : List PyData := ixMap gRow 0 ds
def manyS (ds : List PyData) : List PyData := if 200 < ds.length then [.tuple [.str "many", .int ds.length]] else []
def found0 (ds : List PyData) : List PyData := manyS ds ++ (rowsS ds).filter notNone
def at0 (d : PyData) (i : Nat) : PyData := match d with
  | .tuple xs => xs.getD i .none
  | _ => .none
def leQ : PyData → PyData → Bool
  | .int a, .int b => decide (a ≤ b)
  | _, _ => false
def apQ (ds : List PyData) : PyData → Bool
  | .int i => leQ (at0 (ds.getD i.toNat .none) 0) (at0 (ds.getD (i.toNat - 1) .none) 1)
  | _ => false
def apF (d : PyData) : PyData := .tuple [.str "apart", d]
def apartR (ds : List PyData) : List PyData := ((rgD 1 ds.length).filter (apQ ds)).map apF
def resS (ds : List PyData) : List PyData := if (found0 ds).isEmpty = true then apartR ds else found0 ds
/-- all are pairs of numbers -/
def Pairs (ds : List PyData) : Prop := ∀ d ∈ ds, ∃ a b : Int, d = .tuple [.int a, .int b]
theorem rows_mem {ds : List PyData} (h : ∀ d ∈ ds, GoodS d) {y : PyData} (hy : y ∈ (rowsS ds).filter notNone) : ∃ (w : Str) (i : Nat), y = .tuple [.str w, .int (i : Int)] ∧ (w = "form" ∨ w = "order") := by
  obtain ⟨h1, h2⟩ := List.mem_filter.mp hy
  obtain ⟨i, x, hx, rfl, _, _⟩ := ixMap_mem gRow h1
  obtain ⟨xs, rfl, _⟩ := h x hx
  unfold gRow sW sWord at h2 ⊢
  dsimp only at h2 ⊢
  split at h2
  · rename_i c
    rw [if_pos c]
    exact ⟨_, i, rfl, .inl rfl⟩
  · rename_i c
    rw [if_neg c]
    split at h2
    · rename_i c2
      rw [if_pos c2]
      exact ⟨_, i, rfl, .inr rfl⟩
    · cases h2
theorem pairs_of {ds : List PyData} (h : ∀ d ∈ ds, GoodS d) (e : (found0 ds).isEmpty = true) : Pairs ds := by
  intro d hd
  obtain ⟨xs, rfl, hl, he⟩ := h d hd
  have e := List.isEmpty_iff.mp e
  unfold found0 at e
  have e2 := (List.append_eq_nil_iff.mp e).2
  have e3 := List.filter_eq_nil_iff.mp e2
  obtain ⟨i, hi, hg⟩ := List.mem_iff_getElem.mp hd
  have hm : gRow i (.tuple xs) ∈ rowsS ds := by
    apply List.mem_of_getElem? (i := i)
    unfold rowsS
    rw [ixMap_get, List.getElem?_eq_getElem hi, hg]
    simp -dsimp
  have h4 := e3 _ hm
  unfold gRow sW sWord at h4
  dsimp only at h4
  split at h4
  · exact absurd rfl h4
  · rename_i c
    have c1 : xs.length = 2 := Classical.byContradiction fun z => c (.inl z)
    have c2 : xs.all num = true := by
      cases q : xs.all num with
      | true => rfl
      | false => exact absurd (.inr q) c
    obtain ⟨a, b, rfl⟩ := two c1 c2
    exact ⟨a, b, rfl⟩
theorem apC {ds : List PyData} (hp : Pairs ds) (hl : ds.length ≤ 900) (a1 a2 : Option Sl) (rest : NSt) : nLc (iRg2 (aCons (.e (nC (.int 1))) (aCons (.e (nCB bLen (aCons (.o 0) (aNil)))) (aNil)))) (gN 3) (asB (nOp2 oLe (.e (nOp2 oIx (.e (nOp2 oIx (.o 0) (.o 3))) (.e (nC (.int 0))))) (.e (nOp2 oIx (.e (nOp2 oIx (.o 0) (.e (nOp2 oSub (.o 3) (.e (nC (.int 1))))))) (.e (nC (.int 1)))))))
    (nTup (aCons (.e (nC (.str "apart"))) (aCons (.e (nV 3)) (aNil)))) [3] (some (.val (.list ds)) :: a1 :: a2 :: none :: rest) = .ok (apartR ds) (some (.val (.list ds)) :: a1 :: a2 :: none :: rest) := by
  refine lc_pure (apQ ds) apF ?_ rfl (fun x hx => ?_) (szn _ (by rw [rgD_len]; omega)) rfl
  · apply wp_eq
    have r1 : rgOk 1 = true := by decide
    have r2 : rgOk (ds.length : Int) = true := rgOk_nat (by omega)
    simp -dsimp [r1, r2]
  · obtain ⟨i, rfl, h1, h2⟩ := rgD_mem hx
    have hi : i.toNat < ds.length := by omega
    have hj : i.toNat - 1 < ds.length := by omega
    have e1 : atI ds i = some ds[i.toNat] := by
      rw [atI_at (k := i.toNat) i (by omega), List.getElem?_eq_getElem hi]
    have e2 : atI ds (i - 1) = some ds[i.toNat - 1] := by
      rw [atI_at (k := i.toNat - 1) (i - 1) (by omega), List.getElem?_eq_getElem hj]
    obtain ⟨a, b, q1⟩ := hp _ (List.getElem_mem hi)
    obtain ⟨c, d, q2⟩ := hp _ (List.getElem_mem hj)
    have g1 : apQ ds (.int i) = decide (a ≤ d) := by
      show leQ (at0 (ds.getD i.toNat .none) 0) (at0 (ds.getD (i.toNat - 1) .none) 1) = _
      rw [List.getD_eq_getElem?_getD, List.getD_eq_getElem?_getD, List.getElem?_eq_getElem hi, List.getElem?_eq_getElem hj]
      simp -dsimp [q1, q2, at0, leQ]
    refine ⟨_, rfl, ?_, fun _ => ?_, rfl⟩
    · apply wp_eq
      rw [g1]
      simp -dsimp [e1, e2, q1, q2, atI_0, atI_1]
    · apply wp_eq
      simp -dsimp [szn, apF]
end Wlaw_k16
end NL
end L2
namespace L2
namespace NL
open PySem PySem.Spec PyProof.Rows
namespace Wlaw_k16
theorem found_len {ds : List PyData} (hl : ds.length ≤ 900) : (found0 ds).length ≤ 901 := by
  unfold found0 manyS
  rw [List.length_append]
  have h1 : ((rowsS ds).filter notNone).length ≤ ds.length := by
    refine Nat.le_trans (List.length_filter_le _ _) ?_
    unfold rowsS
    rw [ixMap_len]
    exact Nat.le_refl _
  split <;> simp -dsimp <;> omega
theorem found_shp {ds : List PyData} (h : ∀ d ∈ ds, GoodS d) : ∀ x ∈ found0 ds, Shp 2 x := by
  intro x hx
  have st : ∀ (w : Str) (i : Int), w.length ≤ 10 → (PyData.str w).canLay0 = true → Shp 2 (.tuple [.str w, .int i]) := fun w i _ hw => Shp.tuple fun y hy => by
    simp -dsimp only [List.mem_cons, List.not_mem_nil, or_false] at hy
    rcases hy with rfl | rfl
    · exact ⟨hw, by simp -dsimp [PyData.depth]⟩
    · exact Shp.int
  unfold found0 at hx
  rcases List.mem_append.mp hx with hx | hx
  · unfold manyS at hx
    split at hx
    · simp -dsimp only [List.mem_cons, List.not_mem_nil, or_false] at hx
      subst hx
      exact st _ _ (by decide +kernel) (by decide +kernel)
    · cases hx
  · obtain ⟨w, i, rfl, rfl | rfl⟩ := rows_mem h hx
    · exact st _ _ (by decide +kernel) (by decide +kernel)
    · exact st _ _ (by decide +kernel) (by decide +kernel)
theorem s41 {ds : List PyData} (hl : ds.length ≤ 900) (h : ∀ d ∈ ds, GoodS d) : D_41 [some (.val (.list ds))] = .ok (.list (resS ds)) [some (.val (.list ds))] := by
  have sz := sizeBig
  apply wp_eq
  unfold D_41
  rw [wp_run]
  have e38 := s38 (ds := ds) (by omega) fun d hd => by
    obtain ⟨xs, rfl, _⟩ := h d hd
    rfl
  have c1 : ∀ a1 : Option Sl, nLc (iEn (aCons (.e (nF 0)) (aNil))) (gT (gCons' (gN 3) (gCons' (gN 4) (gNil')))) (tYesN) (nCall D_40 (aCons (.o 3) (aCons (.o 4) (aNil)))) [3, 4] [some (.val (.list ds)), a1, none, none, none, none] = .ok (rowsS ds) [some (.val (.list ds)), a1, none, none, none, none] := fun a1 => by
    have := lc_pure (fi := iEn (aCons (.e (nF 0)) (aNil))) (g := gT (gCons' (gN 3) (gCons' (gN 4) (gNil')))) (t := tYesN) (f := nCall D_40 (aCons (.o 3) (aCons (.o 4) (aNil)))) (vs := [3, 4]) (n := [some (.val (.list ds)), a1, none, none, none, none]) (ds := enumD 0 ds) (fun _ => true)
      (fun x => match x with
        | .tuple [.int k, d] => fault (.int k) (sW d)
        | _ => .none) rfl rfl (fun x hx => ?_) (szn _ (by rw [enumD_len]; omega)) rfl
    · rw [this, filter_all]
      congr 1
      exact ixMap_enum gRow _ (fun k x => rfl) 0 ds
    · obtain ⟨i, y, rfl, hy⟩ := enumD_mem hx
      obtain ⟨xs, rfl, hx2, _⟩ := h y hy
      refine ⟨_, rfl, rfl, fun _ => ?_, rfl⟩
      apply wp_eq
      simp -dsimp [s40 hx2, sW]
  have c2 : ∀ a1 : Option Sl, nLc (iV (nV 2)) (gN 5) (asB (nOp2 oIsNot (.o 5) (.e (nC .none)))) (nV 5) [5] [some (.val (.list ds)), a1, some (.val (.list (rowsS ds))), none, none, none] = .ok ((rowsS ds).filter notNone) [some (.val (.list ds)), a1, some (.val (.list (rowsS ds))), none, none, none] := fun a1 => by
    have := lc_pure (fi := iV (nV 2)) (g := gN 5) (t := asB (nOp2 oIsNot (.o 5) (.e (nC .none)))) (f := nV 5) (vs := [5]) (n := [some (.val (.list ds)), a1, some (.val (.list (rowsS ds))), none, none, none]) (ds := rowsS ds) notNone (fun x => x) rfl rfl (fun x hx => ⟨_, rfl, by cases x <;> rfl, fun _ => rfl, rfl⟩) (szn _ (by unfold rowsS; rw [ixMap_len]; omega)) rfl
    rw [this]
    congr 1
    simp -dsimp
  have hf := found_len hl
  have ext : mExtend (manyS ds) (.list ((rowsS ds).filter notNone)) = some (found0 ds, .none) := by
    show (if (manyS ds).length + ((rowsS ds).filter notNone).length ≤ sizeLine then some (manyS ds ++ (rowsS ds).filter notNone, PyData.none) else none) = _
    rw [if_pos]
    · rfl
    · unfold found0 at hf
      rw [List.length_append] at hf
      omega
  have fin : Br (decide (0 < (found0 ds).length)) (found0 ds = resS ds) (Wp (nLc (iRg2 (aCons (.e (nC (.int 1))) (aCons (.e (nCB bLen (aCons (.o 0) (aNil)))) (aNil)))) (gN 3) (asB (nOp2 oLe (.e (nOp2 oIx (.e (nOp2 oIx (.o 0) (.o 3))) (.e (nC (.int 0))))) (.e (nOp2 oIx (.e (nOp2 oIx (.o 0) (.e (nOp2 oSub (.o 3) (.e (nC (.int 1))))))) (.e (nC (.int 1))))))) (nTup (aCons (.e (nC (.str "apart"))) (aCons (.e (nV 3)) (aNil)))) [3]
        [some (.val (.list ds)), some (.own (found0 ds)), some (.val (.list (rowsS ds))), none, none, none]) fun xs n' => xs = resS ds ∧ outs [some (.val (.list ds))] n' = [some (.val (.list ds))]) := by
    refine Br_mk (fun hp => ?_) fun hp => ?_
    · have hp := of_decide_eq_true hp
      have he : (found0 ds).isEmpty = false := by
        cases q : found0 ds with
        | nil => rw [q] at hp; simp -dsimp at hp
        | cons x l => rfl
      unfold resS
      rw [he, if_neg (by simp -dsimp)]
    · have hp := of_decide_eq_false hp
      have he : (found0 ds).isEmpty = true := by
        cases q : found0 ds with
        | nil => rfl
        | cons x l => rw [q] at hp; simp -dsimp at hp
      have hz : resS ds = apartR ds := by unfold resS; rw [he, if_pos rfl]
      rw [apC (pairs_of h he) hl (some (.own (found0 ds))) (some (.val (.list (rowsS ds)))) [none, none], hz]
      simp -dsimp
  by_cases hm : 200 < ds.length
  · have hm' : (200 : Int) < ds.length := by omega
    have em : manyS ds = [.tuple [.str "many", .int ds.length]] := by unfold manyS; rw [if_pos hm]
    rw [em] at ext
    unfold B_41
    simp -dsimp only [wps_seq]
    simp -dsimp [e38, c1, c2, hm, hm', szn, ext]
    cases hq : decide (0 < (found0 ds).length) with
    | false =>
      rw [hq, Br_false] at fin
      simp -dsimp
      revert fin
      generalize nLc (iRg2 (aCons (.e (nC (.int 1))) (aCons (.e (nCB bLen (aCons (.o 0) (aNil)))) (aNil)))) (gN 3) (asB (nOp2 oLe (.e (nOp2 oIx (.e (nOp2 oIx (.o 0) (.o 3))) (.e (nC (.int 0))))) (.e (nOp2 oIx (.e (nOp2 oIx (.o 0) (.e (nOp2 oSub (.o 3) (.e (nC (.int 1))))))) (.e (nC (.int 1))))))) (nTup (aCons (.e (nC (.str "apart"))) (aCons (.e (nV 3)) (aNil)))) [3] [some (.val (.list ds)), some (.own (found0 ds)), some (.val (.list (rowsS ds))), none, none, none] = N0
      intro fin
      exact wp_mono fin (fun xs n' h => ⟨congrArg PyData.list h.1, h.2⟩)
    | true =>
      rw [hq, Br_true] at fin
      simp -dsimp
      exact fin
  · have hm' : ¬ (200 : Int) < ds.length := by omega
    have em : manyS ds = [] := by unfold manyS; rw [if_neg hm]
    rw [em] at ext
    unfold B_41
    simp -dsimp only [wps_seq]
    simp -dsimp [e38, c1, c2, hm, hm', szn, ext]
    cases hq : decide (0 < (found0 ds).length) with
    | false =>
      rw [hq, Br_false] at fin
      simp -dsimp
      revert fin
      generalize nLc (iRg2 (aCons (.e (nC (.int 1))) (aCons (.e (nCB bLen (aCons (.o 0) (aNil)))) (aNil)))) (gN 3) (asB (nOp2 oLe (.e (nOp2 oIx (.e (nOp2 oIx (.o 0) (.o 3))) (.e (nC (.int 0))))) (.e (nOp2 oIx (.e (nOp2 oIx (.o 0) (.e (nOp2 oSub (.o 3) (.e (nC (.int 1))))))) (.e (nC (.int 1))))))) (nTup (aCons (.e (nC (.str "apart"))) (aCons (.e (nV 3)) (aNil)))) [3] [some (.val (.list ds)), some (.own (found0 ds)), some (.val (.list (rowsS ds))), none, none, none] = N0
      intro fin
      exact wp_mono fin (fun xs n' h => ⟨congrArg PyData.list h.1, h.2⟩)
    | true =>
      rw [hq, Br_true] at fin
      simp -dsimp
      exact fin
theorem oMul_0 {xs : List PyData} : oMul (.list xs) (.int 0) = some (.list []) := by
  have e : oMul (.list xs) (.int 0) = if -(2 ^ 63 : Int) ≤ 0 ∧ (0 : Int) < 2 ^ 63 ∧ xs.length * (0 : Int).toNat ≤ sizeLine then some (.list (List.replicate (0 : Int).toNat xs).flatten) else none := id rfl
  rw [e, if_pos ⟨by omega, by omega, by simp -dsimp⟩]
  rfl
theorem oMul_1 {xs : List PyData} (h : xs.length ≤ sizeLine) : oMul (.list xs) (.int 1) = some (.list xs) := by
  have e : oMul (.list xs) (.int 1) = if -(2 ^ 63 : Int) ≤ 1 ∧ (1 : Int) < 2 ^ 63 ∧ xs.length * (1 : Int).toNat ≤ sizeLine then some (.list (List.replicate (1 : Int).toNat xs).flatten) else none := id rfl
  rw [e, if_pos ⟨by omega, by omega, by simpa using h⟩]
  simp -dsimp
theorem s54 {ds : List PyData} (hl : ds.length ≤ 900) (h : ∀ d ∈ ds, GoodS d) : D_54 [some (.val (.list ds))] = .ok (.list (resS ds)) [some (.val (.list ds))] := by
  have sz := sizeBig
  apply wp_eq
  unfold D_54
  rw [wp_run]
  have c1 : ∀ a1 : Option Sl, nLc (iRg1 (aCons (.e (nCB bLen (aCons (.o 0) (aNil)))) (aNil))) (gN 3) (tYesN) (nCall D_52 (aCons (.o 3) (aCons (.e (nOp2 oIx (.o 0) (.o 3))) (aNil)))) [3] [some (.val (.list ds)), a1, none, none, none] = .ok (rowsS ds) [some (.val (.list ds)), a1, none, none, none] := fun a1 => by
    have r2 : rgOk (ds.length : Int) = true := rgOk_nat (by omega)
    have := lc_pure (fi := iRg1 (aCons (.e (nCB bLen (aCons (.o 0) (aNil)))) (aNil))) (g := gN 3) (t := tYesN) (f := nCall D_52 (aCons (.o 3) (aCons (.e (nOp2 oIx (.o 0) (.o 3))) (aNil)))) (vs := [3]) (n := [some (.val (.list ds)), a1, none, none, none]) (ds := rgD 0 ds.length) (fun _ => true)
      (fun x => match x with
        | .int k => gRow k.toNat (ds.getD k.toNat .none)
        | _ => .none) (by apply wp_eq; simp -dsimp [r2]) rfl (fun x hx => ?_) (szn _ (by rw [rgD_len]; omega)) rfl
    · rw [this, filter_all, ixMap_range gRow _ ds fun k x e => ?_]
      · rfl
      · show gRow (k : Int).toNat (ds.getD (k : Int).toNat .none) = gRow k x
        rw [Int.toNat_natCast, List.getD_eq_getElem?_getD, e]
        rfl
    · obtain ⟨i, rfl, h1, h2⟩ := rgD_mem hx
      have hi : i.toNat < ds.length := by omega
      have e1 : atI ds i = some ds[i.toNat] := by
        rw [atI_at (k := i.toNat) i (by omega), List.getElem?_eq_getElem hi]
      obtain ⟨xs, q, hx2, hx3⟩ := h _ (List.getElem_mem hi)
      refine ⟨_, rfl, rfl, fun _ => ?_, rfl⟩
      apply wp_eq
      have hk : ((i.toNat : Nat) : Int) = i := by omega
      simp -dsimp [e1, q, s52 hx2 hx3, List.getD_eq_getElem?_getD, List.getElem?_eq_getElem hi, gRow, sW, hk]
  have c2 : ∀ a1 : Option Sl, nLc (iV (nV 2)) (gN 4) (asB (nOp2 oIsNot (.o 4) (.e (nC .none)))) (nV 4) [4] [some (.val (.list ds)), a1, some (.val (.list (rowsS ds))), none, none] = .ok ((rowsS ds).filter notNone) [some (.val (.list ds)), a1, some (.val (.list (rowsS ds))), none, none] := fun a1 => by
    have := lc_pure (fi := iV (nV 2)) (g := gN 4) (t := asB (nOp2 oIsNot (.o 4) (.e (nC .none)))) (f := nV 4) (vs := [4]) (n := [some (.val (.list ds)), a1, some (.val (.list (rowsS ds))), none, none]) (ds := rowsS ds) notNone (fun x => x) rfl rfl (fun x hx => ⟨_, rfl, by cases x <;> rfl, fun _ => rfl, rfl⟩) (szn _ (by unfold rowsS; rw [ixMap_len]; omega)) rfl
    rw [this]
    congr 1
    simp -dsimp
  have hf := found_len hl
  have hadd : (manyS ds).length + ((rowsS ds).filter notNone).length ≤ sizeLine := by
    unfold found0 at hf
    rw [List.length_append] at hf
    omega
  have oe := oEq_nil (found_shp h) (by omega)
  have mul2 : oMul (.list [.tuple [.str "many", .int ds.length]]) (.int (if (200 : Int) < ds.length then 1 else 0)) = some (.list (manyS ds)) := by
    unfold manyS
    by_cases hm : 200 < ds.length
    · rw [if_pos hm, if_pos (by omega), oMul_1 (by simp -dsimp; omega)]
    · rw [if_neg hm, if_neg (by omega), oMul_0]
  unfold B_54
  simp -dsimp only [wps_seq]
  simp -dsimp [mul2, c1, c2, szn]
  refine ⟨hadd, ?_⟩
  rw [show manyS ds ++ (rowsS ds).filter notNone = found0 ds from rfl]
  simp -dsimp [oe]
  refine Br_mk (fun he => ?_) fun he => ?_
  · have hz : resS ds = apartR ds := by unfold resS; rw [he, if_pos rfl]
    rw [wps_sSetL, apC (pairs_of h he) hl (some (.val (.list (found0 ds)))) (some (.val (.list (rowsS ds)))) [none], hz]
    simp -dsimp
  · unfold resS
    rw [he, if_neg (by simp -dsimp)]
    simp -dsimp
end Wlaw_k16
end NL
end L2
namespace L2
namespace NL
open PySem PySem.Spec PyProof.Rows
namespace Wlaw_k16
def pairQ (d : PyData) : Bool := match d with
  | .tuple xs => decide (xs.length = 2) && xs.all num
  | _ => false
def notLate (d : PyData) : Bool := match d with
  | .tuple [x, y] => leQ x y
  | _ => false
def ltQ : PyData → PyData → Bool
  | .int a, .int b => decide (a < b)
  | _, _ => false
def zq (d : PyData) : Bool := match d with
  | .tuple [x, y] => ltQ (at0 x 1) (at0 y 0)
  | _ => false
theorem zip_mem {xs ys : List PyData} {d : PyData} (h : d ∈ zipD xs ys) : ∃ (i : Nat) (x y : PyData), xs[i]? = some x ∧ ys[i]? = some y ∧ d = .tuple [x, y] := by
  obtain ⟨i, hi⟩ := List.mem_iff_getElem?.mp h
  unfold zipD at hi
  rw [List.getElem?_zipWith] at hi
  cases e1 : xs[i]? with
  | none => rw [e1] at hi; cases hi
  | some x =>
    cases e2 : ys[i]? with
    | none => rw [e1, e2] at hi; cases hi
    | some y => rw [e1, e2] at hi; cases hi; exact ⟨i, x, y, e1, e2, rfl⟩
theorem zip_all {ds : List PyData} (hp : Pairs ds) : (zipD ds (ds.drop 1)).all zq = (apartR ds).isEmpty := by
  have key : ∀ (i : Nat) (h1 : i + 1 < ds.length), zq (.tuple [ds[i], ds[i + 1]]) = !apQ ds (.int ((i + 1 : Nat) : Int)) := fun i h1 => by
    obtain ⟨a, b, q1⟩ := hp _ (List.getElem_mem (by omega : i < ds.length))
    obtain ⟨c, d, q2⟩ := hp _ (List.getElem_mem h1)
    have g1 : apQ ds (.int ((i + 1 : Nat) : Int)) = decide (c ≤ b) := by
      show leQ (at0 (ds.getD ((i + 1 : Nat) : Int).toNat .none) 0) (at0 (ds.getD (((i + 1 : Nat) : Int).toNat - 1) .none) 1) = _
      rw [Int.toNat_natCast, List.getD_eq_getElem?_getD, List.getD_eq_getElem?_getD, List.getElem?_eq_getElem h1]
      have : i + 1 - 1 = i := by omega
      rw [this, List.getElem?_eq_getElem (by omega : i < ds.length)]
      simp -dsimp [q1, q2, at0, leQ]
    rw [g1, q1, q2]
    simp -dsimp [zq, at0, ltQ]
    by_cases z : b < c
    · simp -dsimp [z] <;> omega
    · simp -dsimp [z]; omega
  rw [Bool.eq_iff_iff, List.all_eq_true, List.isEmpty_iff]
  constructor
  · intro h
    unfold apartR
    rw [List.map_eq_nil_iff, List.filter_eq_nil_iff]
    intro x hx
    obtain ⟨j, rfl, h1, h2⟩ := rgD_mem hx
    have hi : (j.toNat - 1) + 1 < ds.length := by omega
    have hm : (.tuple [ds[j.toNat - 1], ds[j.toNat - 1 + 1]]) ∈ zipD ds (ds.drop 1) := by
      apply List.mem_iff_getElem?.mpr
      refine ⟨j.toNat - 1, ?_⟩
      unfold zipD
      rw [List.getElem?_zipWith, List.getElem?_eq_getElem (by omega : j.toNat - 1 < ds.length), List.getElem?_drop]
      have : 1 + (j.toNat - 1) = j.toNat - 1 + 1 := by omega
      rw [this, List.getElem?_eq_getElem hi]
    have h3 := h _ hm
    rw [key _ hi] at h3
    have hj : ((j.toNat - 1 + 1 : Nat) : Int) = j := by omega
    rw [hj] at h3
    simpa using h3
  · intro h d hd
    obtain ⟨i, x, y, e1, e2, rfl⟩ := zip_mem hd
    have hi : i < ds.length := (List.getElem?_eq_some_iff.mp e1).1
    rw [List.getElem?_drop] at e2
    have h1 : 1 + i < ds.length := (List.getElem?_eq_some_iff.mp e2).1
    have h1' : i + 1 < ds.length := by omega
    have e3 : x = ds[i] := by rw [List.getElem?_eq_getElem hi] at e1; exact (Option.some.inj e1).symm
    have e4 : y = ds[i + 1] := by
      have : 1 + i = i + 1 := by omega
      rw [this, List.getElem?_eq_getElem h1'] at e2
      exact (Option.some.inj e2).symm
    rw [e3, e4, key i h1']
    unfold apartR at h
    rw [List.map_eq_nil_iff, List.filter_eq_nil_iff] at h
    have hm : PyData.int ((i + 1 : Nat) : Int) ∈ rgD 1 ds.length := by
      unfold rgD
      refine List.mem_map.mpr ⟨i, List.mem_range.mpr (by omega), ?_⟩
      congr 1
      omega
    have := h _ hm
    simpa using this
theorem cut1 {ds : List PyData} : cutP ds (some 1) none = ds.drop 1 := by
  unfold cutP HT.sIx
  cases ds with
  | nil => simp -dsimp
  | cons d ds => simp -dsimp
/-- are_stays answers as the faults do -/
theorem sum28 {ds : List PyData} (h : ∀ d ∈ ds, GoodS d) : (decide (ds.length ≤ 200) && (ds.all pairQ && (ds.all notLate && (zipD ds (ds.drop 1)).all zq))) = (resS ds).isEmpty := by
  have row : ∀ d ∈ ds, (pairQ d && notLate d) = (match sW d with | none => true | _ => false) := fun d hd => by
    obtain ⟨xs, rfl, hl, he⟩ := h d hd
    unfold pairQ sW sWord
    dsimp only
    by_cases h2 : xs.length = 2
    · cases hn : xs.all num with
      | false => simp -dsimp [h2]
      | true =>
        obtain ⟨a, b, rfl⟩ := two h2 hn
        by_cases hb : b < a
        · have : ¬ a ≤ b := by omega
          simp -dsimp [notLate, leQ, late, hb, this]
        · have : a ≤ b := by omega
          simp -dsimp [notLate, leQ, late, hb, this]
    · simp -dsimp [h2]
  cases he : (found0 ds).isEmpty with
  | true =>
    have hz : resS ds = apartR ds := by unfold resS; rw [he, if_pos rfl]
    have hP := pairs_of h he
    rw [hz, ← zip_all hP]
    have he := List.isEmpty_iff.mp he
    unfold found0 at he
    obtain ⟨e1, e2⟩ := List.append_eq_nil_iff.mp he
    have hl : ds.length ≤ 200 := by
      unfold manyS at e1
      split at e1
      · cases e1
      · omega
    have e3 := List.filter_eq_nil_iff.mp e2
    have hall : ∀ d ∈ ds, sW d = none := fun d hd => by
      obtain ⟨i, hi, hg⟩ := List.mem_iff_getElem.mp hd
      have hm : gRow i d ∈ rowsS ds := by
        apply List.mem_of_getElem? (i := i)
        unfold rowsS
        rw [ixMap_get, List.getElem?_eq_getElem hi, hg]
        simp -dsimp
      have h4 := e3 _ hm
      unfold gRow at h4
      cases q : sW d with
      | none => rfl
      | some w => rw [q] at h4; exact absurd rfl h4
    have a1 : ds.all pairQ = true := List.all_eq_true.mpr fun d hd => by
      have := row d hd
      rw [hall d hd] at this
      exact (Bool.and_eq_true_iff.mp this).1
    have a2 : ds.all notLate = true := List.all_eq_true.mpr fun d hd => by
      have := row d hd
      rw [hall d hd] at this
      exact (Bool.and_eq_true_iff.mp this).2
    rw [a1, a2, decide_eq_true hl]
    simp -dsimp
  | false =>
    have hz : resS ds = found0 ds := by unfold resS; rw [he, if_neg (by simp -dsimp)]
    rw [hz, he]
    by_cases hl : ds.length ≤ 200
    · have : ∃ d ∈ ds, sW d ≠ none := by
        refine Classical.byContradiction fun z => ?_
        have hall : ∀ d ∈ ds, sW d = none := fun d hd => Classical.byContradiction fun y => z ⟨d, hd, y⟩
        have e2 : (rowsS ds).filter notNone = [] := List.filter_eq_nil_iff.mpr fun y hy => by
          obtain ⟨i, x, hx, rfl, _, _⟩ := ixMap_mem gRow hy
          unfold gRow
          rw [hall x hx]
          simp -dsimp [fault, notNone]
        have e1 : manyS ds = [] := by unfold manyS; rw [if_neg (by omega)]
        have : found0 ds = [] := by unfold found0; rw [e1, e2]; rfl
        rw [this] at he
        cases he
      obtain ⟨d, hd, hs⟩ := this
      have r := row d hd
      have r2 : (pairQ d && notLate d) = false := by
        rw [r]
        cases q : sW d with
        | none => exact absurd q hs
        | some w => rfl
      rw [Bool.eq_false_iff]
      intro z
      simp -dsimp only [Bool.and_eq_true] at z
      have z1 := List.all_eq_true.mp z.2.1 d hd
      have z2 := List.all_eq_true.mp z.2.2.1 d hd
      rw [z1, z2] at r2
      cases r2
    · rw [decide_eq_false hl]
      simp -dsimp
theorem allC {ds : List PyData} (h : ∀ d ∈ ds, GoodS d) (hl : ds.length ≤ 900) (rest : NSt) : nLc (iV (nF 0)) (gN 1) (tYesN) (nAnd (nIsi "tuple" (.o 1)) (nAnd (nOp2 oEq (.e (nCB bLen (aCons (.o 1) (aNil)))) (.e (nC (.int 2)))) (nAnd (nCall D_22 (aCons (.e (nOp2 oIx (.o 1) (.e (nC (.int 0))))) (aNil))) (nCall D_22 (aCons (.e (nOp2 oIx (.o 1) (.e (nC (.int 1))))) (aNil)))))) [1] (some (.val (.list ds)) :: none :: rest) = .ok (ds.map fun d => .bool (pairQ d)) (some (.val (.list ds)) :: none :: rest) := by
  have := lc_pure (fi := iV (nF 0)) (g := gN 1) (t := tYesN) (f := nAnd (nIsi "tuple" (.o 1)) (nAnd (nOp2 oEq (.e (nCB bLen (aCons (.o 1) (aNil)))) (.e (nC (.int 2)))) (nAnd (nCall D_22 (aCons (.e (nOp2 oIx (.o 1) (.e (nC (.int 0))))) (aNil))) (nCall D_22 (aCons (.e (nOp2 oIx (.o 1) (.e (nC (.int 1))))) (aNil)))))) (vs := [1]) (n := some (.val (.list ds)) :: none :: rest) (ds := ds) (fun _ => true) (fun d => .bool (pairQ d)) rfl rfl (fun x hx => ?_) (szn _ (by omega)) rfl
  · rw [this, filter_all]
  · obtain ⟨xs, rfl, hx2, _⟩ := h x hx
    refine ⟨_, rfl, rfl, fun _ => ?_, rfl⟩
    apply wp_eq
    by_cases h2 : xs.length = 2
    · match xs, h2 with
      | [x, y], _ =>
        cases hn : numQ x 0 100000 <;> simp -dsimp [isTy, s22, atI_0, atI_1, hn, pairQ, num]
    · have h2' : ¬ (xs.length : Int) = 2 := by omega
      simp -dsimp [isTy, h2, h2', pairQ]
theorem leC {ds : List PyData} (hp : Pairs ds) (hl : ds.length ≤ 900) (a1 : Option Sl) (rest : NSt) : nLc (iV (nF 0)) (gT (gCons' (gN 2) (gCons' (gN 3) (gNil')))) (tYesN) (nOp2 oLe (.o 2) (.o 3)) [2, 3] (some (.val (.list ds)) :: a1 :: none :: none :: rest) = .ok (ds.map fun d => .bool (notLate d)) (some (.val (.list ds)) :: a1 :: none :: none :: rest) := by
  have := lc_pure (fi := iV (nF 0)) (g := gT (gCons' (gN 2) (gCons' (gN 3) (gNil')))) (t := tYesN) (f := nOp2 oLe (.o 2) (.o 3)) (vs := [2, 3]) (n := some (.val (.list ds)) :: a1 :: none :: none :: rest) (ds := ds) (fun _ => true) (fun d => .bool (notLate d)) rfl rfl (fun x hx => ?_) (szn _ (by omega)) rfl
  · rw [this, filter_all]
  · obtain ⟨a, b, rfl⟩ := hp x hx
    exact ⟨_, rfl, rfl, fun _ => rfl, rfl⟩
theorem ltC {ds : List PyData} (hp : Pairs ds) (hl : ds.length ≤ 900) (a1 a2 a3 : Option Sl) : nLc (iZp (aCons (.e (nF 0)) (aCons (.e (nSl (.o 0) (pSome (nC (.int 1))) (pNone))) (aNil)))) (gT (gCons' (gN 4) (gCons' (gN 5) (gNil')))) (tYesN) (nOp2 oLt (.e (nOp2 oIx (.o 4) (.e (nC (.int 1))))) (.e (nOp2 oIx (.o 5) (.e (nC (.int 0)))))) [4, 5] [some (.val (.list ds)), a1, a2, a3, none, none] = .ok ((zipD ds (ds.drop 1)).map fun d => .bool (zq d)) [some (.val (.list ds)), a1, a2, a3, none, none] := by
  have := lc_pure (fi := iZp (aCons (.e (nF 0)) (aCons (.e (nSl (.o 0) (pSome (nC (.int 1))) (pNone))) (aNil)))) (g := gT (gCons' (gN 4) (gCons' (gN 5) (gNil')))) (t := tYesN) (f := nOp2 oLt (.e (nOp2 oIx (.o 4) (.e (nC (.int 1))))) (.e (nOp2 oIx (.o 5) (.e (nC (.int 0)))))) (vs := [4, 5]) (n := [some (.val (.list ds)), a1, a2, a3, none, none]) (ds := zipD ds (ds.drop 1)) (fun _ => true) (fun d => .bool (zq d)) (by
    apply wp_eq
    simp -dsimp [cut1]) rfl (fun x hx => ?_) (szn _ (by unfold zipD; rw [List.length_zipWith]; omega)) rfl
  · rw [this, filter_all]
  · obtain ⟨i, x, y, e1, e2, rfl⟩ := zip_mem hx
    obtain ⟨a, b, rfl⟩ := hp x (List.mem_of_getElem? e1)
    obtain ⟨c, d, rfl⟩ := hp y (List.mem_of_mem_drop (List.mem_of_getElem? e2))
    exact ⟨_, rfl, rfl, fun _ => rfl, rfl⟩
theorem s28 {ds : List PyData} (hl : ds.length ≤ 900) (h : ∀ d ∈ ds, GoodS d) : D_28 [some (.val (.list ds))] = .ok (.bool (resS ds).isEmpty) [some (.val (.list ds))] := by
  rw [← sum28 h]
  apply wp_eq
  unfold D_28
  rw [wp_run]
  have c1 := allC h hl [none, none, none, none]
  by_cases hm : 200 < ds.length
  · have hm' : (200 : Int) < ds.length := by omega
    have hm2 : ¬ ds.length ≤ 200 := by omega
    simp -dsimp [B_28, isTy, hm, hm', hm2]
  · have hm' : ¬ (200 : Int) < ds.length := by omega
    have hm2 : ds.length ≤ 200 := by omega
    have ha := bAll_map pairQ ds
    cases hp : ds.all pairQ with
    | false =>
      rw [hp] at ha
      simp -dsimp [B_28, isTy, hm, hm', hm2, c1, ha]
    | true =>
      rw [hp] at ha
      have hP : Pairs ds := fun d hd => by
        have q := List.all_eq_true.mp hp d hd
        obtain ⟨xs, rfl, _⟩ := h d hd
        unfold pairQ at q
        dsimp only at q
        obtain ⟨q1, q2⟩ := Bool.and_eq_true_iff.mp q
        obtain ⟨a, b, rfl⟩ := two (of_decide_eq_true q1) q2
        exact ⟨a, b, rfl⟩
      have c2 := leC hP hl none [none, none]
      have c3 := ltC hP hl none none none
      have hb := bAll_map notLate ds
      have hc := bAll_map zq (zipD ds (ds.drop 1))
      cases hn : ds.all notLate with
      | false =>
        rw [hn] at hb
        simp -dsimp [B_28, isTy, hm, hm', hm2, c1, c2, ha, hb]
      | true =>
        rw [hn] at hb
        rw [List.drop_one] at hc c3
        simp -dsimp [B_28, isTy, hm, hm', hm2, c1, c2, c3, ha, hb, hc]
end Wlaw_k16
end NL
end L2
namespace L2
namespace NL
open PySem PySem.Spec PyProof.Rows
namespace Wlaw_k16
def stBody : NStm := sSeq (sAsg (nOp2 oAdd (.o 3) (.e (nCall D_45 (aCons (.o 0) (aCons (.e (nL (nLstO (aCons (.e (nC (.int 0))) (aCons (.e (nC (.int 1))) (aCons (.e (nC (.int 7))) (aCons (.e (nOp2 oAdd (.e (nNeg (nC (.int 1)))) (.e (nCB bInt (aCons (.e (nOp2 oGt (.e (nCall D_44 (aCons (.o 0) (aCons (.e (nC (.int 9))) (aNil))))) (.e (nC (.int 0))))) (aNil)))))) (aNil)))))))) (aNil)))))) (gN 5))
  (sSeq (sExpr (nAppend 2 (nTup (aCons (.e (nV 3)) (aCons (.e (nV 5)) (aNil))))))
  (sAsg (nCB bMax (aCons (.e (nC (.int 0))) (aCons (.e (nOp2 oAdd (.e (nOp2 oAdd (.o 5) (.e (nC (.int 1))))) (.e (nCall D_45 (aCons (.o 0) (aCons (.e (nL (nLstO (aCons (.e (nC (.int 0))) (aCons (.e (nC (.int 1))) (aCons (.e (nC (.int 5))) (aCons (.e (nOp2 oMul (.e (nNeg (nC (.int 1)))) (.e (nCB bInt (aCons (.e (nOp2 oEq (.e (nCall D_44 (aCons (.o 0) (aCons (.e (nC (.int 9))) (aNil))))) (.e (nC (.int 0))))) (aNil)))))) (aNil)))))))) (aNil))))))) (aNil)))) (gN 3)))
def stLoop : NStm := sFor (iRg1 (aCons (.o 1) (aNil))) (gN 4) stBody
def stBend : NStm := sIf (tAnd' (asB (nOp2 oNe (.o 2) (.e (nL (nLstO (aNil)))))) (asB (nOp2 oEq (.e (nCall D_44 (aCons (.o 0) (aCons (.e (nC (.int 4))) (aNil))))) (.e (nC (.int 0)))))) (sSeq (sAsg (nCall D_44 (aCons (.o 0) (aCons (.e (nCB bLen (aCons (.o 2) (aNil)))) (aNil)))) (gN 6))
  (sSetI 2 (nV 6) (nCall D_45 (aCons (.o 0) (aCons (.e (nL (nLstO (aCons (.e (nTup (aCons (.e (nOp2 oIx (.e (nOp2 oIx (.o 2) (.o 6))) (.e (nC (.int 0))))) (aNil)))) (aCons (.e (nOp2 oAdd (.e (nOp2 oIx (.o 2) (.o 6))) (.e (nTup (aCons (.e (nC (.int 1))) (aNil)))))) (aCons (.e (nTup (aCons (.e (nNeg (nC (.int 1)))) (aCons (.e (nC (.int 5))) (aNil))))) (aCons (.e (nTup (aCons (.e (nC (.int 5))) (aCons (.e (nC (.int 100001))) (aNil))))) (aCons (.e (nTup (aCons (.e (nC .none)) (aCons (.e (nC (.int 5))) (aNil))))) (aCons (.e (nTup (aCons (.e (nC (.int 5))) (aCons (.e (nC (.bool true))) (aNil))))) (aCons (.e (nTup (aNil))) (aCons (.e (nTup (aCons (.e (nC (.int 9))) (aCons (.e (nC (.int 3))) (aNil))))) (aNil)))))))))))) (aNil)))))) (sNil)
theorem B53_eq : B_53 = sSeq (sPar 2 3 (evO (nLstO (aNil))) (evV (nCall D_44 (aCons (.o 0) (aCons (.e (nC (.int 9))) (aNil)))))) (sSeq stLoop (sSeq stBend (sRet (nF 2)))) := rfl
theorem oMul_small {a b : Int} (h : -(2 ^ 64) < a ∧ a < 2 ^ 64) : oMul (.int a) (.int b) = some (.int (a * b)) := by
  have e : oMul (.int a) (.int b) = if CMul a b ∨ CMulW a b then some (.int (a * b)) else none := id rfl
  rw [e, if_pos (.inl (.inl h))]
theorem oAdd_tuple {xs ys : List PyData} (h : xs.length + ys.length ≤ sizeLine) : oAdd (.tuple xs) (.tuple ys) = some (.tuple (xs ++ ys)) := by
  have e : oAdd (.tuple xs) (.tuple ys) = if xs.length + ys.length ≤ sizeLine then some (.tuple (xs ++ ys)) else none := id rfl
  rw [e, if_pos h]
theorem stBody_spec {l acc : List PyData} {m day : Int} {k : PyData} {x5 : Option Sl} (h : Dr l) (hp : Pairs acc) (hl : acc.length ≤ 100) (v5 : Vl x5) {Nx : NSt → Prop} {Rt : PyData → NSt → Prop} {Bk Ct : NSt → Prop}
    (hN : ∀ l' (a b day' : Int) x5', Dr l' → Vl x5' → Nx [some (.lent l'), some (.val (.int m)), some (.own (acc ++ [.tuple [.int a, .int b]])), some (.val (.int day')), some (.val k), x5', none]) :
    WpS (stBody [some (.lent l), some (.val (.int m)), some (.own acc), some (.val (.int day)), some (.val k), x5, none]) Nx Rt Bk Ct := by
  have sz := sizeBig
  have m1 : ∀ b : Int, oMul (.int (-1)) (.int b) = some (.int (-1 * b)) := fun b => oMul_small ⟨by omega, by omega⟩
  unfold stBody
  simp -dsimp [e44, e45, szn]
  refine take_spec h (by omega) fun r l1 d1 r0 r1 => ?_
  simp -dsimp [e44, e45, szn]
  refine pick_spec d1 (by simp -dsimp) fun v1 l2 d2 hv1 => ?_
  have hv1 : ∃ i : Int, v1 = .int i := by
    simp -dsimp only [List.mem_cons, List.not_mem_nil, or_false] at hv1
    rcases hv1 with rfl | rfl | rfl | rfl <;> exact ⟨_, rfl⟩
  obtain ⟨i1, rfl⟩ := hv1
  rcases v5 with rfl | ⟨d5, rfl⟩ <;> (
    simp -dsimp [e44, e45, szn]
    refine ⟨by omega, ?_⟩
    refine take_spec d2 (by omega) fun r l3 d3 r0 r1 => ?_
    simp -dsimp [e44, e45, szn, m1]
    refine pick_spec d3 (by simp -dsimp) fun v2 l4 d4 hv2 => ?_
    have hv2 : ∃ i : Int, v2 = .int i := by
      simp -dsimp only [List.mem_cons, List.not_mem_nil, or_false] at hv2
      rcases hv2 with rfl | rfl | rfl | rfl <;> exact ⟨_, rfl⟩
    obtain ⟨i2, rfl⟩ := hv2
    simp -dsimp
    exact hN _ _ _ _ _ d4 Vl.val)
theorem stLoop_spec {l : List PyData} {m day : Int} (h : Dr l) (h0 : 0 ≤ m) (h1 : m ≤ 60) {Nx : NSt → Prop} {Rt : PyData → NSt → Prop} {Bk Ct : NSt → Prop}
    (hN : ∀ l' acc (day' : Int) x4' x5', Dr l' → Pairs acc → acc.length ≤ 60 → Nx [some (.lent l'), some (.val (.int m)), some (.own acc), some (.val (.int day')), x4', x5', none]) :
    WpS (stLoop [some (.lent l), some (.val (.int m)), some (.own []), some (.val (.int day)), none, none, none]) Nx Rt Bk Ct := by
  unfold stLoop
  have er : rg1 [.v (.int m)] = some (rgD 0 m) := rg1_at (by unfold rgOk; rw [Bool.and_eq_true]; exact ⟨decide_eq_true (by omega), decide_eq_true (by omega)⟩)
  rw [wps_sFor]
  simp -dsimp only [wp_iRg1, wp_aCons, wp_oo, wp_aNil, List.getElem?_cons_succ, List.getElem?_cons_zero, onSl_val, er, onO_some]
  refine wps_forL (fun ds n => ∃ (l' acc : List PyData) (day' : Int) (x4 x5 : Option Sl), n = [some (.lent l'), some (.val (.int m)), some (.own acc), some (.val (.int day')), x4, x5, none] ∧ Dr l' ∧ Pairs acc ∧ acc.length + ds.length ≤ 60 ∧ Vl x4 ∧ Vl x5) ?_ ?_ _ _ ⟨l, [], day, none, none, rfl, h, (fun _ z => by cases z), (by rw [rgD_len]; simp -dsimp; omega), Vl.none, Vl.none⟩
  · rintro d ds n ⟨l', acc, day', x4, x5, rfl, hd, hp, hlen, v4, v5⟩
    have hlen : acc.length + (ds.length + 1) ≤ 60 := hlen
    refine ⟨_, gN_vl rfl v4, ?_⟩
    refine stBody_spec (l := l') (acc := acc) (m := m) (day := day') (k := d) (x5 := x5) hd hp (by omega) v5 fun l2 a b day2 x5' d2 v5' => ?_
    refine ⟨l2, _, day2, _, x5', rfl, d2, fun z hz => ?_, by simp -dsimp; omega, Vl.val, v5'⟩
    rcases List.mem_append.mp hz with hz | hz
    · exact hp z hz
    · simp -dsimp only [List.mem_cons, List.not_mem_nil, or_false] at hz
      exact ⟨a, b, hz⟩
  · rintro n ⟨l', acc, day', x4, x5, rfl, hd, hp, hlen, v4, v5⟩
    exact hN _ _ _ _ _ hd hp (by simpa using hlen)
theorem good_pairs {ds : List PyData} (h : Pairs ds) : ∀ d ∈ ds, GoodS d := fun d hd => by
  obtain ⟨a, b, rfl⟩ := h d hd
  refine ⟨_, rfl, by simp -dsimp, fun x hx => ?_⟩
  simp -dsimp only [List.mem_cons, List.not_mem_nil, or_false] at hx
  rcases hx with rfl | rfl
  · exact .inl ⟨_, rfl⟩
  · exact .inl ⟨_, rfl⟩
theorem stBend_spec {l acc : List PyData} {m : Int} {x3 x4 x5 : Option Sl} (h : Dr l) (hp : Pairs acc) (hl : acc.length ≤ 60) {Nx : NSt → Prop} {Rt : PyData → NSt → Prop} {Bk Ct : NSt → Prop}
    (hN : ∀ l' ds x6', Dr l' → (∀ d ∈ ds, GoodS d) → ds.length ≤ 60 → Nx [some (.lent l'), some (.val (.int m)), some (.own ds), x3, x4, x5, x6']) :
    WpS (stBend [some (.lent l), some (.val (.int m)), some (.own acc), x3, x4, x5, none]) Nx Rt Bk Ct := by
  have sz := sizeBig
  have oe : oNe (.list acc) (.list []) = some (.bool (!acc.isEmpty)) := oNe_nil (k := 2) (fun x hx => by
    obtain ⟨a, b, rfl⟩ := hp x hx
    exact Shp.tuple fun y hy => by
      simp -dsimp only [List.mem_cons, List.not_mem_nil, or_false] at hy
      rcases hy with rfl | rfl
      · exact Shp.int
      · exact Shp.int) (by omega)
  unfold stBend
  simp -dsimp [oe, szn]
  refine Br_mk (fun hne => ?_) fun _ => ?_
  · simp -dsimp [e44, e45, szn]
    refine take_spec h (by omega) fun r l1 d1 r0 r1 => ?_
    simp -dsimp
    refine Br_mk (fun _ => ?_) fun _ => hN _ _ _ d1 (good_pairs hp) hl
    have hpos : 0 < acc.length := by
      cases acc with
      | nil => simp -dsimp at hne
      | cons x xs => simp -dsimp
    try simp -dsimp [e44, e45, szn]
    refine take_spec d1 (by omega) fun r l2 d2 r0 r1 => ?_
    have hi : r.toNat < acc.length := by omega
    have e1 : atI acc r = some acc[r.toNat] := by
      rw [atI_at (k := r.toNat) r (by omega), List.getElem?_eq_getElem hi]
    obtain ⟨a, b, q⟩ := hp _ (List.getElem_mem hi)
    rw [q] at e1
    have oa : oAdd (.tuple [.int a, .int b]) (.tuple [.int 1]) = some (.tuple [.int a, .int b, .int 1]) := oAdd_tuple (by simp -dsimp; omega)
    have ei : ixN acc.length r = some r.toNat := by
      unfold ixN
      rw [if_pos r0, if_pos r1]
    simp -dsimp [e44, e45, szn, e1, atI_0, oa]
    refine pick_spec d2 (by simp -dsimp) fun v l3 d3 hv => ?_
    simp -dsimp [ei]
    refine hN _ _ _ d3 (fun d hd => ?_) (by simpa using hl)
    rcases List.mem_or_eq_of_mem_set hd with hd | rfl
    · exact good_pairs hp d hd
    · simp -dsimp only [List.mem_cons, List.not_mem_nil, or_false] at hv
      have el : ∀ xs : List PyData, xs.length ≤ 900 → (∀ x ∈ xs, El x) → GoodS (.tuple xs) := fun xs h1 h2 => ⟨xs, rfl, h1, h2⟩
      have ei : ∀ i : Int, El (.int i) := fun i => .inl ⟨i, rfl⟩
      rcases hv with rfl | rfl | rfl | rfl | rfl | rfl | rfl | rfl <;> refine el _ (by simp -dsimp) ?_ <;> intro x hx <;> simp -dsimp only [List.mem_cons, List.not_mem_nil, or_false] at hx
      · rw [hx]; exact ei _
      · rcases hx with rfl | rfl | rfl <;> exact ei _
      · rcases hx with rfl | rfl <;> exact ei _
      · rcases hx with rfl | rfl <;> exact ei _
      · rcases hx with rfl | rfl
        · exact .inr (.inl rfl)
        · exact ei _
      · rcases hx with rfl | rfl
        · exact ei _
        · exact .inr (.inr ⟨true, rfl⟩)
      · rcases hx with rfl | rfl <;> exact ei _
  · rw [Br_false, wps_nil]
    exact hN _ _ _ h (good_pairs hp) hl
theorem stays_spec {l : List PyData} {m : Int} (h : Dr l) (h0 : 0 ≤ m) (h1 : m ≤ 60) {P : PyData → NSt → Prop} (hP : ∀ ds l', Dr l' → (∀ d ∈ ds, GoodS d) → ds.length ≤ 60 → P (.list ds) [some (.lent l'), some (.val (.int m))]) :
    Wp (D_53 [some (.lent l), some (.val (.int m))]) P := by
  unfold D_53
  rw [wp_run, B53_eq]
  simp -dsimp [e44, e45, szn]
  refine take_spec h (by omega) fun r l1 d1 r0 r1 => ?_
  simp -dsimp
  refine stLoop_spec d1 h0 h1 fun l2 acc day x4 x5 d2 hp hl => ?_
  rw [wps_seq]
  refine stBend_spec d2 hp hl fun l3 ds x6 d3 hg hl3 => ?_
  simp -dsimp
  exact hP ds l3 d3 hg hl3
end Wlaw_k16
end NL
end L2
namespace L2
namespace NL
open PySem PySem.Spec PyProof.Rows
namespace Wlaw_k16
theorem wps_try {i : Nat} {sub : Str → Str → Bool} {tbl known : List Str} {f : NStm} {n : NSt} {Nx : NSt → Prop} {Rt : PyData → NSt → Prop} {Bk Ct : NSt → Prop} (h : WpS (f n) Nx Rt Bk Ct) : WpS (sTryF i sub tbl known f n) Nx Rt Bk Ct := by
  unfold sTryF
  cases e : f n with
  | err x n' => rw [e] at h; exact h.elim
  | _ => rw [e] at h; exact h
theorem wp_pick {gs : List NExp} {fi : NExp} {fs : NSt → R (List AV)} {n : NSt} {P : PyData → NSt → Prop} : Wp (nPick gs fi fs n) P = Wp (fi n) fun d n1 => onI d fun i => 0 ≤ i ∧ onO gs[i.toNat]? fun g => Wp (nCall g fs n1) P := by
  unfold nPick
  rw [wp_bind]
  refine wp_ext fun d n1 => ?_
  cases d with
  | int i =>
    by_cases h : 0 ≤ i
    · simp -dsimp only [onI_int, h, if_pos, true_and]
      cases gs[i.toNat]? <;> rfl
    · simp -dsimp only [onI_int, h, if_neg, not_false_iff, false_and]
      rfl
  | _ => rfl
theorem told0 {x d : PyData} (h : D_39 [some (.val x)] = .ok d [some (.val x)]) : D_55 [some (.val (.int 0)), some (.val x)] = .ok d [some (.val (.int 0)), some (.val x)] := by
  apply wp_eq
  unfold D_55
  rw [wp_run]
  unfold B_55
  refine wps_try ?_
  rw [wps_sRet, wp_pick]
  simp -dsimp [h]
theorem told1 {x d : PyData} (h : D_41 [some (.val x)] = .ok d [some (.val x)]) : D_55 [some (.val (.int 1)), some (.val x)] = .ok d [some (.val (.int 1)), some (.val x)] := by
  apply wp_eq
  unfold D_55
  rw [wp_run]
  unfold B_55
  refine wps_try ?_
  rw [wps_sRet, wp_pick]
  simp -dsimp [h]
/-- drawn papers in a row -/
theorem draftC {fi : NSt → R (List PyData)} {S x2 x3 : Option Sl} {rest : NSt} {l l1 : List PyData} {m : Int} (hd : Dr l1) (hm : m ≤ 60) (hi : fi (S :: some (.own l) :: x2 :: x3 :: none :: rest) = .ok (rgD 0 m) (S :: some (.own l1) :: x2 :: x3 :: none :: rest)) {P : List PyData → NSt → Prop}
    (hP : ∀ ds l', Dr l' → (∀ d ∈ ds, GoodP d) → ds.length = m.toNat → P ds (S :: some (.own l') :: x2 :: x3 :: none :: rest)) : Wp (nLc fi (gN 4) (tYesN) (nCall D_49 (aCons (.o 1) (aNil))) [4] (S :: some (.own l) :: x2 :: x3 :: none :: rest)) P := by
  have sz := sizeBig
  rw [wp_lc, hi, wp_ok]
  refine ⟨rfl, ?_⟩
  refine wp_lcL (fun rem acc n => ∃ l', n = S :: some (.own l') :: x2 :: x3 :: none :: rest ∧ Dr l' ∧ (∀ d ∈ acc, GoodP d) ∧ acc.length + rem.length = m.toNat) ?_ ?_ _ _ _ ⟨l1, rfl, hd, (fun _ h => by cases h), (by rw [rgD_len]; simp -dsimp)⟩
  · rintro d rem acc n ⟨l', rfl, hd', hg, hlen⟩
    have hlen : acc.length + (rem.length + 1) = m.toNat := hlen
    refine ⟨_, rfl, ?_⟩
    simp -dsimp
    refine paper_spec hd' fun xs l2 w d2 q => ?_
    simp -dsimp
    refine ⟨by omega, d2, fun y hy => ?_, by omega⟩
    rcases hy with hy | rfl
    · exact hg y hy
    · exact ⟨xs, w, rfl, q⟩
  · rintro acc n ⟨l', rfl, hd', hg, hlen⟩
    exact hP acc l' hd' hg (by simpa using hlen)
end Wlaw_k16
end NL
end L2
namespace L2
namespace NL
open PySem PySem.Spec PyProof.Rows
namespace Wlaw_k16
def lw1 : NStm := sAsg (nL (nLc (iRg1 (aCons (.e (nCall D_44 (aCons (.o 1) (aCons (.e (nC (.int 11))) (aNil))))) (aNil))) (gN 4) (tYesN) (nCall D_49 (aCons (.o 1) (aNil))) [4])) (gN 3)
def lw2 : NStm := sSetL 5 (nLc (iRg1 (aCons (.e (nCB bLen (aCons (.o 3) (aNil)))) (aNil))) (gN 4) (tYesN) (nCall D_51 (aCons (.o 4) (aCons (.e (nOp2 oIx (.o 3) (.o 4))) (aNil)))) [4])
def lw3 : NStm := sSetL 6 (nLc (iV (nV 5)) (gN 7) (asB (nOp2 oIsNot (.o 7) (.e (nC .none)))) (nV 7) [7])
def lw4 : NStm := sIf (tNot' (asT (.e (nCall (D_46 12) (aCons (.e (nOp2 oAdd (.e (nL (nLstO (aCons (.e (nCall D_55 (aCons (.e (nC (.int 0))) (aCons (.e (nL (nListO (.o 3)))) (aNil))))) (aNil))))) (.e (nL (nLc (iV (nV 3)) (gN 8) (tYesN) (nCall D_25 (aCons (.o 8) (aNil))) [8]))))) (aCons (.e (nOp2 oAdd (.e (nL (nLstO (aCons (.e (nV 6)) (aNil))))) (.e (nL (nLc (iV (nV 5)) (gN 7) (tYesN) (nOp2 oIs (.o 7) (.e (nC .none))) [7]))))) (aNil))))))) (sRet (nC (.bool false))) (sNil)
def lw5 : NStm := sAsg (nCall D_53 (aCons (.o 1) (aCons (.e (nCall D_44 (aCons (.o 1) (aCons (.e (nC (.int 9))) (aNil))))) (aNil)))) (gN 9)
def lw6 : NStm := sAsg (nCall D_54 (aCons (.o 9) (aNil))) (gN 6)
def lw7 : NStm := sIf (tNot' (asT (.e (nCall (D_46 12) (aCons (.e (nL (nLstO (aCons (.e (nCall D_55 (aCons (.e (nC (.int 1))) (aCons (.e (nL (nListO (.o 9)))) (aNil))))) (aCons (.e (nCall D_28 (aCons (.o 9) (aNil)))) (aNil)))))) (aCons (.e (nL (nLstO (aCons (.e (nV 6)) (aCons (.e (nOp2 oEq (.o 6) (.e (nL (nLstO (aNil)))))) (aNil)))))) (aNil))))))) (sRet (nC (.bool false))) (sNil)
def turnB : NStm := sSeq lw1 (sSeq lw2 (sSeq lw3 (sSeq lw4 (sSeq lw5 (sSeq lw6 lw7)))))
theorem rowsC {S o1 x2 : Option Sl} {rest : NSt} {ds : List PyData} {fi : NSt → R (List PyData)} (hl : ds.length ≤ 900) (h : ∀ d ∈ ds, GoodP d) {m : Nat} (hm : m ≤ ds.length) (hi : fi (S :: o1 :: x2 :: some (.val (.list ds)) :: none :: rest) = .ok (rgD 0 m) (S :: o1 :: x2 :: some (.val (.list ds)) :: none :: rest)) :
    nLc fi (gN 4) (tYesN) (nCall D_51 (aCons (.o 4) (aCons (.e (nOp2 oIx (.o 3) (.o 4))) (aNil)))) [4] (S :: o1 :: x2 :: some (.val (.list ds)) :: none :: rest) = .ok (rowsP (ds.take m)) (S :: o1 :: x2 :: some (.val (.list ds)) :: none :: rest) := by
  have := lc_pure (fi := fi) (g := gN 4) (t := tYesN) (f := nCall D_51 (aCons (.o 4) (aCons (.e (nOp2 oIx (.o 3) (.o 4))) (aNil)))) (vs := [4]) (n := S :: o1 :: x2 :: some (.val (.list ds)) :: none :: rest) (ds := rgD 0 m) (fun _ => true)
    (fun x => match x with
      | .int k => fRow k.toNat (ds.getD k.toNat .none)
      | _ => .none) hi rfl (fun x hx => ?_) (szn _ (by rw [rgD_len]; omega)) rfl
  · have hm2 : (ds.take m).length = m := by rw [List.length_take]; omega
    have e := ixMap_range fRow (fun x => match x with
      | .int k => fRow k.toNat (ds.getD k.toNat .none)
      | _ => .none) (ds.take m) fun k x e => ?_
    · rw [hm2] at e
      rw [this, filter_all, e]
      rfl
    · show fRow (k : Int).toNat (ds.getD (k : Int).toNat .none) = fRow k x
      have e2 : ds[k]? = some x := by
        rw [List.getElem?_take] at e
        split at e
        · exact e
        · cases e
      rw [Int.toNat_natCast, List.getD_eq_getElem?_getD, e2]
      rfl
  · obtain ⟨i, rfl, h1, h2⟩ := rgD_mem hx
    have hi : i.toNat < ds.length := by omega
    have e1 : atI ds i = some ds[i.toNat] := by
      rw [atI_at (k := i.toNat) i (by omega), List.getElem?_eq_getElem hi]
    obtain ⟨xs, q, qq⟩ := Wd_ok (h _ (List.getElem_mem hi))
    refine ⟨_, rfl, rfl, fun _ => ?_, rfl⟩
    apply wp_eq
    have hk : ((i.toNat : Nat) : Int) = i := by omega
    have e3 : ds.getD i.toNat .none = .tuple xs := by
      rw [List.getD_eq_getElem?_getD, List.getElem?_eq_getElem hi, q]
      rfl
    rw [q] at qq
    simp -dsimp [e1, q, s51 qq]
    show fault (.int i) (Wd (.tuple xs)) = fRow i.toNat (ds.getD i.toNat .none)
    rw [e3]
    unfold fRow
    rw [hk]
theorem isn (k : PyData) (w : Option Str) : isNoneD (fault k w) = isFine w := by
  cases w <;> rfl
theorem rows_none (ds : List PyData) : (rowsP ds).map (fun r => PyData.bool (isNoneD r)) = ds.map fun d => PyData.bool (isFine (Wd d)) := by
  unfold rowsP
  rw [map_ixMap]
  rw [ixMap_congr (g := fun _ d => PyData.bool (isFine (Wd d))) (fun i x _ => by unfold fRow; rw [isn])]
  exact ixMap_const _ 0 ds
theorem fault_sOk {k : Nat} {i : Int} {w : Option Str} : sOk (k + 3) (fault (.int i) w) := by
  cases w with
  | none => exact True.intro
  | some w => exact ⟨by simp -dsimp, fun x hx => by
      simp -dsimp only [List.mem_cons, List.not_mem_nil, or_false] at hx
      rcases hx with rfl | rfl <;> exact True.intro⟩
theorem due_sOk {ds : List PyData} (hl : ds.length ≤ 900) : sOk 4 (.list (dueP ds)) := by
  refine ⟨?_, fun x hx => ?_⟩
  · unfold dueP
    refine Nat.le_trans (List.length_filter_le _ _) ?_
    unfold rowsP
    rw [ixMap_len]
    omega
  · unfold dueP at hx
    obtain ⟨i, y, _, rfl, _, _⟩ := ixMap_mem fRow (List.mem_filter.mp hx).1
    exact fault_sOk
/-- alike, in a test -/
theorem same_ok {d : PyData} (h : sOk 12 d) {P : PyData → NSt → Prop} (hP : P (.bool true) [some (.val d), some (.val d)]) : Wp (Same 12 [some (.val d), some (.val d)]) P := wp_of (same_refl 12 d h) hP
theorem dueC {a0 a1 a2 a3 a4 a6 : Option Sl} {rest : NSt} {ys : List PyData} (hl : ys.length ≤ 900) : nLc (iV (nV 5)) (gN 7) (asB (nOp2 oIsNot (.o 7) (.e (nC .none)))) (nV 7) [7] (a0 :: a1 :: a2 :: a3 :: a4 :: some (.val (.list ys)) :: a6 :: none :: rest) = .ok (ys.filter notNone) (a0 :: a1 :: a2 :: a3 :: a4 :: some (.val (.list ys)) :: a6 :: none :: rest) := by
  have := lc_pure (fi := iV (nV 5)) (g := gN 7) (t := asB (nOp2 oIsNot (.o 7) (.e (nC .none)))) (f := nV 7) (vs := [7]) (n := a0 :: a1 :: a2 :: a3 :: a4 :: some (.val (.list ys)) :: a6 :: none :: rest) (ds := ys) notNone (fun x => x) rfl rfl (fun x hx => ⟨_, rfl, by cases x <;> rfl, fun _ => rfl, rfl⟩) (szn _ (by omega)) rfl
  rw [this]
  congr 1
  simp -dsimp
theorem noneC {a0 a1 a2 a3 a4 a6 : Option Sl} {rest : NSt} {ys : List PyData} (hl : ys.length ≤ 900) : nLc (iV (nV 5)) (gN 7) (tYesN) (nOp2 oIs (.o 7) (.e (nC .none))) [7] (a0 :: a1 :: a2 :: a3 :: a4 :: some (.val (.list ys)) :: a6 :: none :: rest) = .ok (ys.map fun r => PyData.bool (isNoneD r)) (a0 :: a1 :: a2 :: a3 :: a4 :: some (.val (.list ys)) :: a6 :: none :: rest) := by
  have := lc_pure (fi := iV (nV 5)) (g := gN 7) (t := tYesN) (f := nOp2 oIs (.o 7) (.e (nC .none))) (vs := [7]) (n := a0 :: a1 :: a2 :: a3 :: a4 :: some (.val (.list ys)) :: a6 :: none :: rest) (ds := ys) (fun _ => true) (fun r => PyData.bool (isNoneD r)) rfl rfl (fun x hx => ⟨_, rfl, rfl, fun _ => rfl, rfl⟩) (szn _ (by omega)) rfl
  rw [this, filter_all]
theorem fineC {a0 a1 a2 a4 a5 a6 a7 : Option Sl} {rest : NSt} {ds : List PyData} (hl : ds.length ≤ 900) (h : ∀ d ∈ ds, GoodP d) : nLc (iV (nV 3)) (gN 8) (tYesN) (nCall D_25 (aCons (.o 8) (aNil))) [8] (a0 :: a1 :: a2 :: some (.val (.list ds)) :: a4 :: a5 :: a6 :: a7 :: none :: rest) = .ok (ds.map fun d => PyData.bool (isFine (Wd d))) (a0 :: a1 :: a2 :: some (.val (.list ds)) :: a4 :: a5 :: a6 :: a7 :: none :: rest) := by
  have := lc_pure (fi := iV (nV 3)) (g := gN 8) (t := tYesN) (f := nCall D_25 (aCons (.o 8) (aNil))) (vs := [8]) (n := a0 :: a1 :: a2 :: some (.val (.list ds)) :: a4 :: a5 :: a6 :: a7 :: none :: rest) (ds := ds) (fun _ => true) (fun d => PyData.bool (isFine (Wd d))) rfl rfl (fun x hx => ?_) (szn _ (by omega)) rfl
  · rw [this, filter_all]
  · obtain ⟨xs, rfl, q⟩ := Wd_ok (h x hx)
    refine ⟨_, rfl, rfl, fun _ => ?_, rfl⟩
    apply wp_eq
    simp -dsimp [s25 q]
theorem draftL {S x2 x3 : Option Sl} {rest : NSt} {l1 : List PyData} {m : Int} (hd : Dr l1) (hm : m ≤ 60) {P : List PyData → NSt → Prop}
    (hP : ∀ ds l', Dr l' → (∀ d ∈ ds, GoodP d) → ds.length = m.toNat → P ds (S :: some (.own l') :: x2 :: x3 :: none :: rest)) : Wp (nLcL (gN 4) (tYesN) (nCall D_49 (aCons (.o 1) (aNil))) [4] (rgD 0 m) [] (S :: some (.own l1) :: x2 :: x3 :: none :: rest)) P := by
  have sz := sizeBig
  refine wp_lcL (fun rem acc n => ∃ l', n = S :: some (.own l') :: x2 :: x3 :: none :: rest ∧ Dr l' ∧ (∀ d ∈ acc, GoodP d) ∧ acc.length + rem.length = m.toNat) ?_ ?_ _ _ _ ⟨l1, rfl, hd, (fun _ h => by cases h), (by rw [rgD_len]; simp -dsimp)⟩
  · rintro d rem acc n ⟨l', rfl, hd', hg, hlen⟩
    have hlen : acc.length + (rem.length + 1) = m.toNat := hlen
    refine ⟨_, rfl, ?_⟩
    simp -dsimp
    refine paper_spec hd' fun xs l2 w d2 q => ?_
    simp -dsimp
    refine ⟨by omega, d2, fun y hy => ?_, by omega⟩
    rcases hy with hy | rfl
    · exact hg y hy
    · exact ⟨xs, w, rfl, q⟩
  · rintro acc n ⟨l', rfl, hd', hg, hlen⟩
    exact hP acc l' hd' hg (by simpa using hlen)
theorem part1 {S x2 x3 x5 x6 : Option Sl} {rest : NSt} {l : List PyData} (hd : Dr l) (v3 : Vl x3) (v5 : Vl x5) (v6 : Vl x6) {Nx : NSt → Prop} {Rt : PyData → NSt → Prop} {Bk Ct : NSt → Prop}
    (hN : ∀ l' x3' x5' x6', Dr l' → Vl x3' → Vl x5' → Vl x6' → Nx (S :: some (.own l') :: x2 :: x3' :: none :: x5' :: x6' :: none :: none :: rest)) :
    WpS (sSeq lw1 (sSeq lw2 (sSeq lw3 lw4)) (S :: some (.own l) :: x2 :: x3 :: none :: x5 :: x6 :: none :: none :: rest)) Nx Rt Bk Ct := by
  have sz := sizeBig
  rw [wps_seq]
  unfold lw1
  rw [wps_sAsg, wp_nL, wp_lc]
  simp -dsimp only [wp_iRg1, wp_aCons, wp_oe, wp_call, wp_oo, wp_nC, wp_aNil, List.getElem?_cons_succ, List.getElem?_cons_zero, onSl_own, e44]
  simp -dsimp
  refine take_spec hd (by omega) fun r l1 d1 r0 r1 => ?_
  have er : rg1 [.v (.int r)] = some (rgD 0 r) := rg1_at (by unfold rgOk; rw [Bool.and_eq_true]; exact ⟨decide_eq_true (by omega), decide_eq_true (by omega)⟩)
  simp -dsimp [er]
  refine ⟨rfl, ?_⟩
  refine draftL d1 (by omega) fun ds l2 d2 hg hlen => ?_
  have hl : ds.length ≤ 10 := by omega
  have hr : rgOk (ds.length : Int) = true := rgOk_nat (by omega)
  have c1 : ∀ y6 : Option Sl, nLc (iRg1 (aCons (.e (nCB bLen (aCons (.o 3) (aNil)))) (aNil))) (gN 4) (tYesN) (nCall D_51 (aCons (.o 4) (aCons (.e (nOp2 oIx (.o 3) (.o 4))) (aNil)))) [4] (S :: some (.own l2) :: x2 :: some (.val (.list ds)) :: none :: x5 :: y6 :: none :: none :: rest) = .ok (rowsP ds) (S :: some (.own l2) :: x2 :: some (.val (.list ds)) :: none :: x5 :: y6 :: none :: none :: rest) := fun y6 => by
    have := rowsC (S := S) (o1 := some (.own l2)) (x2 := x2) (rest := x5 :: y6 :: none :: none :: rest) (ds := ds) (fi := iRg1 (aCons (.e (nCB bLen (aCons (.o 3) (aNil)))) (aNil))) (by omega) hg (Nat.le_refl _) (by apply wp_eq; simp -dsimp [hr])
    rw [List.take_length] at this
    exact this
  have e3 : notLent (S :: some (.own l2) :: x2 :: x3 :: none :: x5 :: x6 :: none :: none :: rest) 3 = true := nl_vl (x := x3) rfl v3
  have e5 : notLent (S :: some (.own l2) :: x2 :: some (.val (.list ds)) :: none :: x5 :: x6 :: none :: none :: rest) 5 = true := nl_vl (x := x5) rfl v5
  have e6 : notLent (S :: some (.own l2) :: x2 :: some (.val (.list ds)) :: none :: some (.val (.list (rowsP ds))) :: x6 :: none :: none :: rest) 6 = true := nl_vl (x := x6) rfl v6
  simp -dsimp
  refine ⟨e3, ?_⟩
  show WpS (lw2 (S :: some (.own l2) :: x2 :: some (.val (.list ds)) :: none :: x5 :: x6 :: none :: none :: rest)) _ _ _ _
  unfold lw2
  rw [wps_sSetL, c1, wp_ok]
  refine ⟨e5, wps_sq ?_⟩
  show WpS (lw3 (S :: some (.own l2) :: x2 :: some (.val (.list ds)) :: none :: some (.val (.list (rowsP ds))) :: x6 :: none :: none :: rest)) _ _ _ _
  unfold lw3
  have hlr : (rowsP ds).length ≤ 900 := by unfold rowsP; rw [ixMap_len]; omega
  rw [wps_sSetL, dueC hlr, wp_ok]
  refine ⟨e6, ?_⟩
  show WpS (lw4 (S :: some (.own l2) :: x2 :: some (.val (.list ds)) :: none :: some (.val (.list (rowsP ds))) :: some (.val (.list (dueP ds))) :: none :: none :: rest)) _ _ _ _
  have e39 := s39 (ds := ds) (by omega) hg
  rw [if_neg (by omega), List.nil_append] at e39
  have et := told0 e39
  have ef := fineC (a0 := S) (a1 := some (.own l2)) (a2 := x2) (a4 := none) (a5 := some (.val (.list (rowsP ds)))) (a6 := some (.val (.list (dueP ds)))) (a7 := none) (rest := rest) (ds := ds) (by omega) hg
  have en := noneC (a0 := S) (a1 := some (.own l2)) (a2 := x2) (a3 := some (.val (.list ds))) (a4 := none) (a6 := some (.val (.list (dueP ds)))) (rest := none :: rest) hlr
  rw [rows_none] at en
  have hadd : oAdd (.list [.list (dueP ds)]) (.list (ds.map fun d => PyData.bool (isFine (Wd d)))) = some (.list (.list (dueP ds) :: ds.map fun d => PyData.bool (isFine (Wd d)))) := by
    rw [oAdd_list, if_pos (by simp -dsimp; omega)]
    rfl
  have sok : sOk 12 (.list (.list (dueP ds) :: ds.map fun d => PyData.bool (isFine (Wd d)))) := by
    refine sOk_list (by simp -dsimp; omega) fun x hx => ?_
    rcases List.mem_cons.mp hx with rfl | hx
    · exact (due_sOk (by omega)).mono (by omega)
    · obtain ⟨d, _, rfl⟩ := List.mem_map.mp hx
      exact True.intro
  unfold lw4
  rw [wps_sIf, wp_tNot, wp_asT]
  simp -dsimp [et, ef, en, szn, e46, -oAdd_list, hadd]
  refine same_ok sok ?_
  simp -dsimp
  exact hN _ _ _ _ d2 Vl.val Vl.val Vl.val
end Wlaw_k16
end NL
end L2
namespace L2
namespace NL
open PySem PySem.Spec PyProof.Rows
namespace Wlaw_k16
theorem res_shp {ds : List PyData} (h : ∀ d ∈ ds, GoodS d) : ∀ x ∈ resS ds, Shp 2 x := by
  intro x hx
  unfold resS at hx
  split at hx
  · unfold apartR at hx
    obtain ⟨y, hy, rfl⟩ := List.mem_map.mp hx
    obtain ⟨i, rfl, _, _⟩ := rgD_mem (List.mem_filter.mp hy).1
    exact Shp.tuple fun z hz => by
      simp -dsimp only [List.mem_cons, List.not_mem_nil, or_false] at hz
      rcases hz with rfl | rfl
      · exact ⟨by decide +kernel, by simp -dsimp [PyData.depth]⟩
      · exact Shp.int
  · exact found_shp h x hx
theorem res_sOk {ds : List PyData} (hl : ds.length ≤ 900) (h : ∀ d ∈ ds, GoodS d) : sOk 4 (.list (resS ds)) := by
  have two : ∀ (w : Str) (i : Int), sOk 3 (.tuple [.str w, .int i]) := fun w i => ⟨by simp -dsimp, fun x hx => by
    simp -dsimp only [List.mem_cons, List.not_mem_nil, or_false] at hx
    rcases hx with rfl | rfl <;> exact True.intro⟩
  refine ⟨?_, fun x hx => ?_⟩
  · unfold resS
    split
    · unfold apartR
      rw [List.length_map]
      refine Nat.le_trans (List.length_filter_le _ _) ?_
      rw [rgD_len]
      omega
    · exact Nat.le_trans (found_len hl) (by omega)
  · unfold resS at hx
    split at hx
    · unfold apartR at hx
      obtain ⟨y, hy, rfl⟩ := List.mem_map.mp hx
      obtain ⟨i, rfl, _, _⟩ := rgD_mem (List.mem_filter.mp hy).1
      exact two _ _
    · unfold found0 at hx
      rcases List.mem_append.mp hx with hx | hx
      · unfold manyS at hx
        split at hx
        · simp -dsimp only [List.mem_cons, List.not_mem_nil, or_false] at hx
          subst hx
          exact two _ _
        · cases hx
      · obtain ⟨w, i, rfl, _⟩ := rows_mem h hx
        exact two _ _
/-- told of stays, as the law looks at it -/
theorem pair_same {ds : List PyData} (hl : ds.length ≤ 900) (h : ∀ d ∈ ds, GoodS d) : sOk 12 (.list [.list (resS ds), .bool (resS ds).isEmpty]) := by
  refine sOk_list (by simp -dsimp) fun x hx => ?_
  simp -dsimp only [List.mem_cons, List.not_mem_nil, or_false] at hx
  rcases hx with rfl | rfl
  · exact (res_sOk hl h).mono (by omega)
  · exact True.intro
theorem part2 {S x2 x3 x5 x6 x9 : Option Sl} {rest : NSt} {l : List PyData} (hd : Dr l) (v6 : Vl x6) (v9 : Vl x9) {Nx : NSt → Prop} {Rt : PyData → NSt → Prop} {Bk Ct : NSt → Prop}
    (hN : ∀ l' x6' x9', Dr l' → Vl x6' → Vl x9' → Nx (S :: some (.own l') :: x2 :: x3 :: none :: x5 :: x6' :: none :: none :: x9' :: rest)) :
    WpS (sSeq lw5 (sSeq lw6 lw7) (S :: some (.own l) :: x2 :: x3 :: none :: x5 :: x6 :: none :: none :: x9 :: rest)) Nx Rt Bk Ct := by
  have sz := sizeBig
  rw [wps_seq]
  unfold lw5
  rw [wps_sAsg]
  simp -dsimp only [wp_aCons, wp_oe, wp_call, wp_oo, wp_nC, wp_aNil, List.getElem?_cons_succ, List.getElem?_cons_zero, onSl_own, e44]
  simp -dsimp
  refine take_spec hd (by omega) fun r l1 d1 r0 r1 => ?_
  simp -dsimp
  refine stays_spec d1 r0 (by omega) fun ds l2 d2 hg hl => ?_
  simp -dsimp
  refine ⟨by rcases v9 with rfl | ⟨d, rfl⟩ <;> rfl, ?_⟩
  show WpS (lw6 (S :: some (.own l2) :: x2 :: x3 :: none :: x5 :: x6 :: none :: none :: some (.val (.list ds)) :: rest)) _ _ _ _
  have e54 := s54 (ds := ds) (by omega) hg
  have e41 := told1 (s41 (ds := ds) (by omega) hg)
  have e28 := s28 (ds := ds) (by omega) hg
  have oe := oEq_nil (res_shp hg) (by omega)
  unfold lw6
  rw [wps_sAsg]
  simp -dsimp [e54]
  refine ⟨by rcases v6 with rfl | ⟨d, rfl⟩ <;> rfl, ?_⟩
  show WpS (lw7 (S :: some (.own l2) :: x2 :: x3 :: none :: x5 :: some (.val (.list (resS ds))) :: none :: none :: some (.val (.list ds)) :: rest)) _ _ _ _
  unfold lw7
  rw [wps_sIf, wp_tNot, wp_asT]
  simp -dsimp [e41, e28, oe, szn, e46]
  have hl9 : ds.length ≤ 900 := by omega
  have sk := pair_same hl9 hg
  have sr := same_refl 12 _ sk
  rw [sr, wp_ok]
  simp -dsimp
  exact hN _ _ _ d2 Vl.val Vl.val
end Wlaw_k16
end NL
end L2
namespace L2
namespace NL
open PySem PySem.Spec PyProof.Rows
namespace Wlaw_k16
def lw9 : NStm := sAsg (nCall D_45 (aCons (.o 1) (aCons (.e (nL (nLstO (aCons (.e (nC (.int 40))) (aCons (.e (nC (.int 41))) (aCons (.e (nC (.int 60))) (aNil))))))) (aNil)))) (gN 10)
def lw10 : NStm := sAsg (nOp2 oMul (.e (nL (nLc (iRg1 (aCons (.e (nC (.int 7))) (aNil))) (gN 4) (tYesN) (nCall D_49 (aCons (.o 1) (aNil))) [4]))) (.e (nC (.int 9)))) (gN 3)
def lw11 : NStm := sSetL 5 (nLc (iRg1 (aCons (.o 10) (aNil))) (gN 4) (tYesN) (nCall D_51 (aCons (.o 4) (aCons (.e (nOp2 oIx (.o 3) (.o 4))) (aNil)))) [4])
def lw12 : NStm := sIf (tNot' (asT (.e (nCall (D_46 12) (aCons (.e (nCall D_55 (aCons (.e (nC (.int 0))) (aCons (.e (nSl (.o 3) (pNone) (pSome (nV 10)))) (aNil))))) (aCons (.e (nOp2 oAdd (.e (nOp2 oMul (.e (nL (nLstO (aCons (.e (nTup (aCons (.e (nC (.str "many"))) (aCons (.e (nV 10)) (aNil))))) (aNil))))) (.e (nCB bInt (aCons (.e (nOp2 oGt (.o 10) (.e (nC (.int 40))))) (aNil)))))) (.e (nL (nLc (iV (nV 5)) (gN 7) (asB (nOp2 oIsNot (.o 7) (.e (nC .none)))) (nV 7) [7]))))) (aNil))))))) (sRet (nC (.bool false))) (sNil)
theorem oMul_list {xs : List PyData} {k : Nat} (hk : k ≤ 1000) (h : xs.length * k ≤ sizeLine) : oMul (.list xs) (.int (k : Int)) = some (.list (List.replicate k xs).flatten) := by
  have e : oMul (.list xs) (.int (k : Int)) = if -(2 ^ 63 : Int) ≤ (k : Int) ∧ (k : Int) < 2 ^ 63 ∧ xs.length * (k : Int).toNat ≤ sizeLine then some (.list (List.replicate (k : Int).toNat xs).flatten) else none := id rfl
  rw [e, if_pos ⟨by omega, by omega, by simpa using h⟩]
  simp -dsimp
theorem cutN {ds : List PyData} {m : Nat} : cutP ds none (some (m : Int)) = ds.take m := by
  unfold cutP
  rw [HT.sIx_nat, HT.sIx_none]
  simp -dsimp only [List.drop_zero, Nat.sub_zero]
  by_cases h : m ≤ ds.length
  · rw [Nat.min_eq_left h]
  · rw [Nat.min_eq_right (by omega), List.take_of_length_le (Nat.le_refl _), List.take_of_length_le (by omega)]
theorem part3 {S x2 x3 x5 x6 x9 : Option Sl} {rest : NSt} {l : List PyData} (hd : Dr l) (v3 : Vl x3) (v5 : Vl x5) {Nx : NSt → Prop} {Rt : PyData → NSt → Prop} {Bk Ct : NSt → Prop}
    (hN : ∀ l' x3' x5' x10', Dr l' → Vl x3' → Vl x5' → Vl x10' → Nx (S :: some (.own l') :: x2 :: x3' :: none :: x5' :: x6 :: none :: none :: x9 :: x10' :: rest)) :
    WpS (sSeq lw9 (sSeq lw10 (sSeq lw11 lw12)) (S :: some (.own l) :: x2 :: x3 :: none :: x5 :: x6 :: none :: none :: x9 :: none :: rest)) Nx Rt Bk Ct := by
  have sz := sizeBig
  rw [wps_seq]
  unfold lw9
  rw [wps_sAsg]
  simp -dsimp [e45, szn]
  refine pick_spec hd (by simp -dsimp) fun v l1 d1 hv => ?_
  have hv : ∃ m : Nat, v = .int (m : Int) ∧ 40 ≤ m ∧ m ≤ 60 := by
    simp -dsimp only [List.mem_cons, List.not_mem_nil, or_false] at hv
    rcases hv with rfl | rfl | rfl
    · exact ⟨40, rfl, by omega, by omega⟩
    · exact ⟨41, rfl, by omega, by omega⟩
    · exact ⟨60, rfl, by omega, by omega⟩
  obtain ⟨m, rfl, m0, m1⟩ := hv
  simp -dsimp
  show WpS (lw10 (S :: some (.own l1) :: x2 :: x3 :: none :: x5 :: x6 :: none :: none :: x9 :: some (.val (.int (m : Int))) :: rest)) _ _ _ _
  unfold lw10
  rw [wps_sAsg, wp_op2, wp_oe, wp_nL, wp_lc]
  have er : rg1 [.v (.int 7)] = some (rgD 0 7) := rg1_at (by decide)
  simp -dsimp only [wp_iRg1, wp_aCons, wp_oe, wp_nC, wp_aNil, er, onO_some]
  refine ⟨rfl, ?_⟩
  refine draftL d1 (by omega) fun ds l2 d2 hg hlen => ?_
  have hlen : ds.length = 7 := hlen
  have om : oMul (.list ds) (.int 9) = some (.list (List.replicate 9 ds).flatten) := oMul_list (k := 9) (by omega) (by omega)
  have hl2 : (List.replicate 9 ds).flatten.length = 63 := by
    simp -dsimp [List.length_flatten, hlen]
  have hg2 : ∀ d ∈ (List.replicate 9 ds).flatten, GoodP d := fun d hd => by
    obtain ⟨a, ha, hda⟩ := List.mem_flatten.mp hd
    have := List.eq_of_mem_replicate ha
    subst this
    exact hg d hda
  generalize (List.replicate 9 ds).flatten = dd at om hl2 hg2
  simp -dsimp [om]
  refine ⟨by rcases v3 with rfl | ⟨d, rfl⟩ <;> rfl, ?_⟩
  show WpS (lw11 (S :: some (.own l2) :: x2 :: some (.val (.list dd)) :: none :: x5 :: x6 :: none :: none :: x9 :: some (.val (.int (m : Int))) :: rest)) _ _ _ _
  have hr : rgOk (m : Int) = true := rgOk_nat (by omega)
  have c1 : nLc (iRg1 (aCons (.o 10) (aNil))) (gN 4) (tYesN) (nCall D_51 (aCons (.o 4) (aCons (.e (nOp2 oIx (.o 3) (.o 4))) (aNil)))) [4] (S :: some (.own l2) :: x2 :: some (.val (.list dd)) :: none :: x5 :: x6 :: none :: none :: x9 :: some (.val (.int (m : Int))) :: rest) = .ok (rowsP (dd.take m)) (S :: some (.own l2) :: x2 :: some (.val (.list dd)) :: none :: x5 :: x6 :: none :: none :: x9 :: some (.val (.int (m : Int))) :: rest) :=
    rowsC (S := S) (o1 := some (.own l2)) (x2 := x2) (rest := x5 :: x6 :: none :: none :: x9 :: some (.val (.int (m : Int))) :: rest) (ds := dd) (fi := iRg1 (aCons (.o 10) (aNil))) (m := m) (by omega) hg2 (by omega) (by apply wp_eq; simp -dsimp [hr])
  have hlt : (dd.take m).length = m := by rw [List.length_take]; omega
  have hgt : ∀ d ∈ dd.take m, GoodP d := fun d hd => hg2 d (List.mem_of_mem_take hd)
  have hlr : (rowsP (dd.take m)).length ≤ 900 := by unfold rowsP; rw [ixMap_len]; omega
  unfold lw11
  rw [wps_sSetL, c1, wp_ok]
  refine ⟨by rcases v5 with rfl | ⟨d, rfl⟩ <;> rfl, ?_⟩
  show WpS (lw12 (S :: some (.own l2) :: x2 :: some (.val (.list dd)) :: none :: some (.val (.list (rowsP (dd.take m)))) :: x6 :: none :: none :: x9 :: some (.val (.int (m : Int))) :: rest)) _ _ _ _
  have e39 := told0 (s39 (ds := dd.take m) (by omega) hgt)
  rw [hlt] at e39
  have e7 := dueC (a0 := S) (a1 := some (.own l2)) (a2 := x2) (a3 := some (.val (.list dd))) (a4 := none) (a6 := x6) (rest := none :: x9 :: some (.val (.int (m : Int))) :: rest) hlr
  have hdl : (dueP (dd.take m)).length ≤ 900 := by
    unfold dueP
    exact Nat.le_trans (List.length_filter_le _ _) hlr
  have ed : (rowsP (dd.take m)).filter notNone = dueP (dd.take m) := rfl
  rw [ed] at e7
  have mul : oMul (.list [.tuple [.str "many", .int (m : Int)]]) (.int (if (40 : Int) < m then 1 else 0)) = some (.list (if m > 40 then [.tuple [.str "many", .int (m : Int)]] else [])) := by
    by_cases hm : 40 < m
    · rw [if_pos (by omega), if_pos hm, oMul_1 (by simp -dsimp; omega)]
    · rw [if_neg (by omega), if_neg hm, oMul_0]
  have sok : sOk 12 (.list ((if m > 40 then [.tuple [.str "many", .int (m : Int)]] else []) ++ dueP (dd.take m))) := by
    refine sOk_list ?_ fun x hx => ?_
    · rw [List.length_append]
      split <;> simp -dsimp only [List.length_cons, List.length_nil] <;> omega
    · rcases List.mem_append.mp hx with hx | hx
      · split at hx
        · simp -dsimp only [List.mem_cons, List.not_mem_nil, or_false] at hx
          subst hx
          exact ⟨by simp -dsimp, fun x hx => by
            simp -dsimp only [List.mem_cons, List.not_mem_nil, or_false] at hx
            rcases hx with rfl | rfl <;> exact True.intro⟩
        · cases hx
      · have := (due_sOk (ds := dd.take m) (by omega)).2 x hx
        exact sOk.mono (j := 3) (k := 11) (by omega) this
  have hadd : oAdd (.list (if m > 40 then [.tuple [.str "many", .int (m : Int)]] else [])) (.list (dueP (dd.take m))) = some (.list ((if m > 40 then [.tuple [.str "many", .int (m : Int)]] else []) ++ dueP (dd.take m))) := by
    rw [oAdd_list, if_pos]
    split <;> simp -dsimp only [List.length_cons, List.length_nil] <;> omega
  have sr := same_refl 12 _ sok
  generalize hmp : (if m > 40 then [PyData.tuple [.str "many", .int (m : Int)]] else []) = mp at e39 mul sr hadd
  unfold lw12
  rw [wps_sIf, wp_tNot, wp_asT]
  simp -dsimp [cutN, e39, e7, mul, szn, e46, -oAdd_list, hadd, sr]
  exact hN _ _ _ _ d2 Vl.val Vl.val Vl.val
end Wlaw_k16
end NL
end L2
namespace L2
namespace NL
open PySem PySem.Spec PyProof.Rows
namespace Wlaw_k16
def lw13 : NStm := sAsg (nCall D_45 (aCons (.o 1) (aCons (.e (nL (nLstO (aCons (.e (nC (.int 199))) (aCons (.e (nC (.int 200))) (aCons (.e (nC (.int 201))) (aNil))))))) (aNil)))) (gN 10)
def lw14 : NStm := sSetL 9 (nLc (iRg1 (aCons (.o 10) (aNil))) (gN 4) (tYesN) (nTup (aCons (.e (nOp2 oMul (.e (nC (.int 3))) (.o 4))) (aCons (.e (nOp2 oAdd (.e (nOp2 oMul (.e (nC (.int 3))) (.o 4))) (.e (nC (.int 1))))) (aNil)))) [4])
def lw15 : NStm := sAsg (nOp2 oAdd (.e (nSl (.o 9) (pNone) (pSome (nOp2 oSub (.o 10) (.e (nC (.int 1))))))) (.e (nL (nLstO (aCons (.e (nCall D_45 (aCons (.o 1) (aCons (.e (nL (nLstO (aCons (.e (nTup (aCons (.e (nC (.int 0))) (aCons (.e (nC (.int 1))) (aNil))))) (aCons (.e (nTup (aCons (.e (nC (.int 9))) (aCons (.e (nC (.int 3))) (aNil))))) (aCons (.e (nTup (aCons (.e (nC (.int 1))) (aNil)))) (aCons (.e (nTup (aCons (.e (nOp2 oMul (.e (nC (.int 3))) (.o 10))) (aCons (.e (nOp2 oMul (.e (nC (.int 3))) (.o 10))) (aNil))))) (aNil)))))))) (aNil))))) (aNil)))))) (gN 11)
def lwIn : NStm := sSeq (sAsg (nCall D_54 (aCons (.o 3) (aNil))) (gN 6))
  (sIf (tNot' (asT (.e (nCall (D_46 12) (aCons (.e (nL (nLstO (aCons (.e (nCall D_55 (aCons (.e (nC (.int 1))) (aCons (.o 3) (aNil))))) (aCons (.e (nCall D_28 (aCons (.o 3) (aNil)))) (aNil)))))) (aCons (.e (nL (nLstO (aCons (.e (nV 6)) (aCons (.e (nOp2 oEq (.o 6) (.e (nL (nLstO (aNil)))))) (aNil)))))) (aNil))))))) (sRet (nC (.bool false))) (sNil))
def lw16 : NStm := sFor (iV (nL (nLstO (aCons (.e (nV 9)) (aCons (.e (nV 11)) (aNil)))))) (gN 3)  lwIn
def pr (d : PyData) : PyData := match d with
  | .int k => .tuple [.int (3 * k), .int (3 * k + 1)]
  | _ => .none
theorem in_spec {S o1 x2 x5 x6 : Option Sl} {rest : NSt} {ds : List PyData} (hl : ds.length ≤ 900) (hg : ∀ d ∈ ds, GoodS d) (v6 : Vl x6) {Nx : NSt → Prop} {Rt : PyData → NSt → Prop} {Bk Ct : NSt → Prop}
    (hN : ∀ x6', Vl x6' → Nx (S :: o1 :: x2 :: some (.val (.list ds)) :: none :: x5 :: x6' :: rest)) : WpS (lwIn (S :: o1 :: x2 :: some (.val (.list ds)) :: none :: x5 :: x6 :: rest)) Nx Rt Bk Ct := by
  have e54 := s54 hl hg
  have e41 := told1 (s41 hl hg)
  have e28 := s28 hl hg
  have oe := oEq_nil (res_shp hg) (by omega)
  have sr := same_refl 12 _ (pair_same hl hg)
  unfold lwIn
  rw [wps_seq, wps_sAsg]
  simp -dsimp [e54]
  refine ⟨by rcases v6 with rfl | ⟨d, rfl⟩ <;> rfl, ?_⟩
  simp -dsimp [e41, e28, oe, szn, e46, sr]
  exact hN _ Vl.val
theorem part4 {S x2 x3 x5 x6 x9 x10 : Option Sl} {rest : NSt} {l : List PyData} (hd : Dr l) (v3 : Vl x3) (v6 : Vl x6) (v9 : Vl x9) (v10 : Vl x10) {Nx : NSt → Prop} {Rt : PyData → NSt → Prop} {Bk Ct : NSt → Prop}
    (hN : ∀ l' x3' x6' x9' x10' x11', Nx (S :: some (.own l') :: x2 :: x3' :: none :: x5 :: x6' :: none :: none :: x9' :: x10' :: x11' :: rest)) :
    WpS (sSeq lw13 (sSeq lw14 (sSeq lw15 lw16)) (S :: some (.own l) :: x2 :: x3 :: none :: x5 :: x6 :: none :: none :: x9 :: x10 :: none :: rest)) Nx Rt Bk Ct := by
  have sz := sizeBig
  rw [wps_seq]
  unfold lw13
  rw [wps_sAsg]
  simp -dsimp [e45, szn]
  refine pick_spec hd (by simp -dsimp) fun v l1 d1 hv => ?_
  have hv : ∃ m : Nat, v = .int (m : Int) ∧ 199 ≤ m ∧ m ≤ 201 := by
    simp -dsimp only [List.mem_cons, List.not_mem_nil, or_false] at hv
    rcases hv with rfl | rfl | rfl
    · exact ⟨199, rfl, by omega, by omega⟩
    · exact ⟨200, rfl, by omega, by omega⟩
    · exact ⟨201, rfl, by omega, by omega⟩
  obtain ⟨m, rfl, m0, m1⟩ := hv
  simp -dsimp
  refine ⟨by rcases v10 with rfl | ⟨d, rfl⟩ <;> rfl, ?_⟩
  show WpS (lw14 (S :: some (.own l1) :: x2 :: x3 :: none :: x5 :: x6 :: none :: none :: x9 :: some (.val (.int (m : Int))) :: none :: rest)) _ _ _ _
  have hr : rgOk (m : Int) = true := rgOk_nat (by omega)
  have m3 : ∀ b : Int, oMul (.int 3) (.int b) = some (.int (3 * b)) := fun b => oMul_small ⟨by omega, by omega⟩
  have c1 := lc_pure (fi := iRg1 (aCons (.o 10) (aNil))) (g := gN 4) (t := tYesN) (f := nTup (aCons (.e (nOp2 oMul (.e (nC (.int 3))) (.o 4))) (aCons (.e (nOp2 oAdd (.e (nOp2 oMul (.e (nC (.int 3))) (.o 4))) (.e (nC (.int 1))))) (aNil)))) (vs := [4]) (n := (S :: some (.own l1) :: x2 :: x3 :: none :: x5 :: x6 :: none :: none :: x9 :: some (.val (.int (m : Int))) :: none :: rest)) (ds := rgD 0 m) (fun _ => true) pr (by apply wp_eq; simp -dsimp [hr]) rfl (fun x hx => by
    obtain ⟨i, rfl, _, _⟩ := rgD_mem hx
    refine ⟨_, rfl, rfl, fun _ => ?_, rfl⟩
    apply wp_eq
    simp -dsimp [m3, szn, pr]) (szn _ (by rw [rgD_len]; omega)) rfl
  rw [filter_all] at c1
  have hP : Pairs ((rgD 0 m).map pr) := fun d hd => by
    obtain ⟨x, hx, rfl⟩ := List.mem_map.mp hd
    obtain ⟨i, rfl, _, _⟩ := rgD_mem hx
    exact ⟨_, _, rfl⟩
  have hlen : ((rgD 0 m).map pr).length = m := by rw [List.length_map, rgD_len]; omega
  unfold lw14
  rw [wps_sSetL, c1, wp_ok]
  generalize (rgD 0 m).map pr = ss at hP hlen
  refine ⟨by rcases v9 with rfl | ⟨d, rfl⟩ <;> rfl, wps_sq ?_⟩
  show WpS (lw15 (S :: some (.own l1) :: x2 :: x3 :: none :: x5 :: x6 :: none :: none :: some (.val (.list ss)) :: some (.val (.int (m : Int))) :: none :: rest)) _ _ _ _
  have hc : cutP ss none (some ((m : Int) - 1)) = ss.take (m - 1) := by
    rw [show (m : Int) - 1 = ((m - 1 : Nat) : Int) by omega]
    exact cutN
  unfold lw15
  rw [wps_sAsg]
  simp -dsimp [e45, szn, hc, m3]
  refine pick_spec d1 (by simp -dsimp) fun v l2 d2 hv => ?_
  have hv : GoodS v := by
    have el : ∀ xs : List PyData, xs.length ≤ 900 → (∀ x ∈ xs, ∃ i : Int, x = .int i) → GoodS (.tuple xs) := fun xs h1 h2 => ⟨xs, rfl, h1, fun x hx => .inl (h2 x hx)⟩
    simp -dsimp only [List.mem_cons, List.not_mem_nil, or_false] at hv
    rcases hv with rfl | rfl | rfl | rfl <;> refine el _ (by simp -dsimp) ?_ <;> intro x hx <;> simp -dsimp only [List.mem_cons, List.not_mem_nil, or_false] at hx
    · rcases hx with rfl | rfl <;> exact ⟨_, rfl⟩
    · rcases hx with rfl | rfl <;> exact ⟨_, rfl⟩
    · rw [hx]; exact ⟨_, rfl⟩
    · rcases hx with rfl | rfl <;> exact ⟨_, rfl⟩
  have htk : (ss.take (m - 1)).length = m - 1 := by rw [List.length_take]; omega
  have hadd : oAdd (.list (ss.take (m - 1))) (.list [v]) = some (.list (ss.take (m - 1) ++ [v])) := by
    rw [oAdd_list, if_pos]
    rw [htk]
    simp -dsimp only [List.length_cons, List.length_nil]
    omega
  have hg2 : ∀ d ∈ ss.take (m - 1) ++ [v], GoodS d := fun d hd => by
    rcases List.mem_append.mp hd with hd | hd
    · exact good_pairs hP d (List.mem_of_mem_take hd)
    · simp -dsimp only [List.mem_cons, List.not_mem_nil, or_false] at hd
      rw [hd]
      exact hv
  have hl2 : (ss.take (m - 1) ++ [v]).length ≤ 900 := by
    rw [List.length_append, htk]
    simp -dsimp only [List.length_cons, List.length_nil]
    omega
  simp -dsimp [-oAdd_list, hadd]
  generalize ss.take (m - 1) ++ [v] = nr at hg2 hl2
  unfold lw16
  rw [wps_sFor]
  simp -dsimp [szn]
  refine wps_forL (fun rem n => ∃ x3' x6', n = (S :: some (.own l2) :: x2 :: x3' :: none :: x5 :: x6' :: none :: none :: some (.val (.list ss)) :: some (.val (.int (m : Int))) :: some (.val (.list nr)) :: rest) ∧ Vl x3' ∧ Vl x6' ∧ ∀ d ∈ rem, ∃ ds : List PyData, d = .list ds ∧ ds.length ≤ 900 ∧ ∀ y ∈ ds, GoodS y) ?_ ?_ _ _ ⟨x3, x6, rfl, v3, v6, fun d hd => ?_⟩
  · rintro d rem n ⟨y3, y6, rfl, w3, w6, hm⟩
    obtain ⟨ds, rfl, hl, hg⟩ := hm d List.mem_cons_self
    refine ⟨_, gN_vl (x := y3) rfl w3, ?_⟩
    exact in_spec hl hg w6 fun x6' v6' => ⟨_, x6', rfl, Vl.val, v6', fun e he => hm e (List.mem_cons_of_mem _ he)⟩
  · rintro n ⟨y3, y6, rfl, w3, w6, hm⟩
    exact hN _ _ _ _ _ _
  · simp -dsimp only [List.mem_cons, List.not_mem_nil, or_false] at hd
    rcases hd with rfl | rfl
    · exact ⟨ss, rfl, by omega, good_pairs hP⟩
    · exact ⟨nr, rfl, hl2, hg2⟩
end Wlaw_k16
end NL
end L2
namespace L2
namespace NL
open PySem PySem.Spec PyProof.Rows
namespace Wlaw_k16
def lw18 : NStm := sAsg (nL (nLstO (aCons (.e (nC .none)) (aCons (.e (nTup (aNil))) (aCons (.e (nTup (aCons (.e (nTup (aCons (.e (nC (.int 0))) (aCons (.e (nC (.int 1))) (aNil))))) (aNil)))) (aCons (.e (nL (nLstO (aCons (.e (nL (nLstO (aCons (.e (nC (.int 0))) (aCons (.e (nC (.int 1))) (aNil)))))) (aNil))))) (aCons (.e (nL (nLstO (aCons (.e (nTup (aCons (.e (nC (.int 0))) (aCons (.e (nC (.int 1))) (aNil))))) (aCons (.e (nC .none)) (aNil)))))) (aCons (.e (nC (.str "text"))) (aCons (.e (nL (nLstO (aCons (.e (nC (.int 5))) (aNil))))) (aCons (.e ((fun m => .ok (.dict []) m))) (aNil))))))))))) (gN 12)
def lw19 : NStm := sIf (tNot' (asT (.e (nCall (D_46 12) (aCons (.e (nOp2 oAdd (.e (nL (nLc (iV (nV 12)) (gN 13) (tYesN) (nCall D_55 (aCons (.e (nC (.int 0))) (aCons (.o 13) (aNil)))) [13]))) (.e (nL (nLc (iV (nV 12)) (gN 13) (tYesN) (nCall D_55 (aCons (.e (nC (.int 1))) (aCons (.o 13) (aNil)))) [13]))))) (aCons (.e (nOp2 oMul (.e (nL (nLstO (aCons (.e (nL (nLstO (aCons (.e (nC (.bool true))) (aCons (.e (nC (.bool false))) (aCons (.e (nC (.bool false))) (aCons (.e (nC (.bool false))) (aCons (.e (nC (.bool false))) (aNil))))))))) (aNil))))) (.e (nC (.int 16))))) (aNil))))))) (sRet (nC (.bool false))) (sNil)
def lw20 : NStm := sAsg (nL (nLstO (aCons (.e (nCall D_39 (aCons (.e (nL (nLstO (aCons (.e (nTup (aCons (.e (nC (.str "pass"))) (aCons (.e (nC (.str "ann"))) (aCons (.e (nC (.str "elba"))) (aCons (.e (nC (.int 5))) (aCons (.e (nC (.int 1))) (aCons (.e (nC .none)) (aNil))))))))) (aCons (.e (nTup (aCons (.e (nC (.str "pas"))) (aCons (.e (nC (.str "ann"))) (aCons (.e (nC (.str "elba"))) (aCons (.e (nC (.int 0))) (aCons (.e (nC (.int 1))) (aCons (.e (nC .none)) (aNil))))))))) (aNil)))))) (aNil)))) (aCons (.e (nCall D_41 (aCons (.e (nL (nLstO (aCons (.e (nTup (aCons (.e (nC (.int 0))) (aCons (.e (nC (.int 2))) (aNil))))) (aCons (.e (nTup (aCons (.e (nC (.int 2))) (aCons (.e (nC (.int 3))) (aNil))))) (aNil)))))) (aNil)))) (aCons (.e (nCall D_41 (aCons (.e (nL (nLstO (aCons (.e (nTup (aCons (.e (nC (.int 3))) (aCons (.e (nC (.int 2))) (aNil))))) (aNil))))) (aNil)))) (aNil)))))) (gN 14)
def lw21 : NStm := sAsg (nOp2 oAdd (.o 14) (.e (nL (nLstO (aCons (.e (nCall D_39 (aCons (.e (nL (nLstO (aNil)))) (aNil)))) (aCons (.e (nCall D_41 (aCons (.e (nL (nLstO (aNil)))) (aNil)))) (aCons (.e (nCall D_41 (aCons (.e (nL (nLstO (aCons (.e (nTup (aCons (.e (nC (.int 3))) (aCons (.e (nC (.int 2))) (aNil))))) (aCons (.e (nTup (aCons (.e (nC (.int 0))) (aCons (.e (nC (.int 1))) (aNil))))) (aNil)))))) (aNil)))) (aNil)))))))) (gN 14)
def lw22 : NStm := sRet (nCall (D_46 12) (aCons (.o 14) (aCons (.e (nL (nLstO (aCons (.e (nL (nLstO (aCons (.e (nTup (aCons (.e (nC (.str "order"))) (aCons (.e (nC (.int 0))) (aNil))))) (aCons (.e (nTup (aCons (.e (nC (.str "kind"))) (aCons (.e (nC (.int 1))) (aNil))))) (aNil)))))) (aCons (.e (nL (nLstO (aCons (.e (nTup (aCons (.e (nC (.str "apart"))) (aCons (.e (nC (.int 1))) (aNil))))) (aNil))))) (aCons (.e (nL (nLstO (aCons (.e (nTup (aCons (.e (nC (.str "order"))) (aCons (.e (nC (.int 0))) (aNil))))) (aNil))))) (aCons (.e (nL (nLstO (aNil)))) (aCons (.e (nL (nLstO (aNil)))) (aCons (.e (nL (nLstO (aCons (.e (nTup (aCons (.e (nC (.str "order"))) (aCons (.e (nC (.int 0))) (aNil))))) (aNil))))) (aNil)))))))))) (aNil))))
theorem B56_eq : B_56 = sSeq (sOwn 1 (nCallO D_43 (aCons (.o 0) (aNil)))) (sSeq (sFor (iRg1 (aCons (.e (nC (.int 8))) (aNil))) (gN 2) turnB)
  (sSeq lw9 (sSeq lw10 (sSeq lw11 (sSeq lw12 (sSeq lw13 (sSeq lw14 (sSeq lw15 (sSeq lw16 (sSeq lw18 (sSeq lw19 (sSeq lw20 (sSeq lw21 lw22))))))))))))) := rfl
def flg : PyData := .list [.bool true, .bool false, .bool false, .bool false, .bool false]
def odds : List PyData := [.none, .tuple [], .tuple [.tuple [.int 0, .int 1]], .list [.list [.int 0, .int 1]], .list [.tuple [.int 0, .int 1], .none], .str "text", .list [.int 5], .dict []]
theorem odd0 : ∀ x ∈ odds, D_55 [some (.val (.int 0)), some (.val x)] = .ok flg [some (.val (.int 0)), some (.val x)] := by
  unfold odds
  simp -dsimp only [List.forall_mem_cons]
  exact ⟨by kernel_rfl, by kernel_rfl, by kernel_rfl, by kernel_rfl, by kernel_rfl, by kernel_rfl, by kernel_rfl, by kernel_rfl, fun _ h => by cases h⟩
theorem odd1 : ∀ x ∈ odds, D_55 [some (.val (.int 1)), some (.val x)] = .ok flg [some (.val (.int 1)), some (.val x)] := by
  unfold odds
  simp -dsimp only [List.forall_mem_cons]
  exact ⟨by kernel_rfl, by kernel_rfl, by kernel_rfl, by kernel_rfl, by kernel_rfl, by kernel_rfl, by kernel_rfl, by kernel_rfl, fun _ h => by cases h⟩
theorem oddC {k : Int} (h : ∀ x ∈ odds, D_55 [some (.val (.int k)), some (.val x)] = .ok flg [some (.val (.int k)), some (.val x)]) {a0 a1 a2 a3 a4 a5 a6 a7 a8 a9 a10 a11 : Option Sl} {rest : NSt} :
    nLc (iV (nV 12)) (gN 13) (tYesN) (nCall D_55 (aCons (.e (nC (.int k))) (aCons (.o 13) (aNil)))) [13] (a0 :: a1 :: a2 :: a3 :: a4 :: a5 :: a6 :: a7 :: a8 :: a9 :: a10 :: a11 :: some (.val (.list odds)) :: none :: rest) = .ok (List.replicate 8 flg) (a0 :: a1 :: a2 :: a3 :: a4 :: a5 :: a6 :: a7 :: a8 :: a9 :: a10 :: a11 :: some (.val (.list odds)) :: none :: rest) := by
  have := lc_pure (fi := iV (nV 12)) (g := gN 13) (t := tYesN) (f := nCall D_55 (aCons (.e (nC (.int k))) (aCons (.o 13) (aNil)))) (vs := [13]) (n := (a0 :: a1 :: a2 :: a3 :: a4 :: a5 :: a6 :: a7 :: a8 :: a9 :: a10 :: a11 :: some (.val (.list odds)) :: none :: rest)) (ds := odds) (fun _ => true) (fun _ => flg) (by apply wp_eq; simp -dsimp) rfl (fun x hx => ?_) (szn _ (by simp -dsimp [odds])) rfl
  · rw [this, filter_all, show odds.map (fun _ => flg) = List.replicate 8 flg from rfl]
  · refine ⟨_, rfl, rfl, fun _ => ?_, rfl⟩
    apply wp_eq
    simp -dsimp [h x hx]
def g39a : PyData := .list [.tuple [.str "pass", .str "ann", .str "elba", .int 5, .int 1, .none], .tuple [.str "pas", .str "ann", .str "elba", .int 0, .int 1, .none]]
theorem gt1 : D_39 [some (.val g39a)] = .ok (.list [.tuple [.str "order", .int 0], .tuple [.str "kind", .int 1]]) [some (.val g39a)] := by kernel_rfl
def g41a : PyData := .list [.tuple [.int 0, .int 2], .tuple [.int 2, .int 3]]
theorem gt2 : D_41 [some (.val g41a)] = .ok (.list [.tuple [.str "apart", .int 1]]) [some (.val g41a)] := by kernel_rfl
def g41b : PyData := .list [.tuple [.int 3, .int 2]]
theorem gt3 : D_41 [some (.val g41b)] = .ok (.list [.tuple [.str "order", .int 0]]) [some (.val g41b)] := by kernel_rfl
theorem gt4 : D_39 [some (.val (.list []))] = .ok (.list []) [some (.val (.list []))] := by kernel_rfl
theorem gt5 : D_41 [some (.val (.list []))] = .ok (.list []) [some (.val (.list []))] := by kernel_rfl
def g41c : PyData := .list [.tuple [.int 3, .int 2], .tuple [.int 0, .int 1]]
theorem gt6 : D_41 [some (.val g41c)] = .ok (.list [.tuple [.str "order", .int 0]]) [some (.val g41c)] := by kernel_rfl
end Wlaw_k16
end NL
end L2
namespace L2
namespace NL
open PySem PySem.Spec PyProof.Rows
namespace Wlaw_k16
def gotD : PyData := .list [.list [.tuple [.str "order", .int 0], .tuple [.str "kind", .int 1]], .list [.tuple [.str "apart", .int 1]], .list [.tuple [.str "order", .int 0]]]
def gotE : PyData := .list [.list [.tuple [.str "order", .int 0], .tuple [.str "kind", .int 1]], .list [.tuple [.str "apart", .int 1]], .list [.tuple [.str "order", .int 0]], .list [], .list [], .list [.tuple [.str "order", .int 0]]]
section
variable (a0 a1 a2 a3 a4 a5 a6 a7 a8 a9 a10 a11 : Option Sl)
theorem r18 : lw18 [a0, a1, a2, a3, a4, a5, a6, a7, a8, a9, a10, a11, none, none, none] = .nx [a0, a1, a2, a3, a4, a5, a6, a7, a8, a9, a10, a11, some (.val (.list odds)), none, none] := by kernel_rfl
theorem r19 : lw19 [a0, a1, a2, a3, a4, a5, a6, a7, a8, a9, a10, a11, some (.val (.list odds)), none, none] = .nx [a0, a1, a2, a3, a4, a5, a6, a7, a8, a9, a10, a11, some (.val (.list odds)), none, none] := by kernel_rfl
theorem r20 : lw20 [a0, a1, a2, a3, a4, a5, a6, a7, a8, a9, a10, a11, some (.val (.list odds)), none, none] = .nx [a0, a1, a2, a3, a4, a5, a6, a7, a8, a9, a10, a11, some (.val (.list odds)), none, some (.val gotD)] := by kernel_rfl
theorem r21 : lw21 [a0, a1, a2, a3, a4, a5, a6, a7, a8, a9, a10, a11, some (.val (.list odds)), none, some (.val gotD)] = .nx [a0, a1, a2, a3, a4, a5, a6, a7, a8, a9, a10, a11, some (.val (.list odds)), none, some (.val gotE)] := by kernel_rfl
theorem r22 : lw22 [a0, a1, a2, a3, a4, a5, a6, a7, a8, a9, a10, a11, some (.val (.list odds)), none, some (.val gotE)] = .ret (.bool true) [a0, a1, a2, a3, a4, a5, a6, a7, a8, a9, a10, a11, some (.val (.list odds)), none, some (.val gotE)] := by kernel_rfl
end
end Wlaw_k16
end NL
end L2
namespace L2
namespace NL
open PySem PySem.Spec PyProof.Rows
theorem sSeq_assoc {a b c : NStm} : sSeq (sSeq a b) c = sSeq a (sSeq b c) := by
  funext n
  unfold sSeq
  cases a n <;> rfl
theorem wps_cut4 {a b c d e : NStm} {n : NSt} {Nx : NSt → Prop} {Rt : PyData → NSt → Prop} {Bk Ct : NSt → Prop} (h : WpS (sSeq a (sSeq b (sSeq c d)) n) (fun n' => WpS (e n') Nx Rt Bk Ct) Rt Bk Ct) : WpS (sSeq a (sSeq b (sSeq c (sSeq d e))) n) Nx Rt Bk Ct := by
  rw [show sSeq a (sSeq b (sSeq c (sSeq d e))) = sSeq (sSeq a (sSeq b (sSeq c d))) e by simp only [sSeq_assoc], wps_seq]
  exact h
theorem seq_nx {f g : NStm} {n m : NSt} (h : f n = .nx m) : sSeq f g n = g m := by
  unfold sSeq
  rw [h]
  rfl
theorem wps_of_ret {r : NR} {d : PyData} {m : NSt} {Nx : NSt → Prop} {Rt : PyData → NSt → Prop} {Bk Ct : NSt → Prop} (h : r = .ret d m) (hr : Rt d m) : WpS r Nx Rt Bk Ct := by
  rw [h]
  exact hr
namespace Wlaw_k16
theorem part5 (a0 a1 a2 a3 a4 a5 a6 a7 a8 a9 a10 a11 : Option Sl) : sSeq lw18 (sSeq lw19 (sSeq lw20 (sSeq lw21 lw22))) [a0, a1, a2, a3, a4, a5, a6, a7, a8, a9, a10, a11, none, none, none] = .ret (.bool true) [a0, a1, a2, a3, a4, a5, a6, a7, a8, a9, a10, a11, some (.val (.list odds)), none, some (.val gotE)] :=
  (seq_nx (r18 ..)).trans ((seq_nx (r19 ..)).trans ((seq_nx (r20 ..)).trans ((seq_nx (r21 ..)).trans (r22 ..))))
theorem turn_spec {S x2 x3 x5 x6 x9 : Option Sl} {rest : NSt} {l : List PyData} (hd : Dr l) (v3 : Vl x3) (v5 : Vl x5) (v6 : Vl x6) (v9 : Vl x9) {Nx : NSt → Prop} {Rt : PyData → NSt → Prop} {Bk Ct : NSt → Prop}
    (hN : ∀ l' x3' x5' x6' x9', Dr l' → Vl x3' → Vl x5' → Vl x6' → Vl x9' → Nx (S :: some (.own l') :: x2 :: x3' :: none :: x5' :: x6' :: none :: none :: x9' :: rest)) :
    WpS (turnB (S :: some (.own l) :: x2 :: x3 :: none :: x5 :: x6 :: none :: none :: x9 :: rest)) Nx Rt Bk Ct := by
  unfold turnB
  refine wps_cut4 (part1 hd v3 v5 v6 fun l' x3' x5' x6' d' w3 w5 w6 => ?_)
  exact part2 d' w6 v9 fun l2 x6'' x9' d2 w6' w9' => hN l2 x3' x5' x6'' x9' d2 w3 w5 w6' w9'
theorem rg8 : rgOk 8 = true := by decide
def bodyL : NStm := sFor (iRg1 (aCons (.e (nC (.int 8))) (aNil))) (gN 2) turnB
theorem loop_spec {S : Option Sl} {l : List PyData} (hd : Dr l) {Nx : NSt → Prop} {Rt : PyData → NSt → Prop} {Bk Ct : NSt → Prop}
    (hN : ∀ l' x2 x3 x5 x6 x9, Dr l' → Vl x2 → Vl x3 → Vl x5 → Vl x6 → Vl x9 → Nx [S, some (.own l'), x2, x3, none, x5, x6, none, none, x9, none, none, none, none, none]) :
    WpS (bodyL [S, some (.own l), none, none, none, none, none, none, none, none, none, none, none, none, none]) Nx Rt Bk Ct := by
  unfold bodyL
  rw [wps_for]
  simp -dsimp only [wp_iRg1, wp_aCons, wp_oe, wp_nC, wp_aNil, rg1_at rg8, onO_some]
  refine wps_forL (fun _ n => ∃ l' x2 x3 x5 x6 x9, n = [S, some (.own l'), x2, x3, none, x5, x6, none, none, x9, none, none, none, none, none] ∧ Dr l' ∧ Vl x2 ∧ Vl x3 ∧ Vl x5 ∧ Vl x6 ∧ Vl x9) ?_ ?_ _ _ ⟨l, none, none, none, none, none, rfl, hd, Vl.none, Vl.none, Vl.none, Vl.none, Vl.none⟩
  · rintro d ds n ⟨l', x2, x3, x5, x6, x9, rfl, d1, v2, v3, v5, v6, v9⟩
    refine ⟨_, gN_vl (x := x2) rfl v2, ?_⟩
    exact turn_spec d1 v3 v5 v6 v9 fun l2 y3 y5 y6 y9 d2 w3 w5 w6 w9 => ⟨l2, _, y3, y5, y6, y9, rfl, d2, Vl.val, w3, w5, w6, w9⟩
  · rintro n ⟨l', x2, x3, x5, x6, x9, rfl, d1, v2, v3, v5, v6, v9⟩
    exact hN l' x2 x3 x5 x6 x9 d1 v2 v3 v5 v6 v9
def tailL : NStm := sSeq lw18 (sSeq lw19 (sSeq lw20 (sSeq lw21 lw22)))
def tail4 : NStm := sSeq lw13 (sSeq lw14 (sSeq lw15 (sSeq lw16 tailL)))
theorem tail5_spec {P0 : NStm} (hP : P0 = tailL) {a0 a1 a2 a3 a4 a5 a6 a7 a8 a9 a10 a11 : Option Sl} {Nx : NSt → Prop} {Rt : PyData → NSt → Prop} {Bk Ct : NSt → Prop} (hR : ∀ n, Rt (.bool true) n) :
    WpS (P0 [a0, a1, a2, a3, a4, a5, a6, a7, a8, a9, a10, a11, none, none, none]) Nx Rt Bk Ct := by
  subst hP
  unfold tailL
  rw [part5]
  exact hR _
theorem tail4_spec {P0 : NStm} (hP : P0 = tail4) {S x2 x3 x5 x6 x9 x10 : Option Sl} {l : List PyData} (hd : Dr l) (v3 : Vl x3) (v6 : Vl x6) (v9 : Vl x9) (v10 : Vl x10) {Nx : NSt → Prop} {Rt : PyData → NSt → Prop} {Bk Ct : NSt → Prop} (hR : ∀ n, Rt (.bool true) n) :
    WpS (P0 [S, some (.own l), x2, x3, none, x5, x6, none, none, x9, x10, none, none, none, none]) Nx Rt Bk Ct := by
  subst hP
  unfold tail4
  generalize h : tailL = T5
  refine wps_cut4 (part4 (x2 := x2) (x3 := x3) (x5 := x5) (x6 := x6) (x9 := x9) (x10 := x10) (rest := [none, none, none]) hd v3 v6 v9 v10 fun l2 y3 y6 y9 y10 y11 => ?_)
  exact tail5_spec h.symm hR
theorem rest_spec {P0 : NStm} (hP : P0 = sSeq lw9 (sSeq lw10 (sSeq lw11 (sSeq lw12 tail4)))) {S x2 x3 x5 x6 x9 : Option Sl} {l : List PyData} (hd : Dr l) (v2 : Vl x2) (v3 : Vl x3) (v5 : Vl x5) (v6 : Vl x6) (v9 : Vl x9) {Nx : NSt → Prop} {Rt : PyData → NSt → Prop} {Bk Ct : NSt → Prop} (hR : ∀ n, Rt (.bool true) n) :
    WpS (P0 [S, some (.own l), x2, x3, none, x5, x6, none, none, x9, none, none, none, none, none]) Nx Rt Bk Ct := by
  subst hP
  generalize h : tail4 = T4
  refine wps_cut4 (part3 (x2 := x2) (x6 := x6) (x9 := x9) (rest := [none, none, none, none]) hd v3 v5 fun l' x3' x5' x10' d' w3 w5 w10 => ?_)
  exact tail4_spec h.symm d' w3 v6 v9 w10 hR
theorem wp_ex {α : Type} {r : R α} {a : α} (h : Wp r fun d _ => d = a) : ∃ n', r = .ok a n' := by
  cases r with
  | ok d n => exact ⟨n, by rw [show d = a from h]⟩
  | err x n => exact h.elim
  | bad => exact h.elim
theorem top_spec {ns : List Int} (hl : ns.length ≤ 63) {L R : NStm} {Nx : NSt → Prop} {Rt : PyData → NSt → Prop} {Bk Ct : NSt → Prop}
    (hL : ∀ (l : List PyData), Dr l → WpS (L [some (.scr (ns.map .int)), some (.own l), none, none, none, none, none, none, none, none, none, none, none, none, none]) (fun n' => WpS (R n') Nx Rt Bk Ct) Rt Bk Ct) :
    WpS (sSeq (sOwn 1 (nCallO Draws (aCons (.o 0) (aNil)))) (sSeq L R) [some (.scr (ns.map .int)), none, none, none, none, none, none, none, none, none, none, none, none, none, none]) Nx Rt Bk Ct := by
  rw [wps_seq, wps_sOwn]
  simp -dsimp only [wp_callO, wp_aCons, wp_aNil, wp_oo]
  simp -dsimp
  refine draws_spec ns hl fun l hd => ?_
  exact ⟨rfl, wps_sq (hL l hd)⟩
theorem law_true (ns : List Int) (hl : ns.length ≤ 63) : ∃ n', D_56 [some (.scr (ns.map .int))] = .ok (.bool true) n' := by
  refine wp_ex ?_
  unfold D_56
  rw [wp_run, B56_eq, e43]
  refine top_spec hl fun l hd => ?_
  refine loop_spec hd fun l' x2 x3 x5 x6 x9 d' v2 v3 v5 v6 v9 => ?_
  exact rest_spec rfl d' v2 v3 v5 v6 v9 fun _ => rfl
end Wlaw_k16
end NL
end L2
open PySem PySem.W PySem.Calls PyProof.Rows
theorem PySem.Challenge.cw_borderward_k16_whole_faults_of_drafts_holds : PySem.Challenge.rw_borderward_k16_whole_faults_of_drafts.Holds := by
  w_on; o_law
  refine HandSHeadRun.head_any (r := OpenLaw.row PySem.Challenge.rw_borderward_k16_whole_faults_of_drafts) (q := view (OpenLaw.row PySem.Challenge.rw_borderward_k16_whole_faults_of_drafts).prog [56]) (H := L2.NL.Wlaw_k16.hk) (ob := L2.NL.Wlaw_k16.ob) (M := 8000) (loose := L2.NL.Wlaw_k16.loose) (d := HandSHeadRun.topDef (OpenLaw.row PySem.Challenge.rw_borderward_k16_whole_faults_of_drafts).prog 56) (kwd := []) L2.NL.Wlaw_k16.ob_eq
    (by kernel_rfl) (fun s => by kernel_rfl) L2.NL.Wlaw_k16.run (by kernel_rfl) (by kernel_rfl) (by kernel_rfl) (by rfl) (by first | assumption | decide +kernel) (by decide +kernel) ⟨rfl, rfl, rfl, rfl, rfl, by decide +kernel⟩ ?hw ?hc
  case hw => w_witness2
  case hc =>
    refine L2.walk_ofE (l := PySem.Challenge.rw_borderward_k16_whole_faults_of_drafts) (n := 63) (k := 14) (x := "script") (CX := L2.NL.CXe) rfl (by decide) (by kernel_rfl) ⟨rfl, by decide, by decide⟩ ?F (fun _ _ _ _ z => by obtain ⟨_, _, _, z⟩ := z; exact z)
    intro w mg fa h Y G hmg0
    obtain ⟨K, KX, c, c2⟩ := Y
    have hmg : mg ("law" : PySem.Str) = some (.ref fa) := by
      have e : (HandSHeadRun.topDef (OpenLaw.row PySem.Challenge.rw_borderward_k16_whole_faults_of_drafts).prog 56).name = ("law" : PySem.Str) := by kernel_rfl
      rw [← e]
      exact hmg0
    have T := L2.NL.Wlaw_k16.facts KX G c c2
    obtain ⟨fd, F⟩ := c.def_ 27 (d := L2.NL.Wlaw_k16.fd_27) rfl
    have e := hmg.symm.trans (He.glo_ok KX G (c.fact 50 (f := .glo "law") rfl))
    cases e
    have b := L2.FunD.bindsA (ps := ["script"]) F fun _ _ _ _ _ _ us hl => match us, hl with | [_], _ => rfl
    exact ⟨K, fd, L2.NL.NProm K mg 1 L2.NL.Wlaw_k16.D_56, KX, fun s v => b s [v] rfl, L2.NL.law_end L2.NL.Wlaw_k16.law_true, fun base _ _ => L2.NL.FnOk.toE (L2.NL.Wlaw_k16.law_ok T F)⟩
