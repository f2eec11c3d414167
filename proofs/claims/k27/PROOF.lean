import PyProof.Rows.All
import Wide.All
import OpenK.AllK
import Wide.FinOn
import HandS.ForMost
import HandS.Walk
import HandS.StrMore
import HandS.Wide
import HandS.IsInst
import HandS.ListEq
import HandS.Style
import HandS.RevRange
import HandS.Rev
import HandS.Zip
import HandS.Strs
import HandS.Text
import HandS.More
import HandS.SortInts
import HandS.TupAny
import KE.DataMinMax
import HandS.SortKw
import PySem.Challenge.RW_likemarks_k27_first_cutting_told
set_option Elab.async false
set_option linter.all false
set_option maxRecDepth 100000
set_option maxHeartbeats 4000000
namespace MK
open PySem PySem.Spec L2

/-! ### reps -/
def sS (l : List Nat) : Str := ⟨l.toArray⟩
theorem sS_len (l : List Nat) : (sS l).length = l.length := by simp [sS, Str.length]
theorem sS_list (l : List Nat) : (sS l).cps.toList = l := by simp [sS]
theorem sS_inj {l m : List Nat} (h : sS l = sS m) : l = m := by
  have := congrArg (fun s : Str => s.cps.toList) h
  simpa [sS] using this
def vS (l : List Nat) : V := .str (sS l)
abbrev Rep (α : Type) := α → V → Hp → Prop
def pI : Rep Int := fun n v _ => v = .int n
def pB : Rep Bool := fun b v _ => v = .bl b
def pU : Rep Unit := fun _ v _ => v = .non
structure OkS (l : List Nat) : Prop where
  len : l.length ≤ sizeLine
  cps : ∀ c ∈ l, c < 0x110000
def pS : Rep (List Nat) := fun l v _ => v = vS l ∧ OkS l
def pO {α} (R : Rep α) : Rep (Option α) := fun o v H => match o with | none => v = .non | some x => R x v H
inductive All2 {α : Type} (R : Rep α) (H : Hp) : List α → List V → Prop
  | nil : All2 R H [] []
  | cons {x : α} {v : V} {xs : List α} {vs : List V} : R x v H → All2 R H xs vs → All2 R H (x :: xs) (v :: vs)
def pL {α} (R : Rep α) : Rep (List α) := fun xs v H => ∃ a vs, v = .ref a ∧ H a = some (.lst vs) ∧ All2 R H xs vs ∧ xs.length ≤ sizeLine
def pT1 {α} (R : Rep α) : Rep α := fun p v H => ∃ a u, v = .ref a ∧ H a = some (.tup [u]) ∧ R p u H
def pT2 {α β} (R : Rep α) (S : Rep β) : Rep (α × β) := fun p v H => ∃ a u w, v = .ref a ∧ H a = some (.tup [u, w]) ∧ R p.1 u H ∧ S p.2 w H
def pT3 {α β γ} (R : Rep α) (S : Rep β) (T : Rep γ) : Rep (α × β × γ) := fun p v H => ∃ a u w x, v = .ref a ∧ H a = some (.tup [u, w, x]) ∧ R p.1 u H ∧ S p.2.1 w H ∧ T p.2.2 x H
def pT4 {α β γ δ} (R : Rep α) (S : Rep β) (T : Rep γ) (U : Rep δ) : Rep (α × β × γ × δ) := fun p v H => ∃ a u w x y, v = .ref a ∧ H a = some (.tup [u, w, x, y]) ∧ R p.1 u H ∧ S p.2.1 w H ∧ T p.2.2.1 x H ∧ U p.2.2.2 y H
/-- the script: read alone -/
def pScr (K : PySem.W.Frag) : Rep (List Int) := fun ns v H => ∃ a, v = .ref a ∧ SqL K H a (ns.map V.int)

class Mn {α : Type} (R : Rep α) : Prop where
  mono : ∀ {x v H H'}, R x v H → L2.Same H H' → R x v H'
instance : Mn pI := ⟨fun h _ => h⟩
instance : Mn pB := ⟨fun h _ => h⟩
instance : Mn pU := ⟨fun h _ => h⟩
instance : Mn pS := ⟨fun h _ => h⟩
instance {α} {R : Rep α} [Mn R] : Mn (pO R) := ⟨fun {x v H H'} h s => by
  cases x with
  | none => exact h
  | some x => exact Mn.mono (R := R) h s⟩
theorem All2.mono {α} {R : Rep α} [Mn R] {xs : List α} {vs : List V} {H H' : Hp} (h : All2 R H xs vs) (s : L2.Same H H') : All2 R H' xs vs := by
  induction h with
  | nil => exact .nil
  | cons r _ ih => exact .cons (Mn.mono r s) ih
instance {α} {R : Rep α} [Mn R] : Mn (pL R) := ⟨fun ⟨a, vs, e, h, p, l⟩ s => ⟨a, vs, e, s _ _ h, All2.mono p s, l⟩⟩
instance {α} {R : Rep α} [Mn R] : Mn (pT1 R) := ⟨fun ⟨a, u, e, h, p⟩ s => ⟨a, u, e, s _ _ h, Mn.mono p s⟩⟩
instance {α β} {R : Rep α} {S : Rep β} [Mn R] [Mn S] : Mn (pT2 R S) := ⟨fun ⟨a, u, w, e, h, p, q⟩ s => ⟨a, u, w, e, s _ _ h, Mn.mono p s, Mn.mono q s⟩⟩
instance {α β γ} {R : Rep α} {S : Rep β} {T : Rep γ} [Mn R] [Mn S] [Mn T] : Mn (pT3 R S T) := ⟨fun ⟨a, u, w, x, e, h, p, q, r⟩ s => ⟨a, u, w, x, e, s _ _ h, Mn.mono p s, Mn.mono q s, Mn.mono r s⟩⟩
instance {α β γ δ} {R : Rep α} {S : Rep β} {T : Rep γ} {U : Rep δ} [Mn R] [Mn S] [Mn T] [Mn U] : Mn (pT4 R S T U) := ⟨fun ⟨a, u, w, x, y, e, h, p, q, r, z⟩ s => ⟨a, u, w, x, y, e, s _ _ h, Mn.mono p s, Mn.mono q s, Mn.mono r s, Mn.mono z s⟩⟩
instance {K : PySem.W.Frag} : Mn (pScr K) := ⟨fun ⟨a, e, h⟩ s => ⟨a, e, L2.Same.seq s h⟩⟩

theorem All2.len {α} {R : Rep α} {xs : List α} {vs : List V} {H : Hp} (h : All2 R H xs vs) : xs.length = vs.length := by
  induction h with
  | nil => rfl
  | cons _ _ ih => simp [ih]
theorem All2.app {α} {R : Rep α} {H : Hp} : ∀ {xs ys : List α} {vs ws : List V}, All2 R H xs vs → All2 R H ys ws → All2 R H (xs ++ ys) (vs ++ ws)
  | _, _, _, _, .nil, h => h
  | _, _, _, _, .cons r t, h => .cons r (All2.app t h)
theorem All2.one {α} {R : Rep α} {H : Hp} {x : α} {v : V} (h : R x v H) : All2 R H [x] [v] := .cons h .nil
theorem All2.get {α} {R : Rep α} {H : Hp} : ∀ {xs : List α} {vs : List V} {i : Nat} {x : α}, All2 R H xs vs → xs[i]? = some x → ∃ v, vs[i]? = some v ∧ R x v H
  | _, _, _, _, .nil, e => by simp at e
  | _, _, 0, _, .cons r _, e => by simp at e; subst e; exact ⟨_, rfl, r⟩
  | _, _, i + 1, x, .cons _ t, e => by
    obtain ⟨u, h1, h2⟩ := All2.get (i := i) (x := x) t (by simpa using e)
    exact ⟨u, by simpa using h1, h2⟩
theorem All2.getV {α} {R : Rep α} {H : Hp} : ∀ {xs : List α} {vs : List V} {i : Nat} {v : V}, All2 R H xs vs → vs[i]? = some v → ∃ x, xs[i]? = some x ∧ R x v H
  | _, _, _, _, .nil, e => by simp at e
  | _, _, 0, _, .cons r _, e => by simp at e; subst e; exact ⟨_, rfl, r⟩
  | _, _, i + 1, x, .cons _ t, e => by
    obtain ⟨u, h1, h2⟩ := All2.getV (i := i) (v := x) t (by simpa using e)
    exact ⟨u, by simpa using h1, h2⟩
theorem All2.take {α} {R : Rep α} {H : Hp} : ∀ {xs : List α} {vs : List V} (n : Nat), All2 R H xs vs → All2 R H (xs.take n) (vs.take n)
  | _, _, 0, _ => .nil
  | _, _, _ + 1, .nil => .nil
  | _, _, n + 1, .cons r t => .cons r (All2.take n t)
theorem All2.drop {α} {R : Rep α} {H : Hp} : ∀ {xs : List α} {vs : List V} (n : Nat), All2 R H xs vs → All2 R H (xs.drop n) (vs.drop n)
  | _, _, 0, h => h
  | _, _, _ + 1, .nil => .nil
  | _, _, n + 1, .cons _ t => All2.drop n t
theorem All2.set {α} {R : Rep α} {H : Hp} {x : α} {v : V} (r : R x v H) : ∀ {xs : List α} {vs : List V} (n : Nat), All2 R H xs vs → All2 R H (xs.set n x) (vs.set n v)
  | _, _, _, .nil => .nil
  | _, _, 0, .cons _ t => .cons r t
  | _, _, n + 1, .cons q t => .cons q (All2.set r n t)
theorem All2.rev {α} {R : Rep α} {H : Hp} : ∀ {xs : List α} {vs : List V}, All2 R H xs vs → All2 R H xs.reverse vs.reverse
  | _, _, .nil => .nil
  | x :: xs, v :: vs, .cons r t => by rw [List.reverse_cons, List.reverse_cons]; exact All2.app (All2.rev t) (All2.one r)
theorem All2.int {xs : List Int} {vs : List V} {H : Hp} (h : All2 pI H xs vs) : vs = xs.map V.int := by
  induction h with
  | nil => rfl
  | cons r _ ih => rw [List.map_cons, ih]; rw [show _ = _ from r]
theorem All2.ofInt : ∀ (xs : List Int) (H : Hp), All2 pI H xs (xs.map V.int)
  | [], _ => .nil
  | x :: xs, H => .cons rfl (All2.ofInt xs H)
theorem All2.bool {xs : List Bool} {vs : List V} {H : Hp} (h : All2 pB H xs vs) : vs = xs.map V.bl := by
  induction h with
  | nil => rfl
  | cons r _ ih => rw [List.map_cons, ih]; rw [show _ = _ from r]
theorem All2.ofBool : ∀ (xs : List Bool) (H : Hp), All2 pB H xs (xs.map V.bl)
  | [], _ => .nil
  | x :: xs, H => .cons rfl (All2.ofBool xs H)
theorem All2.str {xs : List (List Nat)} {vs : List V} {H : Hp} (h : All2 pS H xs vs) : vs = xs.map vS ∧ ∀ l ∈ xs, OkS l := by
  induction h with
  | nil => exact ⟨rfl, by simp⟩
  | cons r _ ih =>
    obtain ⟨r1, r2⟩ := r
    refine ⟨by rw [List.map_cons, ih.1, r1], fun l hl => ?_⟩
    rcases List.mem_cons.mp hl with rfl | hl
    · exact r2
    · exact ih.2 l hl
theorem All2.ofStr : ∀ (xs : List (List Nat)) (H : Hp), (∀ l ∈ xs, OkS l) → All2 pS H xs (xs.map vS)
  | [], _, _ => .nil
  | x :: xs, H, h => .cons ⟨rfl, h _ List.mem_cons_self⟩ (All2.ofStr xs H fun l hl => h l (List.mem_cons_of_mem _ hl))
theorem vS_map (xs : List (List Nat)) : xs.map vS = (xs.map sS).map V.str := by rw [List.map_map]; rfl

/-! ### the frame: G the base (never changed), cs the cells, H the heap; E the heap at the entry, G0 the base there, M the cells that were handed in to be changed -/
structure W (E G0 : Hp) (M : List Addr) (G : Hp) (cs : List (Addr × HO)) (H : Hp) : Prop where
  sub : L2.Same G H
  at_ : ∀ c ∈ cs, H c.1 = some c.2
  out : ∀ c ∈ cs, G c.1 = none
  nd : cs.Pairwise (fun c d => c.1 ≠ d.1)
  own : ∀ c ∈ cs, c.1 ∈ M ∨ E c.1 = none
  keep : ∀ b o, E b = some o → b ∉ M → H b = some o
  base : L2.Same G0 G
  sep : ∀ b, E b ≠ none → G0 b = none → G b = none
  live : ∀ a ∈ M, H a ≠ none
structure Post (M : List Addr) (G H G' H' : Hp) : Prop where
  base : L2.Same G G'
  sub : L2.Same G' H'
  keep : ∀ b o, H b = some o → b ∉ M → H' b = some o
  sep : ∀ b, H b ≠ none → G b = none → G' b = none
section
variable {E G0 G G' H H' : Hp} {M : List Addr} {cs : List (Addr × HO)} {p : Addr} {o o' : HO}
theorem W.post (w : W E G0 M G cs H) : Post M G0 E G H := ⟨w.base, w.sub, w.keep, w.sep⟩
theorem W.init (h : L2.Same G H) : W H G [] G [] H := ⟨h, (fun _ z => nomatch z), (fun _ z => nomatch z), .nil, (fun _ z => nomatch z), fun _ _ e _ => e, fun _ _ e => e, fun _ _ e => e, (fun _ z => nomatch z)⟩
theorem W.init1 (h : L2.Same G H) (e : H p = some o) (n : G p = none) : W H G [p] G [(p, o)] H := ⟨h, fun c z => by cases List.mem_singleton.mp z; exact e, fun c z => by cases List.mem_singleton.mp z; exact n, .cons (fun _ z => nomatch z) .nil, fun c z => by cases List.mem_singleton.mp z; exact .inl (List.mem_singleton.mpr rfl), fun _ _ e _ => e, fun _ _ e => e, fun _ _ e => e, fun a z => by cases List.mem_singleton.mp z; rw [e]; simp⟩
theorem W.freshE (w : W E G0 M G cs H) (h : H p = none) : E p = none := by
  cases q : E p with
  | none => rfl
  | some u =>
    by_cases hm : p ∈ M
    · exact absurd h (w.live p hm)
    · rw [w.keep p u q hm] at h; cases h
theorem W.freshG (w : W E G0 M G cs H) (h : H p = none) : G p = none := w.sub.free h
theorem W.ne (w : W E G0 M G cs H) (h : H p = none) : ∀ c ∈ cs, c.1 ≠ p := fun c hc e => by
  have := w.at_ c hc
  rw [e, h] at this; cases this
/-- a new object that is never changed -/
theorem W.lay (w : W E G0 M G cs H) (h : H p = none) (o : HO) : W E G0 M (upd G p o) cs (upd H p o) where
  sub := fun b u e => by
    by_cases hb : b = p
    · subst hb; rw [upd_same] at e; rw [upd_same]; exact e
    · rw [upd_ne hb] at e; rw [upd_ne hb]; exact w.sub b u e
  at_ := fun c hc => by rw [upd_ne (w.ne h c hc)]; exact w.at_ c hc
  out := fun c hc => by rw [upd_ne (w.ne h c hc)]; exact w.out c hc
  nd := w.nd
  own := w.own
  keep := fun b u e hm => by rw [upd_ne (ne_of_none (w.keep b u e hm) h)]; exact w.keep b u e hm
  base := fun b u e => by rw [upd_ne (ne_of_none (w.sub b u (w.base b u e)) h)]; exact w.base b u e
  sep := fun b e1 e2 => by
    have hb : b ≠ p := fun z => by subst z; exact e1 (w.freshE h)
    rw [upd_ne hb]; exact w.sep b e1 e2
  live := fun a ha => by
    by_cases hb : a = p
    · subst hb; rw [upd_same]; simp
    · rw [upd_ne hb]; exact w.live a ha
theorem same_lay (w : W E G0 M G cs H) (h : H p = none) : L2.Same G (upd G p o) := fun b u e => by rw [upd_ne (ne_of_none (w.sub b u e) h)]; exact e
/-- a new cell -/
theorem W.cell (w : W E G0 M G cs H) (h : H p = none) (o : HO) : W E G0 M G ((p, o) :: cs) (upd H p o) where
  sub := fun b u e => by rw [upd_ne (ne_of_none (w.sub b u e) h)]; exact w.sub b u e
  at_ := fun c hc => by
    rcases List.mem_cons.mp hc with rfl | hc
    · exact upd_same
    · rw [upd_ne (w.ne h c hc)]; exact w.at_ c hc
  out := fun c hc => by
    rcases List.mem_cons.mp hc with rfl | hc
    · exact w.freshG h
    · exact w.out c hc
  nd := .cons (fun d hd => (w.ne h d hd).symm) w.nd
  own := fun c hc => by
    rcases List.mem_cons.mp hc with rfl | hc
    · exact .inr (w.freshE h)
    · exact w.own c hc
  keep := fun b u e hm => by rw [upd_ne (ne_of_none (w.keep b u e hm) h)]; exact w.keep b u e hm
  base := w.base
  sep := w.sep
  live := fun a ha => by
    by_cases hb : a = p
    · subst hb; rw [upd_same]; simp
    · rw [upd_ne hb]; exact w.live a ha
theorem mem_set_ne {cs : List (Addr × HO)} {k : Nat} (nd : cs.Pairwise (fun c d => c.1 ≠ d.1)) (hk : cs[k]? = some (p, o)) : ∀ c ∈ cs.set k (p, o'), c = (p, o') ∨ (c ∈ cs ∧ c.1 ≠ p) := by
  induction cs generalizing k with
  | nil => simp at hk
  | cons d ds ih =>
    intro c hc
    cases nd with
    | cons h1 h2 =>
      cases k with
      | zero =>
        simp at hk
        subst hk
        rw [List.set_cons_zero] at hc
        rcases List.mem_cons.mp hc with rfl | hc
        · exact .inl rfl
        · exact .inr ⟨List.mem_cons_of_mem _ hc, (h1 c hc).symm⟩
      | succ k =>
        rw [List.set_cons_succ] at hc
        have hk' : ds[k]? = some (p, o) := by simpa using hk
        rcases List.mem_cons.mp hc with rfl | hc
        · exact .inr ⟨List.mem_cons_self, h1 (p, o) (List.mem_of_getElem? hk')⟩
        · rcases ih h2 hk' c hc with e | ⟨e1, e2⟩
          · exact .inl e
          · exact .inr ⟨List.mem_cons_of_mem _ e1, e2⟩
theorem pairwise_set {cs : List (Addr × HO)} {k : Nat} (nd : cs.Pairwise (fun c d => c.1 ≠ d.1)) (hk : cs[k]? = some (p, o)) : (cs.set k (p, o')).Pairwise (fun c d => c.1 ≠ d.1) := by
  have e : (cs.set k (p, o')).map (·.1) = cs.map (·.1) := by
    apply List.ext_getElem?
    intro i
    rw [List.getElem?_map, List.getElem?_map, List.getElem?_set]
    by_cases hi : k = i
    · subst hi
      rw [if_pos rfl]
      have : k < cs.length := (List.getElem?_eq_some_iff.mp hk).1
      rw [if_pos this, hk]; rfl
    · rw [if_neg hi]
  have h1 : (cs.map (·.1)).Pairwise (· ≠ ·) := List.pairwise_map.mpr nd
  rw [← e] at h1
  exact List.pairwise_map.mp h1
/-- a cell is changed -/
theorem W.write (w : W E G0 M G cs H) (k : Nat) (hk : cs[k]? = some (p, o)) (o' : HO) : W E G0 M G (cs.set k (p, o')) (upd H p o') := by
  have hp : (p, o) ∈ cs := List.mem_of_getElem? hk
  have gp : G p = none := w.out _ hp
  refine ⟨fun b u e => ?_, fun c hc => ?_, fun c hc => ?_, pairwise_set w.nd hk, fun c hc => ?_, fun b u e hm => ?_, w.base, w.sep, fun a ha => ?_⟩
  · rw [upd_ne (ne_of_none e gp)]; exact w.sub b u e
  · rcases mem_set_ne w.nd hk c hc with rfl | ⟨h1, h2⟩
    · exact upd_same
    · rw [upd_ne h2]; exact w.at_ c h1
  · rcases mem_set_ne w.nd hk c hc with rfl | ⟨h1, h2⟩
    · exact gp
    · exact w.out c h1
  · rcases mem_set_ne w.nd hk c hc with rfl | ⟨h1, h2⟩
    · have q := w.own (p, o) hp; exact q
    · exact w.own c h1
  · have hb : b ≠ p := fun z => by
      subst z
      rcases w.own _ hp with q | q
      · exact hm q
      · exact absurd (e.symm.trans q) (by simp)
    rw [upd_ne hb]; exact w.keep b u e hm
  · by_cases hb : a = p
    · subst hb; rw [upd_same]; simp
    · rw [upd_ne hb]; exact w.live a ha
theorem W.at (w : W E G0 M G cs H) (k : Nat) (hk : cs[k]? = some (p, o) := by rfl) : H p = some o := w.at_ _ (List.mem_of_getElem? hk)
/-- a cell is forgotten -/
theorem W.sub' {cs' : List (Addr × HO)} (w : W E G0 M G cs H) (h : cs'.Sublist cs) : W E G0 M G cs' H := ⟨w.sub, fun c hc => w.at_ c (h.subset hc), fun c hc => w.out c (h.subset hc), w.nd.sublist h, fun c hc => w.own c (h.subset hc), w.keep, w.base, w.sep, w.live⟩
theorem W.perm {cs' : List (Addr × HO)} (w : W E G0 M G cs H) (h : cs.Perm cs') : W E G0 M G cs' H := ⟨w.sub, fun c hc => w.at_ c (h.mem_iff.mpr hc), fun c hc => w.out c (h.mem_iff.mpr hc), (h.pairwise_iff (fun h => h.symm)).mp w.nd, fun c hc => w.own c (h.mem_iff.mpr hc), w.keep, w.base, w.sep, w.live⟩
/-- a cell of one's own (the k-th) is changed no more -/
theorem W.freeze (w : W E G0 M G cs H) (k : Nat) (hk : cs[k]? = some (p, o)) (hE : E p = none) : W E G0 M (upd G p o) (cs.eraseIdx k) H := by
  have hp : (p, o) ∈ cs := List.mem_of_getElem? hk
  have hs : (cs.eraseIdx k).Sublist cs := List.eraseIdx_sublist _ _
  have ne : ∀ c ∈ cs.eraseIdx k, c.1 ≠ p := by
    have hg := w.nd
    clear hs
    induction cs generalizing k with
    | nil => simp at hk
    | cons d ds ih =>
      intro c hc
      cases hg with
      | cons h1 h2 =>
        cases k with
        | zero =>
          simp at hk; subst hk
          rw [List.eraseIdx_cons_zero] at hc
          exact (h1 c hc).symm
        | succ k =>
          rw [List.eraseIdx_cons_succ] at hc
          have hk' : ds[k]? = some (p, o) := by simpa using hk
          rcases List.mem_cons.mp hc with rfl | hc
          · exact h1 (p, o) (List.mem_of_getElem? hk')
          · exact ih (w.sub' (List.sublist_cons_self _ _)) k hk' (List.mem_of_getElem? hk') h2 c hc
  refine ⟨fun b u e => ?_, fun c hc => w.at_ c (hs.subset hc), fun c hc => ?_, w.nd.sublist hs, fun c hc => w.own c (hs.subset hc), w.keep, fun b u e => ?_, fun b e1 e2 => ?_, w.live⟩
  · by_cases hb : b = p
    · subst hb; rw [upd_same] at e; cases e; exact w.at_ _ hp
    · rw [upd_ne hb] at e; exact w.sub b u e
  · rw [upd_ne (ne c hc)]; exact w.out c (hs.subset hc)
  · rw [upd_ne (ne_of_none (w.base b u e) (w.out _ hp))]; exact w.base b u e
  · have hb : b ≠ p := fun z => by subst z; exact e1 hE
    rw [upd_ne hb]; exact w.sep b e1 e2
theorem same_freeze (w : W E G0 M G cs H) (k : Nat) (hk : cs[k]? = some (p, o)) : L2.Same G (upd G p o) := fun b u e => by rw [upd_ne (ne_of_none e (w.out _ (List.mem_of_getElem? hk)))]; exact e
/-- behind a call that changes nothing -/
theorem W.call (w : W E G0 M G cs H) (q : Post [] G H G' H') : W E G0 M G' cs H' := by
  have k : ∀ b u, H b = some u → H' b = some u := fun b u e => q.keep b u e (fun z => nomatch z)
  have hE : ∀ b, E b ≠ none → H b ≠ none := fun b e => by
    by_cases hm : b ∈ M
    · exact w.live b hm
    · cases z : E b with
      | none => exact absurd z e
      | some u => rw [w.keep b u z hm]; simp
  refine ⟨q.sub, fun c hc => k _ _ (w.at_ c hc), fun c hc => q.sep _ (by rw [w.at_ c hc]; simp) (w.out c hc), w.nd, w.own, fun b u e hm => k b u (w.keep b u e hm), w.base.trans q.base, fun b e1 e2 => q.sep b (hE b e1) (w.sep b e1 e2), fun a ha => ?_⟩
  cases z : H a with
  | none => exact absurd z (w.live a ha)
  | some u => rw [k a u z]; simp
/-- .. the base stays as it was -/
theorem W.callK (w : W E G0 M G cs H) {GH : Hp} (q : Post [] GH H G' H') : W E G0 M G cs H' := by
  have k : ∀ b u, H b = some u → H' b = some u := fun b u e => q.keep b u e (fun z => nomatch z)
  refine ⟨fun b u e => k b u (w.sub b u e), fun c hc => k _ _ (w.at_ c hc), w.out, w.nd, w.own, fun b u e hm => k b u (w.keep b u e hm), w.base, w.sep, fun a ha => ?_⟩
  cases z : H a with
  | none => exact absurd z (w.live a ha)
  | some u => rw [k a u z]; simp
/-- behind a call that changes the k-th cell -/
theorem W.callM (w : W E G0 M G cs H) (k : Nat) (hk : cs[k]? = some (p, o)) (q : Post [p] G H G' H') (hp' : H' p = some o') : W E G0 M G' (cs.set k (p, o')) H' := by
  have hp : (p, o) ∈ cs := List.mem_of_getElem? hk
  have kk : ∀ b u, b ≠ p → H b = some u → H' b = some u := fun b u n e => q.keep b u e (fun z => n (List.mem_singleton.mp z))
  have hE : ∀ b, E b ≠ none → H b ≠ none := fun b e => by
    by_cases hm : b ∈ M
    · exact w.live b hm
    · cases z : E b with
      | none => exact absurd z e
      | some u => rw [w.keep b u z hm]; simp
  refine ⟨q.sub, fun c hc => ?_, fun c hc => ?_, pairwise_set w.nd hk, fun c hc => ?_, fun b u e hm => ?_, w.base.trans q.base, fun b e1 e2 => q.sep b (hE b e1) (w.sep b e1 e2), fun a ha => ?_⟩
  · rcases mem_set_ne w.nd hk c hc with rfl | ⟨h1, h2⟩
    · exact hp'
    · exact kk _ _ h2 (w.at_ c h1)
  · rcases mem_set_ne w.nd hk c hc with rfl | ⟨h1, h2⟩
    · exact q.sep p (by rw [w.at_ _ hp]; simp) (w.out _ hp)
    · exact q.sep _ (by rw [w.at_ c h1]; simp) (w.out c h1)
  · rcases mem_set_ne w.nd hk c hc with rfl | ⟨h1, h2⟩
    · have q := w.own (p, o) hp; exact q
    · exact w.own c h1
  · have hb : b ≠ p := fun z => by
      subst z
      rcases w.own _ hp with q | q
      · exact hm q
      · exact absurd (e.symm.trans q) (by simp)
    exact kk b u hb (w.keep b u e hm)
  · by_cases hb : a = p
    · subst hb; rw [hp']; simp
    · cases z : H a with
      | none => exact absurd z (w.live a ha)
      | some u => rw [kk a u hb z]; simp
/-- behind a call that hands back a new cell -/
theorem W.own' (w : W E G0 M G cs H') (hE : E p = none) (hp : H' p = some o) (hG : G p = none) (hc : ∀ c ∈ cs, c.1 ≠ p) : W E G0 M G ((p, o) :: cs) H' := by
  refine ⟨w.sub, fun c z => ?_, fun c z => ?_, .cons (fun d hd => (hc d hd).symm) w.nd, fun c z => ?_, w.keep, w.base, w.sep, w.live⟩
  · rcases List.mem_cons.mp z with rfl | z
    · exact hp
    · exact w.at_ c z
  · rcases List.mem_cons.mp z with rfl | z
    · exact hG
    · exact w.out c z
  · rcases List.mem_cons.mp z with rfl | z
    · exact .inr hE
    · exact w.own c z
end
end MK

namespace MK
open PySem PySem.Spec L2

/-! ### the mirror's words -/
theorem bindS {α β : Type} {a : Option α} {f : α → Option β} {r : β} (h : a.bind f = some r) : ∃ x, a = some x ∧ f x = some r := by
  cases a with
  | none => cases h
  | some x => exact ⟨x, rfl, h⟩
theorem iteT' {α : Type} {b : Bool} {A B : Option α} {r : α} (h : (if b = true then A else B) = some r) (hb : b = true) : A = some r := by rw [if_pos hb] at h; exact h
theorem iteF' {α : Type} {b : Bool} {A B : Option α} {r : α} (h : (if b = true then A else B) = some r) (hb : b = false) : B = some r := by rw [hb, if_neg Bool.false_ne_true] at h; exact h
theorem someI {α : Type} {a b : α} (h : some a = some b) : a = b := Option.some.inj h
/-- a way out of a loop's turn -/
inductive Ctl (ρ σ : Type) where
  | nx (s : σ) | bk (s : σ) | rt (r : ρ)
def loopM {α ρ σ : Type} (f : α → σ → Option (Ctl ρ σ)) : List α → σ → Option (Ctl ρ σ)
  | [], s => some (.nx s)
  | x :: xs, s => (f x s).bind fun c => match c with
    | .nx s' => loopM f xs s'
    | .bk s' => some (.nx s')
    | .rt r => some (.rt r)
def foldO {α σ : Type} (f : α → σ → Option σ) : List α → σ → Option σ
  | [], s => some s
  | x :: xs, s => (f x s).bind (foldO f xs)
def whileM {ρ σ : Type} (c : σ → Option Bool) (f : σ → Option (Ctl ρ σ)) : Nat → σ → Option (Ctl ρ σ)
  | 0, _ => none
  | n + 1, s => (c s).bind fun b => if b = true then (f s).bind fun r => match r with
    | .nx s' => whileM c f n s'
    | .bk s' => some (.nx s')
    | .rt r => some (.rt r)
    else some (.nx s)
/-- a comprehension: the item kept or not, the state behind it -/
def lcS {α β σ : Type} (f : α → σ → Option (Option β × σ)) : List α → σ → Option (List β × σ)
  | [], s => some ([], s)
  | x :: xs, s => (f x s).bind fun r => (lcS f xs r.2).bind fun q => some (match r.1 with | some y => (y :: q.1, q.2) | none => q)
def lcP {α β : Type} (f : α → Option (Option β)) : List α → Option (List β)
  | [] => some []
  | x :: xs => (f x).bind fun r => (lcP f xs).bind fun q => some (match r with | some y => y :: q | none => q)
def mapP {α β : Type} (f : α → Option β) : List α → Option (List β)
  | [] => some []
  | x :: xs => (f x).bind fun y => (mapP f xs).bind fun q => some (y :: q)

/-! ### expressions that make nothing -/
def EV (te : TE) (σ : St) (H : Hp) (v : V) : Prop := ∀ Q : VK, Q v H → te σ H Q
def ET (t : TT) (σ : St) (H : Hp) (b : Bool) : Prop := ∀ Q : Bool → Hp → Prop, Q b H → t σ H Q
def EA (t : TA) (σ : St) (H : Hp) (vs : List V) : Prop := ∀ Q : List V → Hp → Prop, Q vs H → t σ H Q
def EO (t : TO) (σ : St) (H : Hp) (o : Option Int) : Prop := ∀ Q : Option Int → Hp → Prop, Q o H → t σ H Q
section
variable {σ σ' : St} {H H' : Hp} {Q : VK} {v x y z : V} {te ta tb tc : TE} {tt tu : TT} {rr : R2} {b c : Bool} {D : Ends} {i : Nat} {rest ts tsu : TS}
theorem ev_use (h : EV te σ H v) (k : Q v H) : te σ H Q := h Q k
theorem et_use {Q : Bool → Hp → Prop} (h : ET tt σ H b) (k : Q b H) : tt σ H Q := h Q k
theorem ea_use {t : TA} {vs : List V} {Q : List V → Hp → Prop} (h : EA t σ H vs) (k : Q vs H) : t σ H Q := h Q k
theorem ev_var (h : σ[i]? = some (some v)) : EV (tVar i) σ H v := fun _ q => ⟨v, h, q⟩
theorem ev_c : EV (tC v) σ H v := fun _ q => q
theorem ev_op (h1 : EV ta σ H x) (h2 : EV tb σ H y) (k : ∀ Q : VK, Q z H → rr x y H Q) : EV (tOp rr ta tb) σ H z := fun Q q => h1 _ (h2 _ (k Q q))
theorem ev_un {r : V → Hp → VK → Prop} (h1 : EV ta σ H x) (k : ∀ Q : VK, Q z H → r x H Q) : EV (tUn r ta) σ H z := fun Q q => h1 _ (k Q q)
theorem ev_cb {r : List V → Hp → VK → Prop} {t : TA} {vs : List V} (h1 : EA t σ H vs) (k : ∀ Q : VK, Q z H → r vs H Q) : EV (tCB r t) σ H z := fun Q q => h1 _ (k Q q)
theorem ea_nil : EA tNil σ H [] := fun _ q => q
theorem ea_cons {t : TA} {vs : List V} (h : EV ta σ H x) (h2 : EA t σ H vs) : EA (tCons ta t) σ H (x :: vs) := fun _ q => h _ (h2 _ q)
theorem eo_none : EO tNoPart σ H none := fun _ q => q
theorem eo_some {n : Int} (h : EV ta σ H (.int n)) : EO (tPart ta) σ H (some n) := fun _ q => h _ ⟨n, rfl, q⟩
theorem et_test (h : EV ta σ H (.bl b)) : ET (tTest ta) σ H b := fun _ q => h _ ⟨b, rfl, q⟩
theorem et_b (h : EV ta σ H (.bl b)) : ET (tB ta) σ H b := fun _ q => h _ ⟨b, rfl, q⟩
theorem et_not (h : ET tt σ H b) : ET (tNot tt) σ H (!b) := fun _ q => h _ q
theorem et_and (h : ET tt σ H b) (h2 : b = true → ET tu σ H c) : ET (tAnd tt tu) σ H (b && c) := fun Q q => h _ (by
  cases b with
  | true => exact h2 rfl Q q
  | false => exact q)
theorem et_or (h : ET tt σ H b) (h2 : b = false → ET tu σ H c) : ET (tOr tt tu) σ H (b || c) := fun Q q => h _ (by
  cases b with
  | true => exact q
  | false => exact h2 rfl Q q)
theorem ev_and (h : EV ta σ H (.bl b)) (h2 : b = true → EV tb σ H (.bl c)) : EV (tAndV ta tb) σ H (.bl (b && c)) := fun Q q => h _ ⟨b, rfl, by
  cases b with
  | true => exact h2 rfl Q q
  | false => exact q⟩
theorem ev_or (h : EV ta σ H (.bl b)) (h2 : b = false → EV tb σ H (.bl c)) : EV (tOrV ta tb) σ H (.bl (b || c)) := fun Q q => h _ ⟨b, rfl, by
  cases b with
  | true => exact q
  | false => exact h2 rfl Q q⟩
theorem ev_not (h : EV ta σ H (.bl b)) : EV (tNotV ta) σ H (.bl (!b)) := fun _ q => h _ ⟨b, rfl, q⟩
theorem ev_if (h : ET tt σ H b) (h1 : b = true → EV ta σ H x) (h2 : b = false → EV tb σ H x) : EV (tIf tt ta tb) σ H x := fun Q q => h _ (by
  cases b with
  | true => exact h1 rfl Q q
  | false => exact h2 rfl Q q)
/-! operators on values -/
theorem k_I0 {g : Int → Int → V} (i j : Int) : ∀ Q : VK, Q (g i j) H → rI0 g (.int i) (.int j) H Q := fun _ q => ⟨i, j, rfl, rfl, q⟩
theorem k_I {C : Int → Int → Prop} {g : Int → Int → V} (i j : Int) (h : C i j) : ∀ Q : VK, Q (g i j) H → rI C g (.int i) (.int j) H Q := fun _ q => ⟨i, j, rfl, rfl, h, q⟩
theorem k_neg (i : Int) : ∀ Q : VK, Q (.int (-i)) H → rU (fun i => .int (-i)) (.int i) H Q := fun _ q => ⟨i, rfl, q⟩
theorem k_eqI (i j : Int) : ∀ Q : VK, Q (.bl (decide (i = j))) H → rEq (.int i) (.int j) H Q := fun Q q => ⟨rfl, by
  have e : decide (V.int i = V.int j) = decide (i = j) := by by_cases h : i = j <;> simp [h]
  rw [e]; exact q⟩
theorem k_neI (i j : Int) : ∀ Q : VK, Q (.bl (!decide (i = j))) H → rNe (.int i) (.int j) H Q := fun Q q => ⟨rfl, by
  have e : decide (V.int i = V.int j) = decide (i = j) := by by_cases h : i = j <;> simp [h]
  rw [e]; exact q⟩
theorem vS_eq (l m : List Nat) : decide (vS l = vS m) = decide (l = m) := by
  by_cases h : l = m
  · subst h; simp
  · rw [decide_eq_false h, decide_eq_false]
    intro e
    exact h (sS_inj (V.str.inj e))
theorem k_eqS (l m : List Nat) : ∀ Q : VK, Q (.bl (decide (l = m))) H → rEq (vS l) (vS m) H Q := fun Q q => ⟨rfl, by rw [vS_eq]; exact q⟩
theorem k_neS (l m : List Nat) : ∀ Q : VK, Q (.bl (!decide (l = m))) H → rNe (vS l) (vS m) H Q := fun Q q => ⟨rfl, by rw [vS_eq]; exact q⟩
theorem k_eqB (l m : Bool) : ∀ Q : VK, Q (.bl (decide (l = m))) H → rEq (.bl l) (.bl m) H Q := fun Q q => ⟨rfl, by
  have e : decide (V.bl l = V.bl m) = decide (l = m) := by cases l <;> cases m <;> rfl
  rw [e]; exact q⟩
theorem k_neB (l m : Bool) : ∀ Q : VK, Q (.bl (!decide (l = m))) H → rNe (.bl l) (.bl m) H Q := fun Q q => ⟨rfl, by
  have e : decide (V.bl l = V.bl m) = decide (l = m) := by cases l <;> cases m <;> rfl
  rw [e]; exact q⟩
/-! ### statements -/
theorem cps_op (h : ta σ H fun x H1 => tb σ H1 fun y H2 => rr x y H2 Q) : tOp rr ta tb σ H Q := h
theorem cps_un {r : V → Hp → VK → Prop} (h : ta σ H fun x H1 => r x H1 Q) : tUn r ta σ H Q := h
theorem cps_cons {t : TA} {Q : List V → Hp → Prop} (h : ta σ H fun x H1 => t σ H1 fun xs H2 => Q (x :: xs) H2) : tCons ta t σ H Q := h
theorem cps_nil {Q : List V → Hp → Prop} (h : Q [] H) : tNil σ H Q := h
theorem cps_cb {r : List V → Hp → VK → Prop} {t : TA} (h : t σ H fun vs H1 => r vs H1 Q) : tCB r t σ H Q := h
theorem cps_test {Q : Bool → Hp → Prop} (h : te σ H fun x H1 => ∃ k, x = .bl k ∧ Q k H1) : tTest te σ H Q := h
theorem cps_b {Q : Bool → Hp → Prop} (h : te σ H fun x H1 => ∃ k, x = .bl k ∧ Q k H1) : tB te σ H Q := h
theorem cps_not {Q : Bool → Hp → Prop} (h : tt σ H fun b H1 => Q (!b) H1) : tNot tt σ H Q := h
theorem cps_asg (τ : V → St) (e : ∀ x, σ.set i (some x) = τ x) (h : te σ H fun x H1 => rest D (τ x) H1) : tSeq (tAsg te (gName i)) rest D σ H := by
  have e' : τ = fun x => σ.set i (some x) := funext fun x => (e x).symm
  subst e'
  exact h
theorem cps_drop (h : te σ H fun _ H1 => rest D σ H1) : tSeq (tDrop te) rest D σ H := h
theorem cps_ret (h : te σ H D.rt) : tSeq (tRet te) rest D σ H := h
theorem cps_for {wi : TI} {g : TG} {tb : TS} (h : wi σ H fun J H1 => ∃ W : Nat → Nat → St → Hp → Prop, (∃ m, W 0 m σ H1) ∧ ∀ i m σ H, W i m σ H →
  (J.stop i H ∧ rest D σ H) ∨ (J.go i H ∧ ∃ N : St → Hp → Prop, (∀ σ' H', N σ' H' → ∃ m', m' < m ∧ W (i + 1) m' σ' H') ∧ ∀ x H', J.yld i H x H' → g x σ H' fun σ2 H2 => tb { D with nx := N, ct := N, bk := rest D } σ2 H2)) :
  tSeq (tFor wi g tb) rest D σ H := h
/-- an if behind which the rest goes on: P holds at the end of either way -/
theorem s_if (P : St → Hp → Prop) (k : ∀ σ' H', P σ' H' → rest D σ' H') (h : tt σ H fun b H1 => if b = true then ts { D with nx := rest D } σ H1 else tsu { D with nx := rest D } σ H1) : tSeq (tIfS tt ts tsu) rest D σ H := h
/-- by cases, the end of either way cut -/
theorem cut_if {P : St → Hp → Prop} {N : St → Hp → Prop} (b : Bool) (k : ∀ σ' H', P σ' H' → N σ' H')
    (h1 : b = true → ∀ N' : St → Hp → Prop, (∀ σ' H', P σ' H' → N' σ' H') → ts { D with nx := N' } σ H) (h2 : b = false → ∀ N' : St → Hp → Prop, (∀ σ' H', P σ' H' → N' σ' H') → tsu { D with nx := N' } σ H) :
    if b = true then ts { D with nx := N } σ H else tsu { D with nx := N } σ H := by
  cases b with
  | true => exact h1 rfl N k
  | false => exact h2 rfl N k
theorem if_cases {A B : Prop} (b : Bool) (h1 : b = true → A) (h2 : b = false → B) : if b = true then A else B := by
  cases b with
  | true => exact h1 rfl
  | false => exact h2 rfl
/-- the end of an expression cut -/
theorem cut_ev {P : V → Hp → Prop} (k : ∀ v H', P v H' → Q v H') (h : ∀ Q' : VK, (∀ v H', P v H' → Q' v H') → te σ H Q') : te σ H Q := h Q k
theorem cut_et {Q : Bool → Hp → Prop} {P : Bool → Hp → Prop} (k : ∀ v H', P v H' → Q v H') (h : ∀ Q' : Bool → Hp → Prop, (∀ v H', P v H' → Q' v H') → tt σ H Q') : tt σ H Q := h Q k
end
end MK

namespace MK
open PySem PySem.Spec L2
section
variable {J : It} {n : Nat} {G : Hp → Prop} {Y : Nat → Hp → V → Hp → Prop} {α β ρ S : Type}
theorem drop_at {xs : List α} {i : Nat} (h : i < xs.length) : xs.drop i = xs[i] :: xs.drop (i + 1) := by
  exact List.drop_eq_getElem_cons h
theorem loop_w (w : Walk J n G Y) {f : α → S → Option (Ctl ρ S)} {xs : List α} (hn : xs.length = n) {s0 : S} {res : Ctl ρ S} (hm : loopM f xs s0 = some res)
    {g : TG} {tb : TS} {D : Ends} {σ : St} {H : Hp} (P : S → St → Hp → Prop) (h0 : P s0 σ H) (hG : ∀ s σ H, P s σ H → G H)
    (turn : ∀ (i : Nat) x s c v σ H H', xs[i]? = some x → f x s = some c → (∀ s', c = .bk s' → res = .nx s') → (∀ r, c = .rt r → res = .rt r) → P s σ H → Y i H v H' →
      ∀ N : St → Hp → Prop, (∀ s' σ' H', c = .nx s' → P s' σ' H' → N σ' H') → g v σ H' fun σ2 H2 => tb { D with nx := N, ct := N, bk := D.nx } σ2 H2)
    (done : ∀ s' σ H, res = .nx s' → P s' σ H → D.nx σ H) :
    ∃ W : Nat → Nat → St → Hp → Prop, (∃ m, W 0 m σ H) ∧ ∀ i m σ H, W i m σ H →
      (J.stop i H ∧ D.nx σ H) ∨ (J.go i H ∧ ∃ N : St → Hp → Prop, (∀ σ' H', N σ' H' → ∃ m', m' < m ∧ W (i + 1) m' σ' H') ∧ ∀ x H', J.yld i H x H' → g x σ H' fun σ2 H2 => tb { D with nx := N, ct := N, bk := D.nx } σ2 H2) := by
  subst hn
  refine for_it w (fun i σ H => ∃ s, loopM f (xs.drop i) s = some res ∧ P s σ H) ⟨s0, by simpa using hm, h0⟩ (fun i σ H _ ⟨s, _, p⟩ => hG s σ H p) ?_ ?_
  · rintro i v σ H H' hi ⟨s, hl, p⟩ y
    rw [drop_at hi] at hl
    obtain ⟨c, e1, e2⟩ := bindS hl
    refine turn i xs[i] s c v σ H H' (by simp [hi]) e1 ?_ ?_ p y _ ?_
    · intro s' e; subst e; exact (someI e2).symm
    · intro r e; subst e; exact (someI e2).symm
    · intro s' σ' H' e p'; subst e; exact ⟨s', e2, p'⟩
  · rintro σ H ⟨s, hl, p⟩
    rw [List.drop_length] at hl
    exact done s σ H (someI hl).symm p
theorem fold_w (w : Walk J n G Y) {f : α → S → Option S} {xs : List α} (hn : xs.length = n) {s0 res : S} (hm : foldO f xs s0 = some res)
    {g : TG} {tb : TS} {D : Ends} {σ : St} {H : Hp} (P : S → St → Hp → Prop) (h0 : P s0 σ H) (hG : ∀ s σ H, P s σ H → G H)
    (turn : ∀ (i : Nat) x s s' v σ H H', xs[i]? = some x → f x s = some s' → P s σ H → Y i H v H' →
      ∀ N : St → Hp → Prop, (∀ σ' H', P s' σ' H' → N σ' H') → g v σ H' fun σ2 H2 => tb { D with nx := N, ct := N, bk := D.nx } σ2 H2)
    (done : ∀ σ H, P res σ H → D.nx σ H) :
    ∃ W : Nat → Nat → St → Hp → Prop, (∃ m, W 0 m σ H) ∧ ∀ i m σ H, W i m σ H →
      (J.stop i H ∧ D.nx σ H) ∨ (J.go i H ∧ ∃ N : St → Hp → Prop, (∀ σ' H', N σ' H' → ∃ m', m' < m ∧ W (i + 1) m' σ' H') ∧ ∀ x H', J.yld i H x H' → g x σ H' fun σ2 H2 => tb { D with nx := N, ct := N, bk := D.nx } σ2 H2) := by
  subst hn
  refine for_it w (fun i σ H => ∃ s, foldO f (xs.drop i) s = some res ∧ P s σ H) ⟨s0, by simpa using hm, h0⟩ (fun i σ H _ ⟨s, _, p⟩ => hG s σ H p) ?_ ?_
  · rintro i v σ H H' hi ⟨s, hl, p⟩ y
    rw [drop_at hi] at hl
    obtain ⟨c, e1, e2⟩ := bindS hl
    exact turn i xs[i] s c v σ H H' (by simp [hi]) e1 p y _ fun σ' H' p' => ⟨c, e2, p'⟩
  · rintro σ H ⟨s, hl, p⟩
    rw [List.drop_length] at hl
    cases someI hl
    exact done σ H p
theorem lc_w (w : Walk J n G Y) {f : α → S → Option (Option β × S)} {xs : List α} (hn : xs.length = n) {s0 s1 : S} {ys : List β} (hm : lcS f xs s0 = some (ys, s1)) (hz : n ≤ sizeLine)
    {g : TG} {tt : TT} {te : TE} {vs : List Nat} {σ : St} {H1 : Hp} {D : Addr} {Qd : Hp → Prop} (P : List V → List β → S → Hp → Prop) (h0 : P [] [] s0 (upd H1 D (.lst []))) (hG : ∀ av acc s H, P av acc s H → G H)
    (turn : ∀ (i : Nat) x s r s' v av acc H H', xs[i]? = some x → f x s = some (r, s') → P av acc s H → av.length < sizeLine → Y i H v H' →
      ∀ N : Hp → Prop, (r = none → ∀ H3, P av acc s' H3 → N H3) → (∀ y u H4, r = some y → P (av ++ [u]) (acc ++ [y]) s' H4 → N H4) → g v (wipe σ vs) H' fun σ2 H2 => wipe σ2 vs = wipe σ vs ∧ tt σ2 H2 fun b H3 =>
      if b = true then te σ2 H3 fun y H4 => ∃ acc, H4 D = some (.lst acc) ∧ acc.length < sizeLine ∧ N (upd H4 D (.lst (acc ++ [y]))) else N H3)
    (done : ∀ av H, P av ys s1 H → Qd H) :
    ∃ W : Nat → Nat → Hp → Prop, (∃ m, W 0 m (upd H1 D (.lst []))) ∧ ∀ i m H, W i m H →
      (J.stop i H ∧ Qd H) ∨ (J.go i H ∧ ∃ Nx : Hp → Prop, (∀ H', Nx H' → ∃ m', m' < m ∧ W (i + 1) m' H') ∧ ∀ x H', J.yld i H x H' → g x (wipe σ vs) H' fun σ2 H2 => wipe σ2 vs = wipe σ vs ∧ tt σ2 H2 fun b H3 =>
        if b = true then te σ2 H3 fun y H4 => ∃ acc, H4 D = some (.lst acc) ∧ acc.length < sizeLine ∧ Nx (upd H4 D (.lst (acc ++ [y]))) else Nx H3) := by
  subst hn
  refine lc_it w (fun i H => ∃ s av acc q, av.length ≤ i ∧ lcS f (xs.drop i) s = some q ∧ acc ++ q.1 = ys ∧ q.2 = s1 ∧ P av acc s H) ⟨s0, [], [], _, Nat.le_refl _, by simpa using hm, rfl, rfl, h0⟩ (fun i H _ ⟨s, av, acc, _, _, _, _, _, p⟩ => hG av acc s H p) ?_ ?_
  · rintro i v H H' hi ⟨s, av, acc, q, hl, hq, ha, hs, p⟩ y
    rw [drop_at hi] at hq
    obtain ⟨⟨r, s'⟩, e1, e2⟩ := bindS hq
    obtain ⟨q', e3, e4⟩ := bindS e2
    have e5 := someI e4
    refine turn i xs[i] s r s' v av acc H H' (by simp [hi]) e1 p (by omega) y _ ?_ ?_
    · intro e H3 p'
      subst e
      have e6 : q' = q := e5
      subst e6
      exact ⟨s', av, acc, q', by omega, e3, ha, hs, p'⟩
    · intro y' u H4 e p'
      subst e
      have e6 : (y' :: q'.1, q'.2) = q := e5
      subst e6
      refine ⟨s', av ++ [u], acc ++ [y'], q', by simp; omega, e3, by simpa using ha, hs, p'⟩
  · rintro H ⟨s, av, acc, q, hl, hq, ha, hs, p⟩
    rw [List.drop_length] at hq
    cases someI hq
    simp only [List.append_nil] at ha
    subst ha; subst hs
    exact done av H p
theorem lcS_of_P {f : α → Option (Option β)} : ∀ {xs : List α} {ys : List β}, lcP f xs = some ys → lcS (fun x (_ : Unit) => (f x).bind fun r => some (r, ())) xs () = some (ys, ())
  | [], ys, h => by cases h; rfl
  | x :: xs, ys, h => by
    obtain ⟨r, e1, h⟩ := bindS h
    obtain ⟨q, e2, h⟩ := bindS h
    have ih := lcS_of_P e2
    simp only [lcS, e1, Option.bind_some]
    rw [ih]
    cases r with
    | none => cases h; rfl
    | some y => cases h; rfl
theorem lcP_of_map {f : α → Option β} : ∀ {xs : List α} {ys : List β}, mapP f xs = some ys → lcP (fun x => (f x).bind fun r => some (some r)) xs = some ys
  | [], ys, h => by cases h; rfl
  | x :: xs, ys, h => by
    obtain ⟨r, e1, h⟩ := bindS h
    obtain ⟨q, e2, h⟩ := bindS h
    have ih := lcP_of_map e2
    simp only [lcP, e1, Option.bind_some]
    rw [ih]
    cases h; rfl
/-- no state -/
theorem lc_wP (w : Walk J n G Y) {f : α → Option (Option β)} {xs : List α} (hn : xs.length = n) {ys : List β} (hm : lcP f xs = some ys) (hz : n ≤ sizeLine)
    {g : TG} {tt : TT} {te : TE} {vs : List Nat} {σ : St} {H1 : Hp} {D : Addr} {Qd : Hp → Prop} (P : List V → List β → Hp → Prop) (h0 : P [] [] (upd H1 D (.lst []))) (hG : ∀ av acc H, P av acc H → G H)
    (turn : ∀ (i : Nat) x r v av acc H H', xs[i]? = some x → f x = some r → P av acc H → av.length < sizeLine → Y i H v H' →
      ∀ N : Hp → Prop, (r = none → ∀ H3, P av acc H3 → N H3) → (∀ y u H4, r = some y → P (av ++ [u]) (acc ++ [y]) H4 → N H4) → g v (wipe σ vs) H' fun σ2 H2 => wipe σ2 vs = wipe σ vs ∧ tt σ2 H2 fun b H3 =>
      if b = true then te σ2 H3 fun y H4 => ∃ acc, H4 D = some (.lst acc) ∧ acc.length < sizeLine ∧ N (upd H4 D (.lst (acc ++ [y]))) else N H3)
    (done : ∀ av H, P av ys H → Qd H) :
    ∃ W : Nat → Nat → Hp → Prop, (∃ m, W 0 m (upd H1 D (.lst []))) ∧ ∀ i m H, W i m H →
      (J.stop i H ∧ Qd H) ∨ (J.go i H ∧ ∃ Nx : Hp → Prop, (∀ H', Nx H' → ∃ m', m' < m ∧ W (i + 1) m' H') ∧ ∀ x H', J.yld i H x H' → g x (wipe σ vs) H' fun σ2 H2 => wipe σ2 vs = wipe σ vs ∧ tt σ2 H2 fun b H3 =>
        if b = true then te σ2 H3 fun y H4 => ∃ acc, H4 D = some (.lst acc) ∧ acc.length < sizeLine ∧ Nx (upd H4 D (.lst (acc ++ [y]))) else Nx H3) :=
  lc_w w hn (lcS_of_P hm) hz (fun av acc _ H => P av acc H) h0 (fun av acc _ H p => hG av acc H p) (fun i x _ r _ v av acc H H' h1 h2 h3 h4 h5 N k1 k2 => by
    obtain ⟨r', e1, e2⟩ := bindS h2
    have e3 : r' = r := congrArg Prod.fst (someI e2)
    subst e3
    exact turn i x r' v av acc H H' h1 e1 h3 h4 h5 N k1 k2) done
theorem lc_wM (w : Walk J n G Y) {f : α → Option β} {xs : List α} (hn : xs.length = n) {ys : List β} (hm : mapP f xs = some ys) (hz : n ≤ sizeLine)
    {g : TG} {tt : TT} {te : TE} {vs : List Nat} {σ : St} {H1 : Hp} {D : Addr} {Qd : Hp → Prop} (P : List V → List β → Hp → Prop) (h0 : P [] [] (upd H1 D (.lst []))) (hG : ∀ av acc H, P av acc H → G H)
    (turn : ∀ (i : Nat) x y v av acc H H', xs[i]? = some x → f x = some y → P av acc H → av.length < sizeLine → Y i H v H' →
      ∀ N : Hp → Prop, (∀ u H4, P (av ++ [u]) (acc ++ [y]) H4 → N H4) → g v (wipe σ vs) H' fun σ2 H2 => wipe σ2 vs = wipe σ vs ∧ tt σ2 H2 fun b H3 =>
      if b = true then te σ2 H3 fun y H4 => ∃ acc, H4 D = some (.lst acc) ∧ acc.length < sizeLine ∧ N (upd H4 D (.lst (acc ++ [y]))) else N H3)
    (done : ∀ av H, P av ys H → Qd H) :
    ∃ W : Nat → Nat → Hp → Prop, (∃ m, W 0 m (upd H1 D (.lst []))) ∧ ∀ i m H, W i m H →
      (J.stop i H ∧ Qd H) ∨ (J.go i H ∧ ∃ Nx : Hp → Prop, (∀ H', Nx H' → ∃ m', m' < m ∧ W (i + 1) m' H') ∧ ∀ x H', J.yld i H x H' → g x (wipe σ vs) H' fun σ2 H2 => wipe σ2 vs = wipe σ vs ∧ tt σ2 H2 fun b H3 =>
        if b = true then te σ2 H3 fun y H4 => ∃ acc, H4 D = some (.lst acc) ∧ acc.length < sizeLine ∧ Nx (upd H4 D (.lst (acc ++ [y]))) else Nx H3) :=
  lc_wP w hn (lcP_of_map hm) hz P h0 hG (fun i x r v av acc H H' h1 h2 h3 h4 h5 N k1 k2 => by
    obtain ⟨y, e1, e2⟩ := bindS h2
    have e3 : some y = r := someI e2
    subst e3
    exact turn i x y v av acc H H' h1 e1 h3 h4 h5 N (fun u H4 p => k2 y u H4 rfl p)) done
theorem lc_nm {K : St → Hp → Prop} {σ τ : St} {vs : List Nat} {i : Nat} {v : V} {H' : Hp} (e1 : (wipe σ vs).set i (some v) = τ) (e2 : wipe τ vs = wipe σ vs) (h : K τ H') :
    gName i v (wipe σ vs) H' fun σ2 H2 => wipe σ2 vs = wipe σ vs ∧ K σ2 H2 := by
  subst e1
  exact ⟨e2, h⟩
/-- while -/
theorem while_w {c : S → Option Bool} {f : S → Option (Ctl ρ S)} {fuel : Nat} {s0 : S} {res : Ctl ρ S} (hm : whileM c f fuel s0 = some res)
    {tc : TT} {tb : TS} {D : Ends} {rest : TS} {σ : St} {H : Hp} (P : S → St → Hp → Prop) (h0 : P s0 σ H)
    (test : ∀ s b σ H, c s = some b → P s σ H → ∀ Q : Bool → Hp → Prop, (∀ H1, P s σ H1 → Q b H1) → tc σ H Q)
    (body : ∀ s cc σ H, c s = some true → f s = some cc → (∀ s', cc = .bk s' → res = .nx s') → (∀ r, cc = .rt r → res = .rt r) → P s σ H →
      ∀ N : St → Hp → Prop, (∀ s' σ' H', cc = .nx s' → P s' σ' H' → N σ' H') → tb { D with nx := N, ct := N, bk := rest D } σ H)
    (done : ∀ s' σ H, res = .nx s' → P s' σ H → rest D σ H) : tSeq (tWhile tc tb) rest D σ H := by
  refine ⟨fun m σ H => ∃ s, whileM c f m s = some res ∧ P s σ H, ⟨fuel, s0, hm, h0⟩, ?_⟩
  rintro m σ H ⟨s, hl, p⟩
  cases m with
  | zero => cases hl
  | succ m =>
    obtain ⟨b, e1, e2⟩ := bindS hl
    refine test s b σ H e1 p _ fun H1 p1 => ?_
    cases b with
    | false =>
      rw [if_neg Bool.false_ne_true]
      rw [if_neg Bool.false_ne_true] at e2
      exact done s σ H1 (someI e2).symm p1
    | true =>
      rw [if_pos rfl]
      rw [if_pos rfl] at e2
      obtain ⟨cc, ec, e3⟩ := bindS e2
      refine ⟨fun σ' H' => ∃ s', cc = .nx s' ∧ P s' σ' H', fun σ' H' ⟨s', hs, p'⟩ => ⟨m, Nat.lt_succ_self _, s', ?_, p'⟩, body s cc σ H1 e1 ec ?_ ?_ p1 _ fun s' σ' H' e p' => ⟨s', e, p'⟩⟩
      · subst hs; exact e3
      · intro s' e; subst e; exact (someI e3).symm
      · intro r e; subst e; exact (someI e3).symm
/-- a while without break and return -/
def whileF {σ : Type} (c : σ → Option Bool) (f : σ → Option σ) : Nat → σ → Option σ
  | 0, _ => none
  | n + 1, s => (c s).bind fun b => if b = true then (f s).bind (whileF c f n) else some s
theorem while_f {c : S → Option Bool} {f : S → Option S} {fuel : Nat} {s0 res : S} (hm : whileF c f fuel s0 = some res)
    {tc : TT} {tb : TS} {D : Ends} {rest : TS} {σ : St} {H : Hp} (P : S → St → Hp → Prop) (h0 : P s0 σ H)
    (test : ∀ s b σ H, c s = some b → P s σ H → ∀ Q : Bool → Hp → Prop, (∀ H1, P s σ H1 → Q b H1) → tc σ H Q)
    (body : ∀ s s' σ H, c s = some true → f s = some s' → P s σ H →
      ∀ N : St → Hp → Prop, (∀ σ' H', P s' σ' H' → N σ' H') → tb { D with nx := N, ct := N, bk := rest D } σ H)
    (done : ∀ σ H, P res σ H → rest D σ H) : tSeq (tWhile tc tb) rest D σ H := by
  refine ⟨fun m σ H => ∃ s, whileF c f m s = some res ∧ P s σ H, ⟨fuel, s0, hm, h0⟩, ?_⟩
  rintro m σ H ⟨s, hl, p⟩
  cases m with
  | zero => cases hl
  | succ m =>
    obtain ⟨b, e1, e2⟩ := bindS hl
    refine test s b σ H e1 p _ fun H1 p1 => ?_
    cases b with
    | false =>
      rw [if_neg Bool.false_ne_true]
      rw [if_neg Bool.false_ne_true] at e2
      cases someI e2
      exact done σ H1 p1
    | true =>
      rw [if_pos rfl]
      rw [if_pos rfl] at e2
      obtain ⟨s', ec, e3⟩ := bindS e2
      exact ⟨fun σ' H' => P s' σ' H', fun σ' H' p' => ⟨m, Nat.lt_succ_self _, s', e3, p'⟩, body s s' σ H1 e1 ec p1 _ fun σ' H' p' => p'⟩
end
end MK

namespace MK
open PySem PySem.Spec L2

/-! ### mirrors of operations -/
def fdivM (i j : Int) : Option Int := if decide (0 < j ∧ j < 1073741824) = true then some (i / j) else none
def modM (i j : Int) : Option Int := if decide (0 < j) = true then some (i % j) else none
def mulM (i j : Int) : Option Int := if decide (i.natAbs.log2 + j.natAbs.log2 < 1000000) = true then some (i * j) else none
def powM (i j : Int) : Option Int := if decide (0 ≤ j ∧ (Builtin.Int.intBits i : Int) * j ≤ 2 ^ 27) = true then some (i ^ j.toNat) else none
def shlM (i j : Int) : Option Int := if decide (0 ≤ j ∧ j ≤ 1000000 ∧ i.natAbs < 2 ^ 64) = true then some (i * 2 ^ j.toNat) else none
def shrM (i j : Int) : Option Int := if decide (0 ≤ j) = true then some (i / 2 ^ j.toNat) else none
def catM (a b : List Nat) : Option (List Nat) := if decide (a.length + b.length ≤ sizeLine) = true then some (a ++ b) else none
def repM (l : List Nat) (n : Int) : Option (List Nat) := if decide (-(2 ^ 63) ≤ n ∧ n < 2 ^ 63 ∧ l.length * n.toNat ≤ sizeLine) = true then some (List.replicate n.toNat l).flatten else none
def cutL {α : Type} (xs : List α) (lo hi : Option Int) : List α := (xs.drop (HT.sIx xs.length 0 lo)).take (HT.sIx xs.length xs.length hi - HT.sIx xs.length 0 lo)
def idxM {α : Type} (xs : List α) (i : Int) : Option α := L2.atI xs i
def sidxM (l : List Nat) (i : Int) : Option (List Nat) := (L2.atI l i).bind fun c => some [c]
def setM {α : Type} (xs : List α) (i : Int) (x : α) : Option (List α) := (L2.ixN xs.length i).bind fun j => some (xs.set j x)
def appM {α : Type} (xs : List α) (y : α) : Option (List α) := if decide (xs.length < sizeLine) = true then some (xs ++ [y]) else none
def catLM {α : Type} (xs ys : List α) : Option (List α) := if decide (xs.length + ys.length ≤ sizeLine) = true then some (xs ++ ys) else none
def repLM {α : Type} (xs : List α) (n : Int) : Option (List α) := if decide (-(2 ^ 63) ≤ n ∧ n < 2 ^ 63 ∧ xs.length * n.toNat ≤ sizeLine) = true then some (List.replicate n.toNat xs).flatten else none
def rangeL (lo : Int) (n : Nat) : List Int := (List.range n).map fun i => lo + (i : Nat)
def rngM (lo hi : Int) : Option (List Int) := if decide (-(2 ^ 62) ≤ lo ∧ lo < 2 ^ 62 ∧ -(2 ^ 62) ≤ hi ∧ hi < 2 ^ 62 ∧ hi - lo ≤ sizeLine) = true then some (rangeL lo (hi - lo).toNat) else none
def joinM (s : List Nat) (ys : List (List Nat)) : Option (List Nat) := if decide ((ys.map List.length).sum + ys.length * s.length ≤ 16777216) = true then some (TL.joinL s ys) else none
theorem guardS {α : Type} {c : Prop} [Decidable c] {a r : α} (h : (if decide c = true then some a else none) = some r) : c ∧ a = r := by
  by_cases hc : c
  · rw [if_pos (decide_eq_true hc)] at h
    exact ⟨hc, someI h⟩
  · rw [if_neg (by simpa using hc)] at h
    cases h
theorem sizeLine_16 : sizeLine = 16777216 := by decide
theorem rangeL_len (lo : Int) (n : Nat) : (rangeL lo n).length = n := by simp [rangeL]
theorem rangeL_at {lo : Int} {n i : Nat} {x : Int} (h : (rangeL lo n)[i]? = some x) : x = lo + (i : Nat) ∧ i < n := by
  unfold rangeL at h
  rw [List.getElem?_map] at h
  by_cases hi : i < n
  · rw [List.getElem?_range hi] at h
    exact ⟨(someI h).symm, hi⟩
  · rw [List.getElem?_eq_none (by simp; omega)] at h
    cases h
/-! texts stay good -/
theorem OkS.nil : OkS [] := ⟨by simp, by simp⟩
theorem OkS.lit {l : List Nat} (h : (decide (l.length ≤ 16777216) && l.all (· < 0x110000)) = true) : OkS l := by
  simp only [Bool.and_eq_true, decide_eq_true_eq, List.all_eq_true] at h
  exact ⟨by rw [sizeLine_16]; exact h.1, fun c hc => h.2 c hc⟩
theorem OkS.cut {l : List Nat} (h : OkS l) (lo hi : Option Int) : OkS (cutL l lo hi) := ⟨by
  refine Nat.le_trans ?_ h.len
  unfold cutL
  rw [List.length_take, List.length_drop]; omega, fun c hc => h.cps c (List.mem_of_mem_drop (List.mem_of_mem_take hc))⟩
theorem OkS.cat {a b r : List Nat} (h : OkS a) (h2 : OkS b) (e : catM a b = some r) : OkS r := by
  obtain ⟨c, rfl⟩ := guardS e
  exact ⟨by rw [List.length_append]; exact c, fun x hx => (List.mem_append.mp hx).elim (h.cps x) (h2.cps x)⟩
theorem OkS.rep {a r : List Nat} {n : Int} (h : OkS a) (e : repM a n = some r) : OkS r := by
  obtain ⟨c, rfl⟩ := guardS e
  refine ⟨?_, fun x hx => ?_⟩
  · rw [List.length_flatten, List.map_replicate, List.sum_replicate_nat, Nat.mul_comm]; exact c.2.2
  · obtain ⟨l, hl, hx⟩ := List.mem_flatten.mp hx
    rw [(List.mem_replicate.mp hl).2] at hx
    exact h.cps x hx
theorem OkS.one {a : List Nat} (h : OkS a) {c : Nat} (hc : c ∈ a) : OkS [c] := ⟨by rw [sizeLine_16]; simp, fun x hx => by rw [List.mem_singleton.mp hx]; exact h.cps c hc⟩
theorem atI_mem {α : Type} {xs : List α} {i : Int} {x : α} (h : L2.atI xs i = some x) : x ∈ xs := by
  unfold L2.atI at h
  cases e : L2.ixN xs.length i with
  | none => rw [e] at h; cases h
  | some j => rw [e] at h; exact List.mem_of_getElem? h
theorem OkS.idx {a r : List Nat} {i : Int} (h : OkS a) (e : sidxM a i = some r) : OkS r := by
  obtain ⟨c, e1, e2⟩ := bindS e
  cases someI e2
  exact h.one (atI_mem e1)
theorem OkS.rev {a : List Nat} (h : OkS a) : OkS a.reverse := ⟨by rw [List.length_reverse]; exact h.len, fun x hx => h.cps x (List.mem_reverse.mp hx)⟩
theorem joinL_len (s : List Nat) : ∀ ys : List (List Nat), (TL.joinL s ys).length ≤ (ys.map List.length).sum + ys.length * s.length
  | [] => by simp [TL.joinL]
  | [p] => by simp [TL.joinL]
  | p :: q :: r => by
    have ih := joinL_len s (q :: r)
    simp only [TL.joinL, List.length_append, List.map_cons, List.sum_cons, List.length_cons] at ih ⊢
    have e : (r.length + 1 + 1) * s.length = (r.length + 1) * s.length + s.length := by rw [Nat.succ_mul]
    omega
theorem joinL_mem {s : List Nat} {x : Nat} : ∀ {ys : List (List Nat)}, x ∈ TL.joinL s ys → x ∈ s ∨ ∃ y ∈ ys, x ∈ y
  | [], h => by simp [TL.joinL] at h
  | [p], h => .inr ⟨p, by simp, by simpa [TL.joinL] using h⟩
  | p :: q :: r, h => by
    simp only [TL.joinL, List.mem_append] at h
    rcases h with h | h | h
    · exact .inr ⟨p, by simp, h⟩
    · exact .inl h
    · rcases joinL_mem h with h | ⟨y, hy, hx⟩
      · exact .inl h
      · exact .inr ⟨y, List.mem_cons_of_mem _ hy, hx⟩
theorem OkS.join {s r : List Nat} {ys : List (List Nat)} (h : OkS s) (hy : ∀ y ∈ ys, OkS y) (e : joinM s ys = some r) : OkS r := by
  obtain ⟨c, rfl⟩ := guardS e
  refine ⟨by rw [sizeLine_16]; exact Nat.le_trans (joinL_len s ys) c, fun x hx => ?_⟩
  rcases joinL_mem hx with hx | ⟨y, h1, h2⟩
  · exact h.cps x hx
  · exact (hy y h1).cps x h2
theorem cutS_L (l : List Nat) (lo hi : Option Int) : cutS (sS l) lo hi = sS (cutL l lo hi) := by
  unfold cutS cutL
  rw [sS_list, sS_len]
  rfl
theorem app_L (a b : List Nat) : sS a ++ sS b = sS (a ++ b) := by
  show (⟨(sS a).cps ++ (sS b).cps⟩ : Str) = _
  simp [sS]
theorem join_L (s : List Nat) (ys : List (List Nat)) : Txt.join (sS s) (ys.map sS) = sS (TL.joinL s ys) := by
  rw [TL.join_eq]
  have h := TL.tl_join (sS s) (ys.map sS)
  have e : (ys.map sS).map TL.tl = ys := by
    rw [List.map_map]
    have h2 : ys.map (TL.tl ∘ sS) = ys.map id := List.map_congr_left fun x _ => sS_list x
    rw [h2, List.map_id]
  rw [e] at h
  have e2 : TL.tl (sS s) = s := sS_list s
  rw [e2] at h
  have e3 : (Str.join (sS s) (ys.map sS)) = sS (TL.tl (Str.join (sS s) (ys.map sS))) := by
    show _ = (⟨(Str.join (sS s) (ys.map sS)).cps.toList.toArray⟩ : Str)
    rw [Array.toArray_toList]
  rw [e3, h]

section
variable {X : Cx} {σ : St} {H : Hp} {K : PySem.W.Frag}
/-! ### rules the kit lacks -/
def CPowX (i j : Int) : Prop := 0 ≤ j ∧ (Builtin.Int.intBits i : Int) * j ≤ 2 ^ 27
theorem op_powX : OpR X (binaryOp .Pow) (rI CPowX fun i j => .int (i ^ j.toNat)) := opI fun _ _ _ _ _ _ _ hc q => PyProof.Rows.pow_int hc.1 hc.2 q
theorem foldl_rep (x : Array Nat) : ∀ (n : Nat) (acc : Array Nat), (List.replicate n x).foldl (· ++ ·) acc = (acc.toList ++ (List.replicate n x.toList).flatten).toArray
  | 0, acc => by simp
  | n + 1, acc => by
    rw [List.replicate_succ, List.foldl_cons, foldl_rep x n (acc ++ x)]
    simp [List.replicate_succ]
/-- text * int -/
def rRepS : R2 := fun x y H Q => ∃ l n, x = vS l ∧ y = .int n ∧ -(2 ^ 63) ≤ n ∧ n < 2 ^ 63 ∧ l.length ≤ sizeLine ∧ l.length * n.toNat ≤ sizeLine ∧ Q (vS (List.replicate n.toNat l).flatten) H
theorem op_repS : OpR X (binaryOp .Mult) rRepS := by
  intro pins s σ H x y v u Q I rx ry h
  obtain ⟨l, n, rfl, rfl, h1, h2, h3, h4, q⟩ := h
  obtain ⟨t, rfl⟩ := rx
  obtain ⟨t', rfl⟩ := ry
  refine P.mul_str ?_ (fun hn _ => ?_) (fun hn _ => ?_) ?_
  · rw [decide_eq_false (by omega), decide_eq_false (by omega)]; rfl
  · rw [sS_len]
    have hn' : 0 < n := by omega
    rw [show ((l.length : Int) > (2 ^ 63 - 1) / n ↔ (2 ^ 63 - 1) / n < (l.length : Int)) from Iff.rfl, Int.ediv_lt_iff_lt_mul hn']
    have e : ((l.length * n.toNat : Nat) : Int) = (l.length : Int) * n := by rw [Int.natCast_mul, Int.toNat_of_nonneg (by omega)]
    have : ((l.length * n.toNat : Nat) : Int) ≤ (sizeLine : Int) := by exact_mod_cast h4
    rw [e, sizeLine_16] at this
    omega
  · rw [sS_len]
    unfold PySem.Builtin.Str.tooLong
    exact decide_eq_false (Nat.not_lt.mpr h4)
  · by_cases c1 : n < 1
    · rw [if_pos c1]
      have e : n.toNat = 0 := by omega
      rw [e] at q
      exact ⟨by decide, V.str _, H, I.tok _, ⟨_, rfl⟩, q⟩
    · rw [if_neg c1]
      by_cases c2 : (n == 1 || (sS l).length == 0) = true
      · rw [if_pos c2]
        refine ⟨V.str (sS l), H, I, ⟨t, rfl⟩, ?_⟩
        have e : (List.replicate n.toNat l).flatten = l := by
          rcases Bool.or_eq_true_iff.mp c2 with c | c
          · have : n = 1 := by simpa using c
            subst this; simp
          · have : l = [] := by
              have : l.length = 0 := by rw [← sS_len]; simpa using c
              exact List.length_eq_zero_iff.mp this
            subst this; simp
        rw [e] at q
        exact q
      · rw [if_neg c2]
        have e : (⟨(List.replicate n.toNat (sS l).cps).foldl (· ++ ·) #[]⟩ : Str) = sS (List.replicate n.toNat l).flatten := by
          rw [foldl_rep]
          simp [sS]
        rw [e]
        refine ⟨?_, V.str _, H, I.tok _, ⟨_, rfl⟩, q⟩
        rw [sS_len, List.length_flatten, List.map_replicate, List.sum_replicate_nat, Nat.mul_comm]
        exact h4
end
end MK

namespace MK
open PySem PySem.Spec L2
section
variable {X : Cx} {σ : St} {H G G' H' : Hp} {K : PySem.W.Frag} {te tf tg : TE} {tl th : TO} {v w x y z : V} {α β γ δ : Type} {R : Rep α} {S : Rep β} {T : Rep γ} {U : Rep δ}
theorem pe_globI {n : Str} {i : Int} {pos : Pos} (hm : ∃ t, X.mg n = some (.int i t)) (hg : Gl X n := by rfl) (hd : (n == ("__debug__" : Str)) = false := by decide) : PE X (.Name n pos) (tC (.int i)) := by
  obtain ⟨t, h⟩ := hm
  exact pe_glob hg h ⟨t, rfl⟩ hd
theorem pe_globS {n x : Str} {pos : Pos} (hm : ∃ t, X.mg n = some (.str x t)) (hg : Gl X n := by rfl) (hd : (n == ("__debug__" : Str)) = false := by decide) : PE X (.Name n pos) (tC (.str x)) := by
  obtain ⟨t, h⟩ := hm
  exact pe_glob hg h ⟨t, rfl⟩ hd
theorem ev_str {s : Str} {l : List Nat} (h : s = sS l) : EV (tC (.str s)) σ H (vS l) := fun Q q => by rw [h]; exact q
theorem castI {a b : Int} (e : some a = some b) (h : EV te σ H (.int a)) : EV te σ H (.int b) := by cases e; exact h
theorem castB {a b : Bool} (e : some a = some b) (h : EV te σ H (.bl a)) : EV te σ H (.bl b) := by cases e; exact h
theorem castS {a b : List Nat} (e : some a = some b) (h : EV te σ H (vS a)) : EV te σ H (vS b) := by cases e; exact h
theorem castOk {a b : List Nat} (e : some a = some b) (h : OkS a) : OkS b := by cases e; exact h
theorem castET {tt : TT} {a b : Bool} (e : some a = some b) (h : ET tt σ H a) : ET tt σ H b := by cases e; exact h
theorem et_andM {tt tu : TT} {a b : Bool} {m : Option Bool} (h : ET tt σ H a) (e : (if a = true then m else some false) = some b) (h2 : a = true → m = some b → ET tu σ H b) : ET (tAnd tt tu) σ H b := fun Q q => h _ (by
  cases a with
  | true => exact h2 rfl (by simpa using e) Q q
  | false => rw [if_neg Bool.false_ne_true] at e ⊢; cases someI e; exact q)
theorem et_orM {tt tu : TT} {a b : Bool} {m : Option Bool} (h : ET tt σ H a) (e : (if a = true then some true else m) = some b) (h2 : a = false → m = some b → ET tu σ H b) : ET (tOr tt tu) σ H b := fun Q q => h _ (by
  cases a with
  | true => rw [if_pos rfl] at e ⊢; cases someI e; exact q
  | false => exact h2 rfl (by simpa using e) Q q)
theorem ev_andM {a b : Bool} {m : Option Bool} (h : EV te σ H (.bl a)) (e : (if a = true then m else some false) = some b) (h2 : a = true → m = some b → EV tf σ H (.bl b)) : EV (tAndV te tf) σ H (.bl b) := fun Q q => h _ ⟨a, rfl, by
  cases a with
  | true => exact h2 rfl (by simpa using e) Q q
  | false => rw [if_neg Bool.false_ne_true] at e ⊢; cases someI e; exact q⟩
theorem ev_orM {a b : Bool} {m : Option Bool} (h : EV te σ H (.bl a)) (e : (if a = true then some true else m) = some b) (h2 : a = false → m = some b → EV tf σ H (.bl b)) : EV (tOrV te tf) σ H (.bl b) := fun Q q => h _ ⟨a, rfl, by
  cases a with
  | true => rw [if_pos rfl] at e ⊢; cases someI e; exact q
  | false => exact h2 rfl (by simpa using e) Q q⟩
/-- a if c else b, of values -/
theorem ev_ifI {tt : TT} {c : Bool} {a b : Int} (h : ET tt σ H c) (h1 : c = true → EV te σ H (.int a)) (h2 : c = false → EV tf σ H (.int b)) : EV (tIf tt te tf) σ H (.int (if c = true then a else b)) := ev_if h (fun e => by rw [if_pos e]; exact h1 e) (fun e => by rw [e, if_neg Bool.false_ne_true]; exact h2 e)
theorem ev_ifM {tt : TT} {c : Bool} {m n : Option α} {r : α} {v : V} (h : ET tt σ H c) (e : (if c = true then m else n) = some r) (h1 : c = true → m = some r → EV te σ H v) (h2 : c = false → n = some r → EV tf σ H v) : EV (tIf tt te tf) σ H v := ev_if h (fun q => h1 q (iteT' e q)) (fun q => h2 q (iteF' e q))
/-- a < b < c -/
theorem ev_chain {r r' : R2} {b c : Bool} (h1 : EV te σ H x) (h2 : EV tf σ H y) (k1 : ∀ Q : VK, Q (.bl b) H → r x y H Q) (h3 : EV tg σ H z) (k2 : ∀ Q : VK, Q (.bl c) H → r' y z H Q) : EV (tChain r r' te tf tg) σ H (.bl (b && c)) := fun Q q => h1 _ (h2 _ (k1 _ ⟨b, rfl, by
  cases b with
  | true => exact h3 _ (k2 _ q)
  | false => exact q⟩))
theorem ev_sl {r : V → Option Int → Option Int → Hp → VK → Prop} {lo hi : Option Int} (h1 : EV te σ H x) (h2 : EO tl σ H lo) (h3 : EO th σ H hi) (k : ∀ Q : VK, Q z H → r x lo hi H Q) : EV (tSl r te tl th) σ H z := fun Q q => h1 _ (h2 _ (h3 _ (k Q q)))
theorem cps_sl {r : V → Option Int → Option Int → Hp → VK → Prop} {Q : VK} (h : te σ H fun x H1 => tl σ H1 fun l H2 => th σ H2 fun u H3 => r x l u H3 Q) : tSl r te tl th σ H Q := h
theorem cps_part {Q : Option Int → Hp → Prop} (h : te σ H fun x H1 => ∃ i, x = .int i ∧ Q (some i) H1) : tPart te σ H Q := h
theorem cps_nopart {Q : Option Int → Hp → Prop} (h : Q none H) : tNoPart σ H Q := h
/-! numbers with a check -/
theorem k_fdiv {i j r : Int} (h : fdivM i j = some r) : ∀ Q : VK, Q (.int r) H → rI CDiv (fun i j => .int (i / j)) (.int i) (.int j) H Q := by
  obtain ⟨c, rfl⟩ := guardS h
  exact fun Q q => ⟨i, j, rfl, rfl, c, q⟩
theorem k_mod {i j r : Int} (h : modM i j = some r) : ∀ Q : VK, Q (.int r) H → rI (fun _ j => 0 < j) (fun i j => .int (i % j)) (.int i) (.int j) H Q := by
  obtain ⟨c, rfl⟩ := guardS h
  exact fun Q q => ⟨i, j, rfl, rfl, c, q⟩
theorem k_mul {i j r : Int} (h : mulM i j = some r) : ∀ Q : VK, Q (.int r) H → rI CMulW (fun i j => .int (i * j)) (.int i) (.int j) H Q := by
  obtain ⟨c, rfl⟩ := guardS h
  exact fun Q q => ⟨i, j, rfl, rfl, c, q⟩
theorem k_pow {i j r : Int} (h : powM i j = some r) : ∀ Q : VK, Q (.int r) H → rI CPowX (fun i j => .int (i ^ j.toNat)) (.int i) (.int j) H Q := by
  obtain ⟨c, rfl⟩ := guardS h
  exact fun Q q => ⟨i, j, rfl, rfl, c, q⟩
theorem k_shl {i j r : Int} (h : shlM i j = some r) : ∀ Q : VK, Q (.int r) H → rI CPow (fun i j => .int (i * 2 ^ j.toNat)) (.int i) (.int j) H Q := by
  obtain ⟨c, rfl⟩ := guardS h
  exact fun Q q => ⟨i, j, rfl, rfl, c, q⟩
theorem k_shr {i j r : Int} (h : shrM i j = some r) : ∀ Q : VK, Q (.int r) H → rI (fun _ j => 0 ≤ j) (fun i j => .int (i / 2 ^ j.toNat)) (.int i) (.int j) H Q := by
  obtain ⟨c, rfl⟩ := guardS h
  exact fun Q q => ⟨i, j, rfl, rfl, c, q⟩
/-! texts -/
theorem k_cat {a b r : List Nat} (h : catM a b = some r) : ∀ Q : VK, Q (vS r) H → (∃ i j, vS a = .str i ∧ vS b = .str j ∧ i.length + j.length ≤ sizeLine ∧ Q (.str (i ++ j)) H) := by
  obtain ⟨c, rfl⟩ := guardS h
  exact fun Q q => ⟨sS a, sS b, rfl, rfl, by rw [sS_len, sS_len]; exact c, by rw [app_L]; exact q⟩
theorem k_rep {a r : List Nat} {n : Int} (ha : OkS a) (h : repM a n = some r) : ∀ Q : VK, Q (vS r) H → rRepS (vS a) (.int n) H Q := by
  obtain ⟨c, rfl⟩ := guardS h
  exact fun Q q => ⟨a, n, rfl, rfl, c.1, c.2.1, ha.len, c.2.2, q⟩
theorem k_cutS {l : List Nat} {lo hi : Option Int} (h : OkS l) : ∀ Q : VK, Q (vS (cutL l lo hi)) H → rSlS (vS l) lo hi H Q := fun Q q => ⟨sS l, rfl, by rw [sS_len]; exact h.len, by rw [cutS_L]; exact q⟩
theorem k_idxS {l r : List Nat} {i : Int} (h : OkS l) (e : sidxM l i = some r) : ∀ Q : VK, Q (vS r) H → rIxS (vS l) (.int i) H Q := by
  obtain ⟨c, e1, e2⟩ := bindS e
  cases someI e2
  exact fun Q q => ⟨sS l, i, c, rfl, rfl, by rw [sS_len]; exact h.len, by rw [sS_list]; exact e1, q⟩
theorem k_lenS {l : List Nat} (h : OkS l) : ∀ Q : VK, Q (.int (l.length : Int)) H → (∃ z, [vS l] = [V.str z] ∧ z.length ≤ sizeLine ∧ Q (.int z.length) H) := fun Q q => ⟨sS l, rfl, by rw [sS_len]; exact h.len, by rw [sS_len]; exact q⟩
theorem k_ltS (a b : List Nat) : ∀ Q : VK, Q (.bl (decide (a < b))) H → (∃ i j, vS a = .str i ∧ vS b = .str j ∧ Q (.bl (decide (i.cps.toList < j.cps.toList))) H) := fun Q q => ⟨sS a, sS b, rfl, rfl, by rw [sS_list, sS_list]; exact q⟩
theorem k_leS (a b : List Nat) : ∀ Q : VK, Q (.bl (!decide (b < a))) H → (∃ i j, vS a = .str i ∧ vS b = .str j ∧ Q (.bl (!decide (j.cps.toList < i.cps.toList))) H) := fun Q q => ⟨sS a, sS b, rfl, rfl, by rw [sS_list, sS_list]; exact q⟩
theorem k_join {s r : List Nat} {ys : List (List Nat)} (h : pL pS ys v H) (e : joinM s ys = some r) : ∀ Q : VK, Q (vS r) H → (∃ a p, ∃ ys : List Str, vS s = .str a ∧ [v] = [.ref p] ∧ (SqL K H p (ys.map V.str) ∨ SqT K H p (ys.map V.str)) ∧ (ys.map (·.length)).sum + ys.length * a.length ≤ 16777216 ∧ Q (.str (Txt.join a ys)) H) := by
  obtain ⟨c, rfl⟩ := guardS e
  obtain ⟨p, vs, rfl, hp, ha, _⟩ := h
  obtain ⟨rfl, _⟩ := ha.str
  refine fun Q q => ⟨sS s, p, ys.map sS, rfl, rfl, .inl (SqL.of (by rw [← vS_map]; exact hp)), ?_, by rw [join_L]; exact q⟩
  rw [List.map_map, List.length_map, sS_len]
  have e2 : ys.map ((fun x : Str => x.length) ∘ sS) = ys.map List.length := List.map_congr_left fun x _ => sS_len x
  rw [e2]
  exact c
theorem ok_join {s r : List Nat} {ys : List (List Nat)} (hs : OkS s) (h : pL pS ys v H) (e : joinM s ys = some r) : OkS r := by
  obtain ⟨p, vs, rfl, hp, ha, _⟩ := h
  exact hs.join ha.str.2 e
/-! lists -/
theorem k_lenL {xs : List α} (h : pL R xs v H) : ∀ Q : VK, Q (.int (xs.length : Int)) H → (∃ p ys, [v] = [.ref p] ∧ (SqL K H p ys ∨ SqT K H p ys) ∧ Q (.int ys.length) H) := by
  obtain ⟨a, vs, rfl, ha, hx, _⟩ := h
  exact fun Q q => ⟨a, vs, rfl, .inl (SqL.of ha), by rw [← hx.len]; exact q⟩
theorem k_lenScr {ns : List Int} (h : pScr K ns v H) : ∀ Q : VK, Q (.int (ns.length : Int)) H → (∃ p ys, [v] = [.ref p] ∧ (SqL K H p ys ∨ SqT K H p ys) ∧ Q (.int ys.length) H) := by
  obtain ⟨a, rfl, ha⟩ := h
  exact fun Q q => ⟨a, _, rfl, .inl ha, by rw [List.length_map]; exact q⟩
theorem atI_some {α : Type} {xs : List α} {i : Int} {x : α} (h : L2.atI xs i = some x) : ∃ j, L2.ixN xs.length i = some j ∧ xs[j]? = some x := bindS h
theorem All2.atI {xs : List α} {vs : List V} {i : Int} {x : α} (h : All2 R H xs vs) (e : L2.atI xs i = some x) : ∃ w, L2.atI vs i = some w ∧ R x w H := by
  obtain ⟨j, h1, h2⟩ := atI_some e
  obtain ⟨w, h3, h4⟩ := h.get h2
  exact ⟨w, by unfold L2.atI; rw [← h.len, h1]; exact h3, h4⟩
theorem k_idxL {xs : List α} {i : Int} {x : α} (h : pL R xs v H) (e : idxM xs i = some x) : ∃ w, R x w H ∧ ∀ Q : VK, Q w H → rIxL K v (.int i) H Q := by
  obtain ⟨a, vs, rfl, ha, hx, _⟩ := h
  obtain ⟨w, h1, h2⟩ := hx.atI e
  exact ⟨w, h2, fun Q q => ⟨a, vs, i, w, rfl, rfl, SqL.of ha, h1, q⟩⟩
theorem k_idxScr {ns : List Int} {i : Int} {x : Int} (h : pScr K ns v H) (e : idxM ns i = some x) : ∀ Q : VK, Q (.int x) H → rIxL K v (.int i) H Q := by
  obtain ⟨a, rfl, ha⟩ := h
  obtain ⟨j, h1, h2⟩ := atI_some e
  exact fun Q q => ⟨a, _, i, _, rfl, rfl, ha, by unfold L2.atI; rw [List.length_map, h1]; show (ns.map V.int)[j]? = _; rw [List.getElem?_map, h2]; rfl, q⟩
/-- a place of a tuple whose items are of one kind -/
theorem k_idxT {xs : List α} {vs : List V} {a : Addr} {i : Int} {x : α} (ha : H a = some (.tup vs)) (h : All2 R H xs vs) (e : idxM xs i = some x) : ∃ w, R x w H ∧ ∀ Q : VK, Q w H → rIxT K (.ref a) (.int i) H Q := by
  obtain ⟨w, h1, h2⟩ := h.atI e
  exact ⟨w, h2, fun Q q => ⟨a, vs, i, w, rfl, rfl, SqT.of ha, h1, q⟩⟩
theorem k_idxLl {xs : List α} {vs : List V} {a : Addr} {i : Int} {x : α} (ha : H a = some (.lst vs)) (h : All2 R H xs vs) (e : idxM xs i = some x) : ∃ w, R x w H ∧ ∀ Q : VK, Q w H → rIxL K (.ref a) (.int i) H Q := by
  obtain ⟨w, h1, h2⟩ := h.atI e
  exact ⟨w, h2, fun Q q => ⟨a, vs, i, w, rfl, rfl, SqL.of ha, h1, q⟩⟩
theorem cutV_L {xs : List α} {vs : List V} (h : All2 R H xs vs) (lo hi : Option Int) : All2 R H (cutL xs lo hi) (cutV vs lo hi) := by
  unfold cutL cutV
  rw [← h.len]
  exact (h.drop _).take _
theorem cutL_len {xs : List α} (lo hi : Option Int) : (cutL xs lo hi).length ≤ xs.length := by
  unfold cutL
  rw [List.length_take, List.length_drop]; omega
theorem setM_some {xs ys : List α} {i : Int} {x : α} (e : setM xs i x = some ys) : ∃ j, L2.ixN xs.length i = some j ∧ ys = xs.set j x := by
  obtain ⟨j, h1, h2⟩ := bindS e
  exact ⟨j, h1, (someI h2).symm⟩
end
/-! ### == of data -/
class Dt {α : Type} (R : Rep α) where
  toD : α → PyData
  dep : Nat
  dp : ∀ {K : PySem.W.Frag} {x : α} {v : V} {H : Hp}, R x v H → Dp K H v (toD x)
  can : ∀ {x : α} {v : V} {H : Hp}, R x v H → (toD x).canLay0 = true
  depth : ∀ x, (toD x).depth ≤ dep
  eqv : ∀ x y, PyData.eqv (toD x) (toD y) = true ↔ x = y
class Nn {α : Type} (R : Rep α) [Dt R] : Prop where
  nn : ∀ x : α, PyData.eqv (.none) (Dt.toD R x) = false ∧ PyData.eqv (Dt.toD R x) (.none) = false
instance : Dt pI where
  toD := .int
  dep := 0
  dp := fun h => by rw [show _ = _ from h]; exact .int _
  can := fun _ => rfl
  depth := fun _ => Nat.le_refl _
  eqv := fun x y => by simp [PyData.eqv]
instance : Dt pB where
  toD := .bool
  dep := 0
  dp := fun h => by rw [show _ = _ from h]; exact .bl _
  can := fun _ => rfl
  depth := fun _ => Nat.le_refl _
  eqv := fun x y => by simp [PyData.eqv]
instance : Dt pS where
  toD := fun l => .str (sS l)
  dep := 0
  dp := fun h => by rw [show _ = _ from h.1]; exact .str _
  can := fun {x} {v} {H} h => by
    simp only [PyData.canLay0, PyData.strOk, Array.all_eq_true']
    intro c hc
    have : c ∈ x := by rw [← sS_list x]; exact Array.mem_toList_iff.mpr hc
    exact decide_eq_true (h.2.cps c this)
  depth := fun _ => Nat.le_refl _
  eqv := fun x y => by
    simp only [PyData.eqv, beq_iff_eq]
    exact ⟨sS_inj, fun e => by rw [e]⟩
instance : Nn pI := ⟨fun _ => by simp [Dt.toD, PyData.eqv]⟩
instance : Nn pB := ⟨fun _ => by simp [Dt.toD, PyData.eqv]⟩
instance : Nn pS := ⟨fun _ => by simp [Dt.toD, PyData.eqv]⟩
theorem canAll_map {α : Type} {R : Rep α} [Dt R] {H : Hp} : ∀ {xs : List α} {vs : List V}, All2 R H xs vs → PyData.canLayAll0 (xs.map (Dt.toD R)) = true
  | _, _, .nil => rfl
  | _, _, .cons r t => by simp only [List.map_cons, PyData.canLayAll0, Dt.can r, canAll_map t, Bool.and_self]
theorem depAll_map {α : Type} {R : Rep α} [Dt R] : ∀ xs : List α, PyData.depthAll (xs.map (Dt.toD R)) ≤ Dt.dep R
  | [] => Nat.zero_le _
  | x :: xs => by simp only [List.map_cons, PyData.depthAll]; exact Nat.max_le.mpr ⟨Dt.depth x, depAll_map xs⟩
theorem eqvAll_map {α : Type} {R : Rep α} [Dt R] : ∀ xs ys : List α, PyData.eqvAll (xs.map (Dt.toD R)) (ys.map (Dt.toD R)) = true ↔ xs = ys
  | [], [] => by simp [PyData.eqvAll]
  | [], y :: ys => by simp [PyData.eqvAll]
  | x :: xs, [] => by simp [PyData.eqvAll]
  | x :: xs, y :: ys => by simp only [List.map_cons, PyData.eqvAll, Bool.and_eq_true, Dt.eqv, eqvAll_map xs ys, List.cons.injEq]
theorem dpAll_map {α : Type} {R : Rep α} [Dt R] {K : PySem.W.Frag} {H : Hp} : ∀ {xs : List α} {vs : List V}, All2 R H xs vs → DpAll K H vs (xs.map (Dt.toD R))
  | _, _, .nil => .nil
  | _, _, .cons r t => .cons (Dt.dp r) (dpAll_map t)
instance {α : Type} {R : Rep α} [Dt R] : Dt (pL R) where
  toD := fun xs => .list (xs.map (Dt.toD R))
  dep := Dt.dep R + 1
  dp := fun ⟨a, vs, e, h, p, _⟩ => by rw [e]; exact .lst (SqL.of h) (dpAll_map p)
  can := fun ⟨a, vs, e, h, p, _⟩ => by simp only [PyData.canLay0]; exact canAll_map p
  depth := fun xs => by simp only [PyData.depth]; exact Nat.succ_le_succ (depAll_map xs)
  eqv := fun x y => by simp only [PyData.eqv]; exact eqvAll_map x y
instance {α : Type} {R : Rep α} [Dt R] : Nn (pL R) := ⟨fun _ => by simp [Dt.toD, PyData.eqv]⟩
instance {α : Type} {R : Rep α} [Dt R] [Nn R] : Dt (pO R) where
  toD := fun o => match o with | none => .none | some x => Dt.toD R x
  dep := Dt.dep R
  dp := fun {K x v H} h => by
    cases x with
    | none => rw [show v = .non from h]; exact .non
    | some x => exact Dt.dp (R := R) h
  can := fun {x v H} h => by
    cases x with
    | none => rfl
    | some x => exact Dt.can (R := R) h
  depth := fun x => by
    cases x with
    | none => exact Nat.zero_le _
    | some x => exact Dt.depth x
  eqv := fun x y => by
    cases x with
    | none => cases y with
      | none => simp [PyData.eqv]
      | some y => simp [(Nn.nn (R := R) y).1]
    | some x => cases y with
      | none => simp [(Nn.nn (R := R) x).2]
      | some y => simp [Dt.eqv]
instance {α β : Type} {R : Rep α} {S : Rep β} [Dt R] [Dt S] : Dt (pT2 R S) where
  toD := fun p => .tuple [Dt.toD R p.1, Dt.toD S p.2]
  dep := max (Dt.dep R) (Dt.dep S) + 1
  dp := fun ⟨a, u, w, e, h, p, q⟩ => by rw [e]; exact .tup (SqT.of h) (.cons (Dt.dp p) (.cons (Dt.dp q) .nil))
  can := fun ⟨a, u, w, e, h, p, q⟩ => by simp only [PyData.canLay0, PyData.canLayAll0, Dt.can p, Dt.can q, Bool.and_self]
  depth := fun p => by
    have h1 := Dt.depth (R := R) p.1
    have h2 := Dt.depth (R := S) p.2
    simp only [PyData.depth, PyData.depthAll]; omega
  eqv := fun x y => by
    obtain ⟨a, b⟩ := x
    obtain ⟨c, d⟩ := y
    simp [PyData.eqv, PyData.eqvAll, Dt.eqv]
instance {α β γ : Type} {R : Rep α} {S : Rep β} {T : Rep γ} [Dt R] [Dt S] [Dt T] : Dt (pT3 R S T) where
  toD := fun p => .tuple [Dt.toD R p.1, Dt.toD S p.2.1, Dt.toD T p.2.2]
  dep := max (max (Dt.dep R) (Dt.dep S)) (Dt.dep T) + 1
  dp := fun ⟨a, u, w, x, e, h, p, q, r⟩ => by rw [e]; exact .tup (SqT.of h) (.cons (Dt.dp p) (.cons (Dt.dp q) (.cons (Dt.dp r) .nil)))
  can := fun ⟨a, u, w, x, e, h, p, q, r⟩ => by simp only [PyData.canLay0, PyData.canLayAll0, Dt.can p, Dt.can q, Dt.can r, Bool.and_self]
  depth := fun p => by
    have h1 := Dt.depth (R := R) p.1
    have h2 := Dt.depth (R := S) p.2.1
    have h3 := Dt.depth (R := T) p.2.2
    simp only [PyData.depth, PyData.depthAll]; omega
  eqv := fun x y => by
    obtain ⟨a, b, c⟩ := x
    obtain ⟨d, e, f⟩ := y
    simp [PyData.eqv, PyData.eqvAll, Dt.eqv]
instance {α β : Type} {R : Rep α} {S : Rep β} [Dt R] [Dt S] : Nn (pT2 R S) := ⟨fun _ => by simp [Dt.toD, PyData.eqv]⟩
instance {α β γ : Type} {R : Rep α} {S : Rep β} {T : Rep γ} [Dt R] [Dt S] [Dt T] : Nn (pT3 R S T) := ⟨fun _ => by simp [Dt.toD, PyData.eqv]⟩
section
variable {σ : St} {H G : Hp} {K : PySem.W.Frag} {v w : V} {α : Type} [DecidableEq α] {R : Rep α} [Dt R]
theorem shapedD {x : α} (h : R x v H) (hd : Dt.dep R ≤ 64 := by decide) : SeqAt.shaped (Dt.toD R x) = true := by
  unfold SeqAt.shaped
  rw [Dt.can h, decide_eq_true (Nat.le_trans (Dt.depth x) hd)]
  rfl
theorem eqvD (x y : α) : PyData.eqv (Dt.toD R x) (Dt.toD R y) = decide (x = y) := by
  by_cases e : x = y
  · rw [decide_eq_true e]; exact (Dt.eqv x y).mpr e
  · rw [decide_eq_false e]
    cases q : PyData.eqv (Dt.toD R x) (Dt.toD R y) with
    | false => rfl
    | true => exact absurd ((Dt.eqv x y).mp q) e
theorem k_eqD {x y : α} (h1 : R x v H) (h2 : R y w H) (hd : Dt.dep R ≤ 64 := by decide) : ∀ Q : VK, Q (.bl (decide (x = y))) H → rEqD K v w H Q := fun Q q => ⟨Dt.toD R x, Dt.toD R y, Dt.dp h1, Dt.dp h2, shapedD h1 hd, shapedD h2 hd, by rw [eqvD]; exact q⟩
theorem k_neD {x y : α} (h1 : R x v H) (h2 : R y w H) (hd : Dt.dep R ≤ 64 := by decide) : ∀ Q : VK, Q (.bl (!decide (x = y))) H → rNeD K v w H Q := fun Q q => ⟨Dt.toD R x, Dt.toD R y, Dt.dp h1, Dt.dp h2, shapedD h1 hd, shapedD h2 hd, by rw [eqvD]; exact q⟩
end
end MK

namespace MK
open PySem PySem.Spec L2
section
variable {E G0 G G' G2 H H' : Hp} {M : List Addr} {cs : List (Addr × HO)} {p a : Addr} {o o' : HO} {α β γ δ : Type} {R : Rep α} {S : Rep β} {T : Rep γ} {U : Rep δ}
theorem W.dropN (w : W E G0 M G cs H) (k : Nat) : W E G0 M G (cs.drop k) H := w.sub' (List.drop_sublist k cs)
theorem W.callOwn (w : W E G0 M G cs H) (q : Post [] G H G' H') (hp : H p = none) (hG : G' p = none) (hH : H' p = some o) : W E G0 M G' ((p, o) :: cs) H' :=
  (w.call q).own' (w.freshE hp) hH hG (w.ne hp)
theorem W.callLay (w : W E G0 M G cs H) (q : Post [] G H G' H') (hp : H p = none) (hG : G' p = none) (hH : H' p = some o) : W E G0 M (upd G' p o) cs H' := by
  have h := (w.callOwn q hp hG hH).freeze 0 rfl (w.freshE hp)
  exact h
theorem W.callMOwn {r : Addr} {u : HO} (w : W E G0 M G cs H) (k : Nat) (hk : cs[k]? = some (p, o)) (q : Post [p] G H G' H') (hp' : H' p = some o') (hr : H r = none) (hG : G' r = none) (hH : H' r = some u) : W E G0 M G' ((r, u) :: cs.set k (p, o')) H' := by
  refine (w.callM k hk q hp').own' (w.freshE hr) hH hG fun c hc => ?_
  have hpp : (p, o) ∈ cs := List.mem_of_getElem? hk
  rcases mem_set_ne w.nd hk c hc with rfl | ⟨h1, h2⟩
  · have q2 := w.ne hr (p, o) hpp; exact q2
  · exact w.ne hr c h1
theorem W.callMLay {r : Addr} {u : HO} (w : W E G0 M G cs H) (k : Nat) (hk : cs[k]? = some (p, o)) (q : Post [p] G H G' H') (hp' : H' p = some o') (hr : H r = none) (hG : G' r = none) (hH : H' r = some u) : W E G0 M (upd G' r u) (cs.set k (p, o')) H' := by
  have h := (w.callMOwn k hk q hp' hr hG hH).freeze 0 rfl (w.freshE hr)
  exact h
theorem same_new (hG : G p = none) : L2.Same G (upd G p o) := fun b u e => by rw [upd_ne (ne_of_none e hG)]; exact e
theorem pL_new [Mn R] {xs : List α} {vs : List V} (hG : G p = none) (ha : All2 R G xs vs) (hl : xs.length ≤ sizeLine) : pL R xs (.ref p) (upd G p (.lst vs)) := ⟨p, vs, rfl, upd_same, All2.mono ha (same_new hG), hl⟩
theorem pL_cell [Mn R] {xs : List α} {vs : List V} (hH : H p = some (.lst vs)) (ha : All2 R G xs vs) (s : L2.Same G H) (hl : xs.length ≤ sizeLine) : pL R xs (.ref p) H := ⟨p, vs, rfl, hH, All2.mono ha s, hl⟩
theorem pT2_new [Mn R] [Mn S] {x : α} {y : β} {u v : V} (hG : G p = none) (h1 : R x u G) (h2 : S y v G) : pT2 R S (x, y) (.ref p) (upd G p (.tup [u, v])) := ⟨p, u, v, rfl, upd_same, Mn.mono h1 (same_new hG), Mn.mono h2 (same_new hG)⟩
theorem pT3_new [Mn R] [Mn S] [Mn T] {x : α} {y : β} {z : γ} {u v w : V} (hG : G p = none) (h1 : R x u G) (h2 : S y v G) (h3 : T z w G) : pT3 R S T (x, y, z) (.ref p) (upd G p (.tup [u, v, w])) := ⟨p, u, v, w, rfl, upd_same, Mn.mono h1 (same_new hG), Mn.mono h2 (same_new hG), Mn.mono h3 (same_new hG)⟩
theorem pT4_new [Mn R] [Mn S] [Mn T] [Mn U] {x : α} {y : β} {z : γ} {t : δ} {u v w q : V} (hG : G p = none) (h1 : R x u G) (h2 : S y v G) (h3 : T z w G) (h4 : U t q G) : pT4 R S T U (x, y, z, t) (.ref p) (upd G p (.tup [u, v, w, q])) := ⟨p, u, v, w, q, rfl, upd_same, Mn.mono h1 (same_new hG), Mn.mono h2 (same_new hG), Mn.mono h3 (same_new hG), Mn.mono h4 (same_new hG)⟩
theorem pT1_new [Mn R] {x : α} {u : V} (hG : G p = none) (h1 : R x u G) : pT1 R x (.ref p) (upd G p (.tup [u])) := ⟨p, u, rfl, upd_same, Mn.mono h1 (same_new hG)⟩
/-! ranges and items -/
def rng1M (n : Int) : Option (List Int) := if decide (-(2 ^ 62) ≤ n ∧ n < 2 ^ 62 ∧ n ≤ sizeLine) = true then some (rangeL 0 n.toNat) else none
theorem rng1_ok {n : Int} {xs : List Int} (h : rng1M n = some xs) : (-(2 ^ 62) ≤ n ∧ n < 2 ^ 62) ∧ xs = rangeL 0 n.toNat ∧ n.toNat ≤ sizeLine := by
  obtain ⟨c, rfl⟩ := guardS h
  exact ⟨⟨c.1, c.2.1⟩, rfl, by omega⟩
theorem rng_ok {lo hi : Int} {xs : List Int} (h : rngM lo hi = some xs) : (-(2 ^ 62) ≤ lo ∧ lo < 2 ^ 62 ∧ -(2 ^ 62) ≤ hi ∧ hi < 2 ^ 62) ∧ xs = rangeL lo (hi - lo).toNat ∧ (hi - lo).toNat ≤ sizeLine := by
  obtain ⟨c, rfl⟩ := guardS h
  exact ⟨⟨c.1, c.2.1, c.2.2.1, c.2.2.2.1⟩, rfl, by omega⟩
theorem rng_item {lo : Int} {n i : Nat} {x : Int} {v : V} (hx : (rangeL lo n)[i]? = some x) (hy : YFn (fun i => .int (lo + i)) i H v H') : H' = H ∧ v = .int x := by
  obtain ⟨rfl, _⟩ := rangeL_at hx
  exact hy
theorem lst_item {xs : List α} {vs : List V} {i : Nat} {x : α} {v : V} (ha : All2 R G xs vs) (hx : xs[i]? = some x) (hy : YAt vs i H v H') : H' = H ∧ R x v G := by
  obtain ⟨e, hv⟩ := hy
  obtain ⟨w, h1, h2⟩ := ha.get hx
  rw [hv] at h1
  cases h1
  exact ⟨e, h2⟩
theorem scr_item {xs : List Int} {i : Nat} {x : Int} {v : V} (hx : xs[i]? = some x) (hy : YAt (xs.map V.int) i H v H') : H' = H ∧ v = .int x := by
  obtain ⟨e, hv⟩ := hy
  rw [List.getElem?_map, hx] at hv
  exact ⟨e, (someI hv).symm⟩
def charsL (l : List Nat) : List (List Nat) := l.map fun c => [c]
theorem str_item {l : List Nat} {i : Nat} {x : List Nat} {v : V} (hx : (charsL l)[i]? = some x) (hy : H' = H ∧ ∃ c, (sS l).cps[i]? = some c ∧ v = .str ⟨#[c]⟩) : H' = H ∧ v = vS x := by
  obtain ⟨e, c, hc, hv⟩ := hy
  unfold charsL at hx
  rw [List.getElem?_map] at hx
  have h2 : l[i]? = some c := by rw [← hc]; simp [sS]
  rw [h2] at hx
  cases hx
  exact ⟨e, hv⟩
theorem str_ok {l : List Nat} {i : Nat} {x : List Nat} (h : OkS l) (hx : (charsL l)[i]? = some x) : OkS x := by
  unfold charsL at hx
  rw [List.getElem?_map] at hx
  cases e : l[i]? with
  | none => rw [e] at hx; cases hx
  | some c => rw [e] at hx; cases hx; exact h.one (List.mem_of_getElem? e)
theorem charsL_len (l : List Nat) : (charsL l).length = (sS l).cps.size := by simp [charsL, sS]
/-! ### control -/
def ctlK {X σ : Type} (c : Ctl X σ) (k : σ → Option X) : Option X := match c with
  | .rt x => some x
  | .nx s => k s
  | .bk s => k s
theorem ctlK_rt {X σ : Type} {c : Ctl X σ} {k : σ → Option X} {r x : X} (h : ctlK c k = some r) (e : c = .rt x) : r = x := by subst e; exact (someI h).symm
theorem ctlK_nx {X σ : Type} {c : Ctl X σ} {k : σ → Option X} {r : X} {s : σ} (h : ctlK c k = some r) (e : c = .nx s) : k s = some r := by subst e; exact h
end
section
variable {σ : St} {H : Hp} {Q : VK} {te : TE} {tt : TT} {D : Ends} {rest ts tsu t : TS} {sp : Sp} {E : XK} {ta : TA}
theorem cps_call (h : ta σ H fun vs H1 => sp (vs ++ []) H1 Q E) : tCall sp [] E ta σ H Q := h
theorem cps_tup (h : ta σ H fun xs H1 => xs.length ≤ sizeLine ∧ ∀ p, H1 p = none → Q (.ref p) (upd H1 p (.tup xs))) : tTup ta σ H Q := h
theorem cps_lst (h : ta σ H fun xs H1 => xs.length ≤ sizeLine ∧ ∀ p, H1 p = none → Q (.ref p) (upd H1 p (.lst xs))) : tLst ta σ H Q := h
theorem cps_rng1 {R : It → Hp → Prop} (h : ta σ H fun vs H1 => ∃ j : Int, vs = [.int j] ∧ -(2 ^ 62) ≤ j ∧ j < 2 ^ 62 ∧ R (Itr 0 j.toNat) H1) : iRng1 ta σ H R := h
theorem cps_rng2 {R : It → Hp → Prop} (h : ta σ H fun vs H1 => ∃ i j : Int, vs = [.int i, .int j] ∧ (-(2 ^ 62) ≤ i ∧ i < 2 ^ 62 ∧ -(2 ^ 62) ≤ j ∧ j < 2 ^ 62) ∧ R (Itr i (j - i).toNat) H1) : iRng2 ta σ H R := h
theorem cps_list {K : PySem.W.Frag} {R : It → Hp → Prop} (h : te σ H fun x H1 => ∃ a, x = .ref a ∧ (∃ xs, SqL K H1 a xs) ∧ R (Itl K a) H1) : iList K te σ H R := h
theorem cps_str {R : It → Hp → Prop} (h : te σ H fun v H1 => ∃ x, v = .str x ∧ R (Its x) H1) : iStr te σ H R := h
theorem cps_tupI {K : PySem.W.Frag} {R : It → Hp → Prop} (h : te σ H fun x H1 => ∃ a, x = .ref a ∧ (∃ xs, SqT K H1 a xs) ∧ R (Itt K a) H1) : iTup K te σ H R := h
theorem s_if0 (h : tt σ H fun b H1 => if b = true then ts { D with nx := rest D } σ H1 else tsu { D with nx := rest D } σ H1) : tSeq (tIfS tt ts tsu) rest D σ H := h
theorem cps_next (h : D.nx σ H) : tNext D σ H := h
theorem cps_nextS {N : St → Hp → Prop} (h : N σ H) : tNext { D with nx := N } σ H := h
theorem st_conv {σ' : St} (e : σ = σ') (h : t D σ' H) : t D σ H := by subst e; exact h
theorem cps_par {i j : Nat} (τ : V → V → St) (e : ∀ x y, (σ.set i (some x)).set j (some y) = τ x y) (h : ta σ H fun vs H1 => ∃ v w, vs = [v, w] ∧ rest D (τ v w) H1) : tSeq (tPar i j ta) rest D σ H := by
  have e' : τ = fun x y => (σ.set i (some x)).set j (some y) := funext fun x => funext fun y => (e x y).symm
  subst e'
  exact h
theorem cps_asgG {g : TG} (h : te σ H fun x H1 => g x σ H1 (rest D)) : tSeq (tAsg te g) rest D σ H := h
theorem cps_sub {to ti : TE} {s : TSet} {v : V} {N : St → Hp → Prop} (h : to σ H fun o H1 => ti σ H1 fun i H2 => s o i v H2 fun H3 => N σ H3) : gSub to ti s v σ H N := h
theorem cps_aug {i : Nat} {ti : TIp} {x : V} (τ : V → St) (e : ∀ z, σ.set i (some z) = τ z) (hx : σ[i]? = some (some x)) (h : te σ H fun y H1 => ti x y H1 fun z H2 => rest D (τ z) H2) : tSeq (tAug i te ti) rest D σ H := by
  have e' : τ = fun z => σ.set i (some z) := funext fun z => (e z).symm
  subst e'
  exact ⟨x, hx, h⟩
theorem cps_bm {K : PySem.W.Frag} {n : String} {r : V → List V → Hp → VK → Prop} {to : TE} (h : to σ H fun x H1 => tyV K n x H1 ∧ ta σ H1 fun xs H2 => r x xs H2 Q) : tBM K n r to ta σ H Q := h
theorem cps_bm0 {K : PySem.W.Frag} {n : String} {r : V → List V → Hp → VK → Prop} {to : TE} (h : to σ H fun x H1 => tyV K n x H1 ∧ r x [] H1 Q) : tBM0 K n r to σ H Q := h
theorem tyL {K : PySem.W.Frag} {a : Addr} {xs : List V} (h : H a = some (.lst xs)) : tyV K "list" (.ref a) H := Or.inl ⟨rfl, _, SqL.of h⟩
theorem cps_lc {wi : TI} {g : TG} {te' : TE} {vs : List Nat} (h : wi σ H fun J H1 => ∀ D, H1 D = none → ∃ W : Nat → Nat → Hp → Prop, (∃ m, W 0 m (upd H1 D (.lst []))) ∧ ∀ i m H, W i m H →
  (J.stop i H ∧ Q (.ref D) H) ∨ (J.go i H ∧ ∃ Nx : Hp → Prop, (∀ H', Nx H' → ∃ m', m' < m ∧ W (i + 1) m' H') ∧ ∀ x H', J.yld i H x H' → g x (wipe σ vs) H' fun σ2 H2 => wipe σ2 vs = wipe σ vs ∧ tt σ2 H2 fun b H3 =>
    if b = true then te' σ2 H3 fun y H4 => ∃ acc, H4 D = some (.lst acc) ∧ acc.length < sizeLine ∧ Nx (upd H4 D (.lst (acc ++ [y]))) else Nx H3)) : tLc wi g tt te' vs σ H Q := h
end
section
variable {H G : Hp} {K : PySem.W.Frag} {α : Type} {R : Rep α} {v w : V}
/-- xs[i] of a list that is in the base -/
theorem k_idxG {xs : List α} {i : Int} {x : α} (h : pL R xs v G) (s : L2.Same G H) (e : idxM xs i = some x) : ∃ w, R x w G ∧ ∀ Q : VK, Q w H → rIxL K v (.int i) H Q := by
  obtain ⟨a, vs, rfl, ha, hx, _⟩ := h
  obtain ⟨w, h1, h2⟩ := hx.atI e
  exact ⟨w, h2, fun Q q => ⟨a, vs, i, w, rfl, rfl, SqL.of (s _ _ ha), h1, q⟩⟩
theorem k_idxC {xs : List α} {vs : List V} {a : Addr} {i : Int} {x : α} (ha : H a = some (.lst vs)) (h : All2 R G xs vs) (e : idxM xs i = some x) : ∃ w, R x w G ∧ ∀ Q : VK, Q w H → rIxL K (.ref a) (.int i) H Q := by
  obtain ⟨w, h1, h2⟩ := h.atI e
  exact ⟨w, h2, fun Q q => ⟨a, vs, i, w, rfl, rfl, SqL.of ha, h1, q⟩⟩
theorem k_idxTG {xs : List α} {vs : List V} {a : Addr} {i : Int} {x : α} (ha : H a = some (.tup vs)) (h : All2 R G xs vs) (e : idxM xs i = some x) : ∃ w, R x w G ∧ ∀ Q : VK, Q w H → rIxT K (.ref a) (.int i) H Q := by
  obtain ⟨w, h1, h2⟩ := h.atI e
  exact ⟨w, h2, fun Q q => ⟨a, vs, i, w, rfl, rfl, SqT.of ha, h1, q⟩⟩
theorem appM_ok {xs ys : List α} {y : α} (h : appM xs y = some ys) : xs.length < sizeLine ∧ ys = xs ++ [y] ∧ ys.length ≤ sizeLine := by
  obtain ⟨c, rfl⟩ := guardS h
  exact ⟨c, rfl, by rw [List.length_append]; exact c⟩
theorem app_hw {a : Addr} {vs : List V} {y : V} {Q : VK} {xs ys : List α} {x : α} (hx : All2 R G xs vs) (e : appM xs x = some ys) (ha : H a = some (.lst vs)) (h : Q .non (upd H a (.lst (vs ++ [y])))) : rAppend (.ref a) [y] H Q := ⟨a, vs, y, rfl, rfl, ha, by rw [← hx.len]; exact (appM_ok e).1, h⟩
theorem app_all {vs : List V} {y : V} {xs ys : List α} {x : α} (hx : All2 R G xs vs) (hy : R x y G) (e : appM xs x = some ys) : All2 R G ys (vs ++ [y]) := by
  rw [(appM_ok e).2.1]
  exact hx.app (All2.one hy)
theorem ixN_len {α β : Type} {xs : List α} {ys : List β} (h : xs.length = ys.length) {i : Int} {j : Nat} (e : L2.ixN xs.length i = some j) : L2.ixN ys.length i = some j := by rw [← h]; exact e
theorem set_all {vs : List V} {y : V} {xs ys : List α} {x : α} {i : Int} (hx : All2 R G xs vs) (hy : R x y G) (e : setM xs i x = some ys) : ∃ j, L2.ixN vs.length i = some j ∧ All2 R G ys (vs.set j y) ∧ ys.length = xs.length := by
  obtain ⟨j, h1, rfl⟩ := setM_some e
  exact ⟨j, ixN_len hx.len h1, hx.set hy j, by rw [List.length_set]⟩
theorem set_hw {a : Addr} {vs : List V} {y : V} {i : Int} {j : Nat} {N : Hp → Prop} (ha : H a = some (.lst vs)) (hj : L2.ixN vs.length i = some j) (h : N (upd H a (.lst (vs.set j y)))) : rSetL (.ref a) (.int i) y H N := ⟨a, vs, i, j, rfl, rfl, ha, hj, h⟩
/-! isinstance of what is known -/
theorem isiT {x : V} {t n : String} {b : Bool} (h : TyX K H x (.type t)) (k : kitB t n = some b) : ∀ Q : VK, Q (.bl b) H → rIsi K [x, .ty n] H Q := fun Q q => ⟨x, .ty n, .type t, .type n, b, rfl, .ty n, h, kit_ty k, q⟩
theorem tyI (i : Int) : TyX K H (.int i) (.type "int") := .base (.int i)
theorem tyB (i : Bool) : TyX K H (.bl i) (.type "bool") := .base (.bl i)
theorem tyS (l : List Nat) : TyX K H (vS l) (.type "str") := .base (.str _)
theorem tyN : TyX K H .non (.type "NoneType") := .base .non
theorem tyLs {xs : List α} (h : pL R xs v H) : TyX K H v (.type "list") := by
  obtain ⟨a, vs, rfl, ha, _⟩ := h
  exact .base (.lst ha)
end
end MK

namespace MK
open PySem PySem.Spec L2
def fuel : Nat := 100000
def ForG (J : It) (g : TG) (tb : TS) (D : Ends) (σ : St) (H : Hp) : Prop := ∃ W : Nat → Nat → St → Hp → Prop, (∃ m, W 0 m σ H) ∧ ∀ i m σ H, W i m σ H →
  (J.stop i H ∧ D.nx σ H) ∨ (J.go i H ∧ ∃ N : St → Hp → Prop, (∀ σ' H', N σ' H' → ∃ m', m' < m ∧ W (i + 1) m' σ' H') ∧ ∀ x H', J.yld i H x H' → g x σ H' fun σ2 H2 => tb { D with nx := N, ct := N, bk := D.nx } σ2 H2)
section
variable {J : It} {n : Nat} {G : Hp → Prop} {Y : Nat → Hp → V → Hp → Prop} {α β ρ S : Type}
theorem cps_forG {wi : TI} {g : TG} {tb rest : TS} {D : Ends} {σ : St} {H : Hp} (h : wi σ H fun J H1 => ForG J g tb { D with nx := rest D } σ H1) : tSeq (tFor wi g tb) rest D σ H := h
theorem loop_w2 (w : Walk J n G Y) {xs : List α} (hn : xs.length = n) {f : α → S → Option (Ctl ρ S)} {s0 : S} {res : Ctl ρ S} (hm : loopM f xs s0 = some res)
    {g : TG} {tb : TS} {D : Ends} {σ : St} {H : Hp} (P : S → St → Hp → Prop) (h0 : P s0 σ H) (hG : ∀ s σ H, P s σ H → G H)
    (turn : ∀ (i : Nat) x s c v σ H H', xs[i]? = some x → f x s = some c → (∀ r, c = .rt r → res = .rt r) → P s σ H → Y i H v H' →
      ∀ N : St → Hp → Prop, (∀ s' σ' H', c = .nx s' → P s' σ' H' → N σ' H') → (∀ s' σ' H', c = .bk s' → P s' σ' H' → D.nx σ' H') → g v σ H' fun σ2 H2 => tb { D with nx := N, ct := N, bk := D.nx } σ2 H2)
    (done : ∀ s' σ H, res = .nx s' → P s' σ H → D.nx σ H) : ForG J g tb D σ H :=
  loop_w w hn hm P h0 hG (fun i x s c v σ H H' h1 h2 h3 h4 h5 h6 N kN => turn i x s c v σ H H' h1 h2 h4 h5 h6 N kN fun s' σ' H' e p => done s' σ' H' (h3 s' e) p) done
theorem fold_w2 (w : Walk J n G Y) {xs : List α} (hn : xs.length = n) {f : α → S → Option S} {s0 res : S} (hm : foldO f xs s0 = some res)
    {g : TG} {tb : TS} {D : Ends} {σ : St} {H : Hp} (P : S → St → Hp → Prop) (h0 : P s0 σ H) (hG : ∀ s σ H, P s σ H → G H)
    (turn : ∀ (i : Nat) x s s' v σ H H', xs[i]? = some x → f x s = some s' → P s σ H → Y i H v H' →
      ∀ N : St → Hp → Prop, (∀ σ' H', P s' σ' H' → N σ' H') → g v σ H' fun σ2 H2 => tb { D with nx := N, ct := N, bk := D.nx } σ2 H2)
    (done : ∀ σ H, P res σ H → D.nx σ H) : ForG J g tb D σ H := fold_w w hn hm P h0 hG turn done
theorem while_w2 {c : S → Option Bool} {f : S → Option (Ctl ρ S)} {fu : Nat} {s0 : S} {res : Ctl ρ S} (hm : whileM c f fu s0 = some res)
    {tc : TT} {tb : TS} {D : Ends} {rest : TS} {σ : St} {H : Hp} (P : S → St → Hp → Prop) (h0 : P s0 σ H)
    (test : ∀ s b σ H, c s = some b → P s σ H → ∀ Q : Bool → Hp → Prop, (∀ H1, P s σ H1 → Q b H1) → tc σ H Q)
    (body : ∀ s cc σ H, c s = some true → f s = some cc → (∀ r, cc = .rt r → res = .rt r) → P s σ H →
      ∀ N : St → Hp → Prop, (∀ s' σ' H', cc = .nx s' → P s' σ' H' → N σ' H') → (∀ s' σ' H', cc = .bk s' → P s' σ' H' → rest D σ' H') → tb { D with nx := N, ct := N, bk := rest D } σ H)
    (done : ∀ s' σ H, res = .nx s' → P s' σ H → rest D σ H) : tSeq (tWhile tc tb) rest D σ H :=
  while_w hm P h0 test (fun s cc σ H h1 h2 h3 h4 h5 N kN => body s cc σ H h1 h2 h4 h5 N kN fun s' σ' H' e p => done s' σ' H' (h3 s' e) p) done
theorem for_nm {K : St → Hp → Prop} {σ τ : St} {i : Nat} {v : V} {H' : Hp} (e1 : σ.set i (some v) = τ) (h : K τ H') : gName i v σ H' K := by
  subst e1; exact h
theorem mapP_len {f : α → Option β} : ∀ {xs : List α} {ys : List β}, mapP f xs = some ys → ys.length ≤ xs.length
  | [], ys, h => by cases h; simp
  | x :: xs, ys, h => by
    obtain ⟨r, e1, h⟩ := bindS h
    obtain ⟨q, e2, h⟩ := bindS h
    cases h
    have := mapP_len e2
    simpa using this
theorem lcP_len {f : α → Option (Option β)} : ∀ {xs : List α} {ys : List β}, lcP f xs = some ys → ys.length ≤ xs.length
  | [], ys, h => by cases h; simp
  | x :: xs, ys, h => by
    obtain ⟨r, e1, h⟩ := bindS h
    obtain ⟨q, e2, h⟩ := bindS h
    have := lcP_len e2
    cases r <;> cases h <;> simp <;> omega
theorem lcS_len {f : α → S → Option (Option β × S)} : ∀ {xs : List α} {s : S} {q : List β × S}, lcS f xs s = some q → q.1.length ≤ xs.length
  | [], s, q, h => by cases h; simp
  | x :: xs, s, q, h => by
    obtain ⟨r, e1, h⟩ := bindS h
    obtain ⟨q', e2, h⟩ := bindS h
    have := lcS_len e2
    cases hr : r.1 with
    | none => rw [hr] at h; cases h; simp; omega
    | some y => rw [hr] at h; cases h; simp; omega
theorem lenz {xs : List α} {n : Nat} (h : xs.length = n) (z : n ≤ sizeLine) : xs.length ≤ sizeLine := by rw [h]; exact z
theorem charsL_length (l : List Nat) : (charsL l).length = l.length := by simp [charsL]
theorem iteT_yes {A B : Hp → Prop} {σ : St} {H : Hp} (h : A H) : tYes σ H (fun b H3 => if b = true then A H3 else B H3) := by
  show if true = true then A H else B H
  exact iteT h
end
section
variable {σ : St} {H G G' : Hp} {Q : VK} {te tf : TE} {tt tu : TT} {D : Ends} {rest ts tsu : TS} {K : PySem.W.Frag} {v w u x y : V} {α β γ δ : Type} {R : Rep α} {S : Rep β} {T : Rep γ} {U : Rep δ} {a : Addr}
theorem cut_if3 {P N : St → Hp → Prop} (b : Bool) (h1 : b = true → ∀ N' : St → Hp → Prop, (∀ σ' H', P σ' H' → N' σ' H') → ts { D with nx := N' } σ H) (h2 : b = false → ∀ N' : St → Hp → Prop, (∀ σ' H', P σ' H' → N' σ' H') → tsu { D with nx := N' } σ H)
    (k : ∀ σ' H', P σ' H' → N σ' H') : if b = true then ts { D with nx := N } σ H else tsu { D with nx := N } σ H := cut_if b k h1 h2
theorem cut_et2 {Q : Bool → Hp → Prop} {P : Bool → Hp → Prop} (h : ∀ Q' : Bool → Hp → Prop, (∀ v H', P v H' → Q' v H') → tt σ H Q') (k : ∀ v H', P v H' → Q v H') : tt σ H Q := h Q k
theorem cps_and {Q : Bool → Hp → Prop} (h : tt σ H fun c H1 => if c = true then tu σ H1 Q else Q false H1) : tAnd tt tu σ H Q := h
theorem cps_or {Q : Bool → Hp → Prop} (h : tt σ H fun c H1 => if c = true then Q true H1 else tu σ H1 Q) : tOr tt tu σ H Q := h
theorem cps_cont (h : D.ct σ H) : tSeq tCont rest D σ H := h
theorem cps_break (h : D.bk σ H) : tSeq tBreak rest D σ H := h
theorem cps_gtup2 {i j : Nat} {N : St → Hp → Prop} (τ : V → V → St) (e : ∀ x y, (σ.set i (some x)).set j (some y) = τ x y) (ha : H a = some (.tup [u, w])) (h : N (τ u w) H) : gTup K 2 (gCons (gName i) (gCons (gName j) gNil)) (.ref a) σ H N := by
  refine ⟨a, [u, w], rfl, SqT.of ha, rfl, u, [w], rfl, w, [], rfl, rfl, ?_⟩
  have e' := e u w
  first | exact e' ▸ h | (rw [e']; exact h)
theorem cps_gtup3 {i j k : Nat} {N : St → Hp → Prop} (τ : V → V → V → St) (e : ∀ x y z, ((σ.set i (some x)).set j (some y)).set k (some z) = τ x y z) (ha : H a = some (.tup [u, w, v])) (h : N (τ u w v) H) : gTup K 3 (gCons (gName i) (gCons (gName j) (gCons (gName k) gNil))) (.ref a) σ H N := by
  refine ⟨a, [u, w, v], rfl, SqT.of ha, rfl, u, [w, v], rfl, w, [v], rfl, v, [], rfl, rfl, ?_⟩
  have e' := e u w v
  first | exact e' ▸ h | (rw [e']; exact h)
theorem pO_some {o : Option α} {x : α} (h : pO R o v H) (e : o = some x) : R x v H := by subst e; exact h
end
end MK

namespace MK
open PySem PySem.Spec L2
section
variable {E G0 G G' H H' : Hp} {M : List Addr} {cs cs' : List (Addr × HO)}
theorem W.recell (w : W E G0 M G cs H) (e : cs = cs') : W E G0 M G cs' H := e ▸ w
end
section
variable {σ : St} {H G G' : Hp} {Q : VK} {te tf : TE} {K : PySem.W.Frag} {v w u x y : V} {α β γ δ : Type} {R : Rep α} {S : Rep β} {T : Rep γ} {U : Rep δ} {a : Addr}
/-! items of tuples -/
theorem k_tup1_0 {p : α} (h : pT1 R p v G) (s : L2.Same G H) : ∃ w, R p w G ∧ ∀ Q : VK, Q w H → rIxT K v (.int 0) H Q := by
  obtain ⟨a, u, rfl, h, r⟩ := h
  exact ⟨u, r, fun Q q => ⟨a, _, 0, u, rfl, rfl, SqT.of (s _ _ h), rfl, q⟩⟩
theorem k_tup2_0 {p : α × β} (h : pT2 R S p v G) (s : L2.Same G H) : ∃ w, R p.1 w G ∧ ∀ Q : VK, Q w H → rIxT K v (.int 0) H Q := by
  obtain ⟨a, u, w, rfl, h, r, r2⟩ := h
  exact ⟨u, r, fun Q q => ⟨a, _, 0, u, rfl, rfl, SqT.of (s _ _ h), rfl, q⟩⟩
theorem k_tup2_1 {p : α × β} (h : pT2 R S p v G) (s : L2.Same G H) : ∃ w, S p.2 w G ∧ ∀ Q : VK, Q w H → rIxT K v (.int 1) H Q := by
  obtain ⟨a, u, w, rfl, h, r, r2⟩ := h
  exact ⟨w, r2, fun Q q => ⟨a, _, 1, w, rfl, rfl, SqT.of (s _ _ h), rfl, q⟩⟩
theorem k_tup3_0 {p : α × β × γ} (h : pT3 R S T p v G) (s : L2.Same G H) : ∃ w, R p.1 w G ∧ ∀ Q : VK, Q w H → rIxT K v (.int 0) H Q := by
  obtain ⟨a, u, w, x, rfl, h, r, r2, r3⟩ := h
  exact ⟨u, r, fun Q q => ⟨a, _, 0, u, rfl, rfl, SqT.of (s _ _ h), rfl, q⟩⟩
theorem k_tup3_1 {p : α × β × γ} (h : pT3 R S T p v G) (s : L2.Same G H) : ∃ w, S p.2.1 w G ∧ ∀ Q : VK, Q w H → rIxT K v (.int 1) H Q := by
  obtain ⟨a, u, w, x, rfl, h, r, r2, r3⟩ := h
  exact ⟨w, r2, fun Q q => ⟨a, _, 1, w, rfl, rfl, SqT.of (s _ _ h), rfl, q⟩⟩
theorem k_tup3_2 {p : α × β × γ} (h : pT3 R S T p v G) (s : L2.Same G H) : ∃ w, T p.2.2 w G ∧ ∀ Q : VK, Q w H → rIxT K v (.int 2) H Q := by
  obtain ⟨a, u, w, x, rfl, h, r, r2, r3⟩ := h
  exact ⟨x, r3, fun Q q => ⟨a, _, 2, x, rfl, rfl, SqT.of (s _ _ h), rfl, q⟩⟩
theorem tyT2 {p : α × β} (h : pT2 R S p v H) : TyX K H v (.type "tuple") := by
  obtain ⟨a, u, w, rfl, h, _⟩ := h
  exact .base (.tup h)
theorem tyT3 {p : α × β × γ} (h : pT3 R S T p v H) : TyX K H v (.type "tuple") := by
  obtain ⟨a, u, w, x, rfl, h, _⟩ := h
  exact .base (.tup h)
/-! a list as it is got -/
structure GotL (R : Rep α) (G H : Hp) (xs : List α) (v : V) (vs : List V) : Prop where
  at_ : ∃ a, v = .ref a ∧ H a = some (.lst vs)
  all : All2 R G xs vs
  len : xs.length ≤ sizeLine
theorem gotL {xs : List α} {vs : List V} (h : H a = some (.lst vs)) (ha : All2 R G xs vs) (hl : xs.length ≤ sizeLine) : ∃ vs, GotL R G H xs (.ref a) vs := ⟨vs, ⟨a, rfl, h⟩, ha, hl⟩
theorem gotG {xs : List α} (h : pL R xs v G) (s : L2.Same G H) : ∃ vs, GotL R G H xs v vs := by
  obtain ⟨a, vs, e, h, ha, hl⟩ := h
  exact ⟨vs, ⟨a, e, s _ _ h⟩, ha, hl⟩
theorem k_listL {xs : List α} (h : ∃ vs, GotL R G H xs v vs) : ∃ vs, All2 R G xs vs ∧ xs.length ≤ sizeLine ∧ ∀ Q : VK, (∀ p, H p = none → Q (.ref p) (upd H p (.lst vs))) → (∃ p ys, [v] = [.ref p] ∧ (SqL K H p ys ∨ SqT K H p ys) ∧ ∀ l, H l = none → Q (.ref l) (upd H l (.lst ys))) := by
  obtain ⟨vs, ⟨a, rfl, h⟩, ha, hl⟩ := h
  exact ⟨vs, ha, hl, fun Q q => ⟨a, vs, rfl, .inl (SqL.of h), q⟩⟩
theorem k_catL {xs ys zs : List α} (h : ∃ vs, GotL R G H xs v vs) (h2 : ∃ vs, GotL R G H ys w vs) (e : catLM xs ys = some zs) : ∃ vs, All2 R G zs vs ∧ zs.length ≤ sizeLine ∧ ∀ Q : VK, (∀ p, H p = none → Q (.ref p) (upd H p (.lst vs))) → rCat v w H Q := by
  obtain ⟨vs, ⟨a, rfl, h⟩, ha, hl⟩ := h
  obtain ⟨ws, ⟨b, rfl, h2⟩, hb, hl2⟩ := h2
  obtain ⟨c, rfl⟩ := guardS e
  exact ⟨vs ++ ws, ha.app hb, by rw [List.length_append]; exact c, fun Q q => ⟨a, b, vs, ws, rfl, rfl, h, h2, by rw [← ha.len, ← hb.len]; exact c, q⟩⟩
theorem All2.rep {xs : List α} {vs : List V} (h : All2 R G xs vs) : ∀ n : Nat, All2 R G (List.replicate n xs).flatten (List.replicate n vs).flatten
  | 0 => .nil
  | n + 1 => by rw [List.replicate_succ, List.replicate_succ, List.flatten_cons, List.flatten_cons]; exact h.app (All2.rep h n)
theorem k_repL {xs zs : List α} {n : Int} (h : ∃ vs, GotL R G H xs v vs) (e : repLM xs n = some zs) : ∃ vs, All2 R G zs vs ∧ zs.length ≤ sizeLine ∧ ∀ Q : VK, (∀ p, H p = none → Q (.ref p) (upd H p (.lst vs))) → rRep v (.int n) H Q := by
  obtain ⟨vs, ⟨a, rfl, h⟩, ha, hl⟩ := h
  obtain ⟨c, rfl⟩ := guardS e
  refine ⟨_, ha.rep n.toNat, ?_, fun Q q => ⟨a, n, vs, rfl, rfl, h, c.1, c.2.1, by rw [← ha.len]; exact c.2.2, q⟩⟩
  rw [List.length_flatten, List.map_replicate, List.sum_replicate_nat, Nat.mul_comm]; exact c.2.2
theorem k_slL {xs : List α} {lo hi : Option Int} (h : ∃ vs, GotL R G H xs v vs) : ∃ vs, All2 R G (cutL xs lo hi) vs ∧ (cutL xs lo hi).length ≤ sizeLine ∧ ∀ Q : VK, (∀ p, H p = none → Q (.ref p) (upd H p (.lst vs))) → rSlL K v lo hi H Q := by
  obtain ⟨vs, ⟨a, rfl, h⟩, ha, hl⟩ := h
  exact ⟨_, cutV_L ha lo hi, Nat.le_trans (cutL_len lo hi) hl, fun Q q => ⟨a, vs, rfl, SqL.of h, q⟩⟩
/-! built-ins -/
theorem k_any {bs : List Bool} (h : pL pB bs v H) : ∀ Q : VK, Q (.bl (bs.any id)) H → rAny K [v] H Q := by
  obtain ⟨a, vs, rfl, h, ha, _⟩ := h
  cases ha.bool
  exact fun Q q => ⟨a, bs, rfl, SqL.of h, q⟩
theorem k_all {bs : List Bool} (h : pL pB bs v H) : ∀ Q : VK, Q (.bl (bs.all id)) H → rAll K [v] H Q := by
  obtain ⟨a, vs, rfl, h, ha, _⟩ := h
  cases ha.bool
  exact fun Q q => ⟨a, bs, rfl, SqL.of h, q⟩
theorem k_sum {ns : List Int} (h : pL pI ns v H) : ∀ Q : VK, Q (.int ns.sum) H → rSum K [v] H Q := by
  obtain ⟨a, vs, rfl, h, ha, _⟩ := h
  cases ha.int
  exact fun Q q => ⟨a, ns, rfl, SqL.of h, q⟩
theorem k_abs (i : Int) : ∀ Q : VK, Q (.int (if i < 0 then -i else i)) H → (∃ j, [V.int i] = [.int j] ∧ Q (.int (if j < 0 then -j else j)) H) := fun Q q => ⟨i, rfl, q⟩
theorem k_min2 (i j : Int) : ∀ Q : VK, Q (.int (if j < i then j else i)) H → (∃ k l, [V.int i, V.int j] = [.int k, .int l] ∧ Q (.int (if l < k then l else k)) H) := fun Q q => ⟨i, j, rfl, q⟩
theorem k_max2 (i j : Int) : ∀ Q : VK, Q (.int (if j > i then j else i)) H → (∃ k l, [V.int i, V.int j] = [.int k, .int l] ∧ Q (.int (if l > k then l else k)) H) := fun Q q => ⟨i, j, rfl, q⟩
theorem k_intB (b : Bool) : ∀ Q : VK, Q (.int (if b = true then 1 else 0)) H → ((∃ i, [V.bl b] = [.int i] ∧ Q (.int i) H) ∨ ∃ k, [V.bl b] = [.bl k] ∧ Q (.int (if k = true then 1 else 0)) H) := fun Q q => .inr ⟨b, rfl, q⟩
theorem k_intI (i : Int) : ∀ Q : VK, Q (.int i) H → ((∃ j, [V.int i] = [.int j] ∧ Q (.int j) H) ∨ ∃ k, [V.int i] = [.bl k] ∧ Q (.int (if k = true then 1 else 0)) H) := fun Q q => .inl ⟨i, rfl, q⟩
def inS (y x : List Nat) : Bool := !(Builtin.Str.occurrences (sS x) (sS y) 0 (sS x).length 1).isEmpty
theorem k_inS (y x : List Nat) : ∀ Q : VK, Q (.bl (inS y x)) H → (∃ i j, vS y = .str i ∧ vS x = .str j ∧ Q (.bl (!(Builtin.Str.occurrences j i 0 j.length 1).isEmpty)) H) := fun Q q => ⟨sS y, sS x, rfl, rfl, q⟩
theorem k_notinS (y x : List Nat) : ∀ Q : VK, Q (.bl (!inS y x)) H → (∃ i j, vS y = .str i ∧ vS x = .str j ∧ Q (.bl (!(!(Builtin.Str.occurrences j i 0 j.length 1).isEmpty))) H) := fun Q q => ⟨sS y, sS x, rfl, rfl, q⟩
theorem inV_int (i : Int) : ∀ xs : List Int, inV (.int i) (xs.map V.int) = decide (i ∈ xs)
  | [] => rfl
  | x :: xs => by
    have ih := inV_int i xs
    unfold inV at ih ⊢
    rw [List.map_cons, List.any_cons, ih]
    show ((x == i) || _) = _
    by_cases h : x = i
    · subst h; simp
    · have : i ≠ x := fun e => h e.symm
      simp [h, this]
theorem inV_str (l : List Nat) : ∀ xs : List (List Nat), inV (vS l) (xs.map vS) = decide (l ∈ xs)
  | [] => rfl
  | x :: xs => by
    have ih := inV_str l xs
    unfold inV at ih ⊢
    rw [List.map_cons, List.any_cons, ih]
    show ((sS x == sS l) || _) = _
    by_cases h : x = l
    · subst h; simp
    · have h2 : sS x ≠ sS l := fun e => h (sS_inj e)
      have : l ≠ x := fun e => h e.symm
      simp [h2, this]
theorem flat_int (xs : List Int) : (xs.map V.int).all flatV = true := by
  rw [List.all_map]; exact List.all_eq_true.mpr fun _ _ => rfl
theorem flat_str (xs : List (List Nat)) : (xs.map vS).all flatV = true := by
  rw [List.all_map]; exact List.all_eq_true.mpr fun _ _ => rfl
theorem k_inI {xs : List Int} (i : Int) (h : pL pI xs v H) : ∀ Q : VK, Q (.bl (decide (i ∈ xs))) H → rIn K false (.int i) v H Q := by
  obtain ⟨a, vs, rfl, h, ha, _⟩ := h
  cases ha.int
  exact fun Q q => ⟨a, _, rfl, .inl (SqL.of h), rfl, flat_int xs, by rw [inV_int]; exact q⟩
theorem k_notinI {xs : List Int} (i : Int) (h : pL pI xs v H) : ∀ Q : VK, Q (.bl (!decide (i ∈ xs))) H → rIn K true (.int i) v H Q := by
  obtain ⟨a, vs, rfl, h, ha, _⟩ := h
  cases ha.int
  exact fun Q q => ⟨a, _, rfl, .inl (SqL.of h), rfl, flat_int xs, by rw [inV_int]; exact q⟩
theorem k_inT {xs : List (List Nat)} (l : List Nat) (h : pL pS xs v H) : ∀ Q : VK, Q (.bl (decide (l ∈ xs))) H → rIn K false (vS l) v H Q := by
  obtain ⟨a, vs, rfl, h, ha, _⟩ := h
  cases ha.str.1
  exact fun Q q => ⟨a, _, rfl, .inl (SqL.of h), rfl, flat_str xs, by rw [inV_str]; exact q⟩
theorem k_notinT {xs : List (List Nat)} (l : List Nat) (h : pL pS xs v H) : ∀ Q : VK, Q (.bl (!decide (l ∈ xs))) H → rIn K true (vS l) v H Q := by
  obtain ⟨a, vs, rfl, h, ha, _⟩ := h
  cases ha.str.1
  exact fun Q q => ⟨a, _, rfl, .inl (SqL.of h), rfl, flat_str xs, by rw [inV_str]; exact q⟩
theorem cps_m1 {r : V → List V → Hp → VK → Prop} {to : TE} (h : to σ H fun x H1 => (∃ a, x = .str a) ∧ te σ H1 fun y H2 => r x [y] H2 Q) : tM1 r to te σ H Q := h
theorem ev_join {to : TE} {s r : List Nat} {ys : List (List Nat)} (h1 : EV to σ H (vS s)) (h2 : EV te σ H v) (h : pL pS ys v H) (e : joinM s ys = some r) : EV (tM1 (fun x xs H Q => ∃ a p, ∃ ys : List Str, x = .str a ∧ xs = [.ref p] ∧ (SqL K H p (ys.map V.str) ∨ SqT K H p (ys.map V.str)) ∧ (ys.map (·.length)).sum + ys.length * a.length ≤ 16777216 ∧ Q (.str (Txt.join a ys)) H) to te) σ H (vS r) :=
  fun Q q => h1 _ ⟨⟨_, rfl⟩, h2 _ (k_join h e Q q)⟩
/-! sorting -/
def sortI (xs : List Int) : List Int := xs.mergeSort fun a b => decide (a ≤ b)
theorem sortI_perm (xs : List Int) : (sortI xs).Perm xs := List.mergeSort_perm _ _
theorem sortI_sorted (xs : List Int) : (sortI xs).Pairwise (· ≤ ·) := by
  have h := List.pairwise_mergeSort (le := fun a b : Int => decide (a ≤ b)) (fun a b c h1 h2 => by simp at h1 h2 ⊢; omega) (fun a b => by simp; omega) xs
  exact h.imp fun h => by simpa using h
theorem sorted_one {a b : List Int} (hp : a.Perm b) (ha : a.Pairwise (· ≤ ·)) (hb : b.Pairwise (· ≤ ·)) : a = b := PySem.W.ksm_same hp ha hb
def sortIM (xs : List Int) : Option (List Int) := some (sortI xs)
theorem k_sortI {xs ys : List Int} (h : pL pI xs v H) (e : sortIM xs = some ys) : ∀ Q : VK, (∀ p, H p = none → Q (.ref p) (upd H p (.lst (ys.map V.int)))) → rSortedI K [v] H Q := by
  obtain ⟨a, vs, rfl, h, ha, _⟩ := h
  cases ha.int
  cases e
  refine fun Q q => ⟨a, xs, rfl, SqL.of h, fun ns' p h1 h2 h3 => ?_⟩
  have e : ns' = sortI xs := sorted_one (h1.trans (sortI_perm xs).symm) h2 (sortI_sorted xs)
  subst e
  exact q p h3
theorem sortI_len {xs ys : List Int} (h : pL pI xs v H) (e : sortIM xs = some ys) : ys.length ≤ sizeLine := by
  obtain ⟨a, vs, rfl, h, ha, hl⟩ := h
  cases e
  rw [(sortI_perm xs).length_eq]; exact hl
end
end MK

namespace MK
open PySem PySem.Spec L2
section
variable {X : Cx} {σ : St} {H G : Hp} {Q : VK} {te : TE} {K : PySem.W.Frag} {v : V} {α : Type} {R : Rep α}
theorem revPick (l : List Nat) : ((Builtin.Str.strSliceIndices none none (-1) (sS l).length).filterMap ((sS l).cps[·]?)).toArray = l.reverse.toArray := by
  rw [PyProof.Rows.picked_rev, sS_len]
  congr 1
  have e : (List.range l.length).map (fun k => l.length - 1 - k) = (List.range l.length).reverse := PySem.W.krv_range l.length
  rw [e, List.filterMap_reverse]
  congr 1
  have e2 : (fun i : Nat => (sS l).cps[i]?) = fun i : Nat => l[i]? := by funext i; simp [sS]
  rw [e2]
  clear e e2
  induction l with
  | nil => rfl
  | cons a t ih =>
    rw [List.length_cons, List.range_succ_eq_map, List.filterMap_cons, List.filterMap_map]
    simp only [List.getElem?_cons_zero]
    congr 1
/-- text[::-1] -/
def tRevS (te : TE) : TE := fun σ H Q => te σ H fun x H1 => ∃ l, x = vS l ∧ l.length ≤ sizeLine ∧ Q (vS l.reverse) H1
theorem pe_revS {e : Expr} {te : TE} {k : Nat} {p1 p2 p3 pos : Pos} (he : PE X e te) : PE X (.Subscript e (.Slice none none (some (.UnaryOp .USub (.Constant (.int 1) k p1) p2)) p3) pos) (tRevS te) := by
  refine ⟨fun pins s σ H Q I h => ?_⟩
  refine PyProof.Rows.Subscript_ (thn (he.run pins s σ H _ I h) fun v s1 ⟨x, H1, I1, r1, q1⟩ => ?_)
  obtain ⟨a, ex, hx, q⟩ := q1
  subst ex
  obtain ⟨t, rfl⟩ := r1
  have hst : PO X (some (.UnaryOp .USub (.Constant (.int 1) k p1) p2)) (tPart (tUn (rU fun i => .int (-i)) (tC (.int 1)))) := po_some (pe_un un_neg pe_int)
  refine wpAny_Slice (thn (po_none.run pins s1 σ H1 (fun o H2 => o = none ∧ H2 = H1) I1 ⟨rfl, rfl⟩) fun vl s2 ⟨l, H2, I2, pl, el, e2⟩ => ?_)
  subst el e2
  refine thn (po_none.run pins s2 σ H2 (fun o H3 => o = none ∧ H3 = H2) I2 ⟨rfl, rfl⟩) fun vu s3 ⟨u, H3, I3, pu, eu, e3⟩ => ?_
  subst eu e3
  refine thn (hst.run pins s3 σ H3 (fun o H4 => o = some (-1) ∧ H4 = H3) I3 ⟨1, rfl, -1, rfl, rfl, rfl⟩) fun vs s4 ⟨o, H4, I4, ps, eo, e4⟩ => ?_
  subst eo e4
  have I5 : Inv X pins σ H4 { s4 with heap := s4.heap.push { cls := .type "slice", data := .fields #[vl, vu, vs] } } := I4.kept (t' := s4.toks) fun b ob q => Heap.get?_push_of_some _ q
  obtain ⟨l, rfl, hl⟩ := IsPart.raw pl
  obtain ⟨u, rfl, hu⟩ := IsPart.raw pu
  obtain ⟨st, rfl, hst⟩ := IsPart.raw ps
  show wpAny (model X.prog X.w) X.A (PyProof.Rows.subscriptTail e (.Slice none none (some (.UnaryOp .USub (.Constant (.int 1) k p1) p2)) p3) (.str (sS a) t) (.ref s4.heap.objs.size)) (EP X pins σ Q) X.xe { s4 with heap := s4.heap.push { cls := .type "slice", data := .fields #[partValue l, partValue u, partValue st] } }
  refine PyProof.Rows.tail_any (ops := [.str (sS a) t, .ref s4.heap.objs.size]) (typeIs_str _ _ _) (F.slot_str_getitem.lookup) ?_ (by with_unfolding_all rfl)
  have z := Heap.IsSliceOf.new s4.heap (partValue l) (partValue u) (partValue st)
  obtain ⟨os, hos, hcs, hds⟩ := z
  refine wpAny_getItem_str_slice (l := l) (u := u) (st := st) ⟨os, hos, hcs, hds⟩ (by rw [hst]; rfl) ?_
  show Made.post (if ((st.map (·.1)).getD 1 == 1 && (Builtin.Str.strSliceIndices (l.map (·.1)) (u.map (·.1)) ((st.map (·.1)).getD 1) (sS a).length).length == (sS a).length) = true then Made.val (.str (sS a) t)
    else Made.str ⟨((Builtin.Str.strSliceIndices (l.map (·.1)) (u.map (·.1)) ((st.map (·.1)).getD 1) (sS a).length).filterMap ((sS a).cps[·]?)).toArray⟩) (EP X pins σ Q) _
  rw [hl, hu, hst]
  show Made.post (if ((-1 : Int) == 1 && (Builtin.Str.strSliceIndices none none (-1) (sS a).length).length == (sS a).length) = true then Made.val (.str (sS a) t)
    else Made.str ⟨((Builtin.Str.strSliceIndices none none (-1) (sS a).length).filterMap ((sS a).cps[·]?)).toArray⟩) (EP X pins σ Q) _
  rw [if_neg (by simp), revPick]
  exact ⟨by show (sS a.reverse).length ≤ sizeLine; rw [sS_len, List.length_reverse]; exact hx, .str (sS a.reverse), H4, I5.tok _, ⟨_, rfl⟩, q⟩
theorem ev_revS {l : List Nat} (h : EV te σ H (vS l)) (hl : OkS l) : EV (tRevS te) σ H (vS l.reverse) := fun Q q => h _ ⟨l, rfl, hl.len, q⟩
theorem cps_revL (h : te σ H fun x H1 => ∃ a xs, x = .ref a ∧ SqL K H1 a xs ∧ ∀ p, H1 p = none → Q (.ref p) (upd H1 p (.lst xs.reverse))) : tRevL K te σ H Q := h
theorem k_revL {xs : List α} (h : ∃ vs, GotL R G H xs v vs) : ∃ vs, All2 R G xs.reverse vs ∧ xs.reverse.length ≤ sizeLine ∧ ∀ Q : VK, (∀ p, H p = none → Q (.ref p) (upd H p (.lst vs))) → (∃ a xs, v = .ref a ∧ SqL K H a xs ∧ ∀ p, H p = none → Q (.ref p) (upd H p (.lst xs.reverse))) := by
  obtain ⟨vs, ⟨a, rfl, h⟩, ha, hl⟩ := h
  exact ⟨_, ha.rev, by rw [List.length_reverse]; exact hl, fun Q q => ⟨a, vs, rfl, SqL.of h, q⟩⟩
end
end MK

namespace MK
open PySem PySem.Spec L2
section
variable {H : Hp}
theorem k_add (i j : Int) : ∀ Q : VK, Q (.int (i + j)) H → rI0 (fun i j => .int (i + j)) (.int i) (.int j) H Q := fun _ q => ⟨i, j, rfl, rfl, q⟩
theorem k_sub (i j : Int) : ∀ Q : VK, Q (.int (i - j)) H → rI0 (fun i j => .int (i - j)) (.int i) (.int j) H Q := fun _ q => ⟨i, j, rfl, rfl, q⟩
theorem k_ltI (i j : Int) : ∀ Q : VK, Q (.bl (decide (i < j))) H → rI0 (fun i j => .bl (decide (i < j))) (.int i) (.int j) H Q := fun _ q => ⟨i, j, rfl, rfl, q⟩
theorem k_leI (i j : Int) : ∀ Q : VK, Q (.bl (decide (i ≤ j))) H → rI0 (fun i j => .bl (decide (i ≤ j))) (.int i) (.int j) H Q := fun _ q => ⟨i, j, rfl, rfl, q⟩
theorem k_gtI (i j : Int) : ∀ Q : VK, Q (.bl (decide (j < i))) H → rI0 (fun i j => .bl (decide (j < i))) (.int i) (.int j) H Q := fun _ q => ⟨i, j, rfl, rfl, q⟩
theorem k_geI (i j : Int) : ∀ Q : VK, Q (.bl (decide (j ≤ i))) H → rI0 (fun i j => .bl (decide (j ≤ i))) (.int i) (.int j) H Q := fun _ q => ⟨i, j, rfl, rfl, q⟩
theorem k_mulC (i j : Int) (h : CMul i j) : ∀ Q : VK, Q (.int (i * j)) H → rI CMul (fun i j => .int (i * j)) (.int i) (.int j) H Q := fun _ q => ⟨i, j, rfl, rfl, h, q⟩
theorem k_mulW (i j : Int) (h : i.natAbs.log2 + j.natAbs.log2 < 1000000) : ∀ Q : VK, Q (.int (i * j)) H → rI CMulW (fun i j => .int (i * j)) (.int i) (.int j) H Q := fun _ q => ⟨i, j, rfl, rfl, h, q⟩
theorem k_fdivC (i j : Int) (h : CDiv i j) : ∀ Q : VK, Q (.int (i / j)) H → rI CDiv (fun i j => .int (i / j)) (.int i) (.int j) H Q := fun _ q => ⟨i, j, rfl, rfl, h, q⟩
theorem k_modC (i j : Int) (h : 0 < j) : ∀ Q : VK, Q (.int (i % j)) H → rI (fun _ j => 0 < j) (fun i j => .int (i % j)) (.int i) (.int j) H Q := fun _ q => ⟨i, j, rfl, rfl, h, q⟩
theorem k_powC (i j : Int) (h : 0 ≤ j ∧ (Builtin.Int.intBits i : Int) * j ≤ 2 ^ 27) : ∀ Q : VK, Q (.int (i ^ j.toNat)) H → rI CPowX (fun i j => .int (i ^ j.toNat)) (.int i) (.int j) H Q := fun _ q => ⟨i, j, rfl, rfl, h, q⟩
end
theorem lenle {n : Nat} (h : Nat.ble n 16777216 = true) : n ≤ sizeLine := by rw [sizeLine_16]; exact Nat.le_of_ble_eq_true h
/-! rules that name K -/
section
variable {X : Cx} {K : PySem.W.Frag} (hK : X.K = K)
include hK
theorem ix_listK : IxR X (rIxL K) := by subst hK; exact ix_list
theorem ix_tupK : IxR X (rIxT K) := by subst hK; exact ix_tup
theorem sl_listK : SlR X (rSlL K) := by subst hK; exact sl_list
theorem op_inK : OpR X (compareOp .In) (rIn K false) := by subst hK; exact op_in_seq
theorem op_ninK : OpR X (compareOp .NotIn) (rIn K true) := by subst hK; exact op_notIn_seq
theorem op_eqDK (hu : X.A.units + 64 < cLine) : OpR X (compareOp .Eq) (rEqD K) := by subst hK; exact op_eqD hu
theorem op_neDK (hu : X.A.units + 64 < cLine) : OpR X (compareOp .NotEq) (rNeD K) := by subst hK; exact op_neD hu
theorem op_catAK : OpR X (binaryOp .Add) (rCatA K) := by subst hK; exact op_catA
theorem call_lenK : CallR X (.builtin "len") (fun xs H Q => ∃ p ys, xs = [.ref p] ∧ (SqL K H p ys ∨ SqT K H p ys) ∧ Q (.int ys.length) H) := by subst hK; exact call_len_seq
theorem call_listK : CallR X (.type "list") (fun xs H Q => ∃ p ys, xs = [.ref p] ∧ (SqL K H p ys ∨ SqT K H p ys) ∧ ∀ l, H l = none → Q (.ref l) (upd H l (.lst ys))) := by subst hK; exact call_list_of
theorem cr_anyK (hc : X.calm = true) : CallR X (.builtin "any") (rAny K) := by subst hK; exact cr_any hc
theorem cr_allK (hc : X.calm = true) : CallR X (.builtin "all") (rAll K) := by subst hK; exact cr_all hc
theorem cr_sumK (hc : X.calm = true) : CallR X (.builtin "sum") (rSum K) := by subst hK; exact cr_sum hc
theorem cr_sortedIK : CallR X (.builtin "sorted") (rSortedI K) := by subst hK; exact cr_sortedI
theorem cr_sortedSK : CallR X (.builtin "sorted") (rSortedS K) := by subst hK; exact cr_sortedS
theorem call_isK : CallR X (.builtin "isinstance") (rIsi K) := by subst hK; exact call_isi
theorem pi_listK {tg l : Expr} {tl : TE} (hl : PE X l tl) : PI X tg l (iList K tl) := by subst hK; exact pi_list hl
theorem pi_tupK {tg l : Expr} {tl : TE} (hl : PE X l tl) : PI X tg l (iTup K tl) := by subst hK; exact pi_tup hl
theorem pg_K {tg : Expr} {n : Nat} {t : TGs} (h : PG X tg (gTup X.K n t)) : PG X tg (gTup K n t) := by subst hK; exact h
theorem pe_joinK {e : Expr} {to te : TE} (h : PE X e (tM1 (fun x xs H Q => ∃ a p, ∃ ys : List Str, x = .str a ∧ xs = [.ref p] ∧ (SqL X.K H p (ys.map V.str) ∨ SqT X.K H p (ys.map V.str)) ∧ (ys.map (·.length)).sum + ys.length * a.length ≤ 16777216 ∧ Q (.str (Txt.join a ys)) H) to te)) :
    PE X e (tM1 (fun x xs H Q => ∃ a p, ∃ ys : List Str, x = .str a ∧ xs = [.ref p] ∧ (SqL K H p (ys.map V.str) ∨ SqT K H p (ys.map V.str)) ∧ (ys.map (·.length)).sum + ys.length * a.length ≤ 16777216 ∧ Q (.str (Txt.join a ys)) H) to te) := by subst hK; exact h
theorem pe_revLK {e : Expr} {te : TE} {k : Nat} {p1 p2 p3 pos : Pos} (he : PE X e te) : PE X (.Subscript e (.Slice none none (some (.UnaryOp .USub (.Constant (.int 1) k p1) p2)) p3) pos) (tRevL K te) := by subst hK; exact pe_revL he
theorem pe_bmK {T : String} {r : V → List V → Hp → VK → Prop} {e : Expr} {to : TE} {t : TA} (h : PE X e (tBM X.K T r to t)) : PE X e (tBM K T r to t) := by subst hK; exact h
theorem pe_bm0K {T : String} {r : V → List V → Hp → VK → Prop} {e : Expr} {to : TE} (h : PE X e (tBM0 X.K T r to)) : PE X e (tBM0 K T r to) := by subst hK; exact h
end
section
variable {J : It} {n : Nat} {G : Hp → Prop} {Y : Nat → Hp → V → Hp → Prop} {α β ρ S : Type}
theorem loop_w3 (w : Walk J n G Y) {xs : List α} (hn : xs.length = n) {f : α → S → Option (Ctl ρ S)} {s0 : S} {res : Ctl ρ S} (hm : loopM f xs s0 = some res)
    {g : TG} {tb rest : TS} {D : Ends} {σ : St} {H : Hp} (P : S → St → Hp → Prop) (h0 : P s0 σ H) (hG : ∀ s σ H, P s σ H → G H)
    (turn : ∀ (i : Nat) x s c v σ H H', xs[i]? = some x → f x s = some c → (∀ r, c = .rt r → res = .rt r) → P s σ H → Y i H v H' →
      ∀ N : St → Hp → Prop, (∀ s' σ' H', c = .nx s' → P s' σ' H' → N σ' H') → (∀ s' σ' H', c = .bk s' → P s' σ' H' → rest D σ' H') → g v σ H' fun σ2 H2 => tb { D with nx := N, ct := N, bk := rest D } σ2 H2)
    (done : ∀ s' σ H, res = .nx s' → P s' σ H → rest D σ H) : ForG J g tb { D with nx := rest D } σ H :=
  loop_w2 w hn hm P h0 hG turn done
theorem fold_w3 (w : Walk J n G Y) {xs : List α} (hn : xs.length = n) {f : α → S → Option S} {s0 res : S} (hm : foldO f xs s0 = some res)
    {g : TG} {tb rest : TS} {D : Ends} {σ : St} {H : Hp} (P : S → St → Hp → Prop) (h0 : P s0 σ H) (hG : ∀ s σ H, P s σ H → G H)
    (turn : ∀ (i : Nat) x s s' v σ H H', xs[i]? = some x → f x s = some s' → P s σ H → Y i H v H' →
      ∀ N : St → Hp → Prop, (∀ σ' H', P s' σ' H' → N σ' H') → g v σ H' fun σ2 H2 => tb { D with nx := N, ct := N, bk := rest D } σ2 H2)
    (done : ∀ σ H, P res σ H → rest D σ H) : ForG J g tb { D with nx := rest D } σ H := fold_w2 w hn hm P h0 hG turn done
theorem cps_nextR {D : Ends} {rest : TS} {σ : St} {H : Hp} (h : rest D σ H) : tNext { D with nx := rest D } σ H := h
theorem cut_if4 {ts tsu rest : TS} {D : Ends} {σ : St} {H : Hp} {P : St → Hp → Prop} (b : Bool) (h1 : b = true → ∀ N' : St → Hp → Prop, (∀ σ' H', P σ' H' → N' σ' H') → ts { D with nx := N' } σ H) (h2 : b = false → ∀ N' : St → Hp → Prop, (∀ σ' H', P σ' H' → N' σ' H') → tsu { D with nx := N' } σ H)
    (k : ∀ σ' H', P σ' H' → rest D σ' H') : if b = true then ts { D with nx := rest D } σ H else tsu { D with nx := rest D } σ H := cut_if b k h1 h2
end
end MK

namespace MK
open PySem PySem.Spec L2
/-! readings by name -/
abbrev RC := List V → Hp → VK → Prop
def rCatS : R2 := fun x y H Q => ∃ i j, x = .str i ∧ y = .str j ∧ i.length + j.length ≤ sizeLine ∧ Q (.str (i ++ j)) H
def rLtS : R2 := fun x y H Q => ∃ i j, x = .str i ∧ y = .str j ∧ Q (.bl (decide (i.cps.toList < j.cps.toList))) H
def rLeS : R2 := fun x y H Q => ∃ i j, x = .str i ∧ y = .str j ∧ Q (.bl (!decide (j.cps.toList < i.cps.toList))) H
def rGtS : R2 := fun x y H Q => ∃ i j, x = .str i ∧ y = .str j ∧ Q (.bl (decide (j.cps.toList < i.cps.toList))) H
def rGeS : R2 := fun x y H Q => ∃ i j, x = .str i ∧ y = .str j ∧ Q (.bl (!decide (i.cps.toList < j.cps.toList))) H
def rInS' : R2 := fun x y H Q => ∃ i j, x = .str i ∧ y = .str j ∧ Q (.bl (!(Builtin.Str.occurrences j i 0 j.length 1).isEmpty)) H
def rNinS' : R2 := fun x y H Q => ∃ i j, x = .str i ∧ y = .str j ∧ Q (.bl (!(!(Builtin.Str.occurrences j i 0 j.length 1).isEmpty))) H
def rIsNo : R2 := fun x y H Q => y = .non ∧ Q (.bl (decide (x = .non))) H
def rNotNo : R2 := fun x y H Q => y = .non ∧ Q (.bl (!decide (x = .non))) H
def rLenS : RC := fun xs H Q => ∃ z, xs = [.str z] ∧ z.length ≤ sizeLine ∧ Q (.int z.length) H
def rLenQ (K : PySem.W.Frag) : RC := fun xs H Q => ∃ p ys, xs = [.ref p] ∧ (SqL K H p ys ∨ SqT K H p ys) ∧ Q (.int ys.length) H
def rLenDK : RC := fun xs H Q => ∃ a kvs, xs = [V.ref a] ∧ H a = some (.dK kvs) ∧ Q (.int kvs.length) H
def rAbs : RC := fun xs H Q => ∃ i, xs = [.int i] ∧ Q (.int (if i < 0 then -i else i)) H
def rMin2 : RC := fun xs H Q => ∃ i j, xs = [.int i, .int j] ∧ Q (.int (if j < i then j else i)) H
def rMax2 : RC := fun xs H Q => ∃ i j, xs = [.int i, .int j] ∧ Q (.int (if j > i then j else i)) H
def rInt1 : RC := fun xs H Q => (∃ i, xs = [.int i] ∧ Q (.int i) H) ∨ ∃ k, xs = [.bl k] ∧ Q (.int (if k = true then 1 else 0)) H
def rListOf (K : PySem.W.Frag) : RC := fun xs H Q => ∃ p ys, xs = [.ref p] ∧ (SqL K H p ys ∨ SqT K H p ys) ∧ ∀ l, H l = none → Q (.ref l) (upd H l (.lst ys))
def rJoin (K : PySem.W.Frag) : V → List V → Hp → VK → Prop := fun x xs H Q => ∃ a p, ∃ ys : List Str, x = .str a ∧ xs = [.ref p] ∧ (SqL K H p (ys.map V.str) ∨ SqT K H p (ys.map V.str)) ∧ (ys.map (·.length)).sum + ys.length * a.length ≤ 16777216 ∧ Q (.str (Txt.join a ys)) H
section
variable {X : Cx} {K : PySem.W.Frag}
theorem op_catS : OpR X (binaryOp .Add) rCatS := op_add_str
theorem op_ltS : OpR X (compareOp .Lt) rLtS := op_lt_str
theorem op_leS : OpR X (compareOp .LtE) rLeS := op_le_str
theorem op_gtS : OpR X (compareOp .Gt) rGtS := op_gt_str
theorem op_geS : OpR X (compareOp .GtE) rGeS := op_ge_str
theorem op_inStr : OpR X (compareOp .In) rInS' := op_in_str
theorem op_ninStr : OpR X (compareOp .NotIn) rNinS' := op_notin_str
theorem op_isNo : OpR X (compareOp .Is) rIsNo := op_isN
theorem op_notNo : OpR X (compareOp .IsNot) rNotNo := op_notN
theorem call_lenS : CallR X (.builtin "len") rLenS := call_len_str
theorem call_lenQ (hK : X.K = K) : CallR X (.builtin "len") (rLenQ K) := call_lenK hK
theorem call_lenDd : CallR X (.builtin "len") rLenDK := call_lenD
theorem call_absI : CallR X (.builtin "abs") rAbs := call_abs
theorem call_min2I (hc : X.calm = true) : CallR X (.builtin "min") rMin2 := call_min2 hc
theorem call_max2I (hc : X.calm = true) : CallR X (.builtin "max") rMax2 := call_max2 hc
theorem call_int1I : CallR X (.type "int") rInt1 := by
  intro pins s σ H xs us Q I r h
  exact call_int1 pins s σ H xs us Q I r h
theorem call_listOf (hK : X.K = K) : CallR X (.type "list") (rListOf K) := call_listK hK
theorem pe_joinN {e : Expr} {to te : TE} (hK : X.K = K) (h : PE X e (tM1 (fun x xs H Q => ∃ a p, ∃ ys : List Str, x = .str a ∧ xs = [.ref p] ∧ (SqL X.K H p (ys.map V.str) ∨ SqT X.K H p (ys.map V.str)) ∧ (ys.map (·.length)).sum + ys.length * a.length ≤ 16777216 ∧ Q (.str (Txt.join a ys)) H) to te)) :
    PE X e (tM1 (rJoin K) to te) := by subst hK; exact h
end
section
variable {H : Hp} {K : PySem.W.Frag} {v : V} {α : Type} {R : Rep α} {σ : St} {te to : TE}
theorem kk_cat {a b r : List Nat} (h : catM a b = some r) : ∀ Q : VK, Q (vS r) H → rCatS (vS a) (vS b) H Q := k_cat h
theorem kk_lt (a b : List Nat) : ∀ Q : VK, Q (.bl (decide (a < b))) H → rLtS (vS a) (vS b) H Q := k_ltS a b
theorem kk_le (a b : List Nat) : ∀ Q : VK, Q (.bl (!decide (b < a))) H → rLeS (vS a) (vS b) H Q := k_leS a b
theorem kk_gt (a b : List Nat) : ∀ Q : VK, Q (.bl (decide (b < a))) H → rGtS (vS a) (vS b) H Q := fun Q q => ⟨sS a, sS b, rfl, rfl, by rw [sS_list, sS_list]; exact q⟩
theorem kk_ge (a b : List Nat) : ∀ Q : VK, Q (.bl (!decide (a < b))) H → rGeS (vS a) (vS b) H Q := fun Q q => ⟨sS a, sS b, rfl, rfl, by rw [sS_list, sS_list]; exact q⟩
theorem kk_in (y x : List Nat) : ∀ Q : VK, Q (.bl (inS y x)) H → rInS' (vS y) (vS x) H Q := k_inS y x
theorem kk_nin (y x : List Nat) : ∀ Q : VK, Q (.bl (!inS y x)) H → rNinS' (vS y) (vS x) H Q := k_notinS y x
theorem kk_lenS {l : List Nat} (h : OkS l) : ∀ Q : VK, Q (.int (l.length : Int)) H → rLenS [vS l] H Q := k_lenS h
theorem kk_lenL {xs : List α} (h : pL R xs v H) : ∀ Q : VK, Q (.int (xs.length : Int)) H → rLenQ K [v] H Q := k_lenL h
theorem kk_lenScr {ns : List Int} (h : pScr K ns v H) : ∀ Q : VK, Q (.int (ns.length : Int)) H → rLenQ K [v] H Q := k_lenScr h
theorem kk_abs (i : Int) : ∀ Q : VK, Q (.int (if i < 0 then -i else i)) H → rAbs [V.int i] H Q := k_abs i
theorem kk_min2 (i j : Int) : ∀ Q : VK, Q (.int (if j < i then j else i)) H → rMin2 [V.int i, V.int j] H Q := k_min2 i j
theorem kk_max2 (i j : Int) : ∀ Q : VK, Q (.int (if j > i then j else i)) H → rMax2 [V.int i, V.int j] H Q := k_max2 i j
theorem kk_intB (b : Bool) : ∀ Q : VK, Q (.int (if b = true then 1 else 0)) H → rInt1 [V.bl b] H Q := k_intB b
theorem kk_intI (i : Int) : ∀ Q : VK, Q (.int i) H → rInt1 [V.int i] H Q := k_intI i
variable {G G' : Hp}
theorem kk_listL {xs : List α} (h : ∃ vs, GotL R G H xs v vs) : ∃ vs, All2 R G xs vs ∧ xs.length ≤ sizeLine ∧ ∀ Q : VK, (∀ p, H p = none → Q (.ref p) (upd H p (.lst vs))) → rListOf K [v] H Q := k_listL h
theorem kk_join {s r : List Nat} {ys : List (List Nat)} (h : pL pS ys v H) (e : joinM s ys = some r) : ∀ Q : VK, Q (vS r) H → rJoin K (vS s) [v] H Q := k_join h e
theorem ev_joinN {s r : List Nat} {ys : List (List Nat)} (h1 : EV to σ H (vS s)) (h2 : EV te σ H v) (h : pL pS ys v H) (e : joinM s ys = some r) : EV (tM1 (rJoin K) to te) σ H (vS r) := ev_join h1 h2 h e
/-! optional things -/
class Nv {α : Type} (R : Rep α) : Prop where
  nv : ∀ {x v H}, R x v H → v ≠ .non
instance : Nv pI := ⟨fun h e => by rw [show _ = _ from h] at e; cases e⟩
instance : Nv pB := ⟨fun h e => by rw [show _ = _ from h] at e; cases e⟩
instance : Nv pS := ⟨fun h e => by rw [show _ = _ from h.1] at e; cases e⟩
instance {R : Rep α} : Nv (pL R) := ⟨fun ⟨_, _, h, _⟩ e => by rw [h] at e; cases e⟩
instance {β : Type} {R : Rep α} {S : Rep β} : Nv (pT2 R S) := ⟨fun ⟨_, _, _, h, _⟩ e => by rw [h] at e; cases e⟩
instance {β γ : Type} {R : Rep α} {S : Rep β} {T : Rep γ} : Nv (pT3 R S T) := ⟨fun ⟨_, _, _, _, h, _⟩ e => by rw [h] at e; cases e⟩
theorem isO [Nv R] {o : Option α} (h : pO R o v G) : decide (v = .non) = o.isNone := by
  cases o with
  | none => rw [show v = .non from h]; rfl
  | some x => exact decide_eq_false (Nv.nv (R := R) h)
theorem k_isO [Nv R] {o : Option α} (h : pO R o v G) : ∀ Q : VK, Q (.bl o.isNone) H → rIsNo v .non H Q := fun Q q => ⟨rfl, by rw [isO h]; exact q⟩
theorem k_notO [Nv R] {o : Option α} (h : pO R o v G) : ∀ Q : VK, Q (.bl (!o.isNone)) H → rNotNo v .non H Q := fun Q q => ⟨rfl, by rw [isO h]; exact q⟩
theorem eqO_aux {o p : Option Int} {v w : V} (h1 : pO pI o v G) (h2 : pO pI p w G') : scal v w = true ∧ decide (v = w) = decide (o = p) := by
  cases o with
  | none =>
    rw [show v = .non from h1]
    cases p with
    | none => rw [show w = .non from h2]; exact ⟨rfl, rfl⟩
    | some x => rw [show w = .int x from h2]; exact ⟨rfl, by simp⟩
  | some y =>
    rw [show v = .int y from h1]
    cases p with
    | none => rw [show w = .non from h2]; exact ⟨rfl, by simp⟩
    | some x => rw [show w = .int x from h2]; exact ⟨rfl, by by_cases e : y = x <;> simp [e]⟩
theorem eqOS_aux {o p : Option (List Nat)} {v w : V} (h1 : pO pS o v G) (h2 : pO pS p w G') : scal v w = true ∧ decide (v = w) = decide (o = p) := by
  cases o with
  | none =>
    rw [show v = .non from h1]
    cases p with
    | none => rw [show w = .non from h2]; exact ⟨rfl, rfl⟩
    | some x => rw [show w = vS x from (show pS x w G' from h2).1]; exact ⟨rfl, by simp [vS]⟩
  | some y =>
    rw [show v = vS y from (show pS y v G from h1).1]
    cases p with
    | none => rw [show w = .non from h2]; exact ⟨rfl, by simp [vS]⟩
    | some x => rw [show w = vS x from (show pS x w G' from h2).1]; exact ⟨rfl, by rw [vS_eq]; by_cases e : y = x <;> simp [e]⟩
theorem k_eqOI {o p : Option Int} {v w : V} (h1 : pO pI o v G) (h2 : pO pI p w G') : ∀ Q : VK, Q (.bl (decide (o = p))) H → rEq v w H Q := fun Q q => ⟨(eqO_aux h1 h2).1, by rw [(eqO_aux h1 h2).2]; exact q⟩
theorem k_neOI {o p : Option Int} {v w : V} (h1 : pO pI o v G) (h2 : pO pI p w G') : ∀ Q : VK, Q (.bl (!decide (o = p))) H → rNe v w H Q := fun Q q => ⟨(eqO_aux h1 h2).1, by rw [(eqO_aux h1 h2).2]; exact q⟩
theorem k_eqOS {o p : Option (List Nat)} {v w : V} (h1 : pO pS o v G) (h2 : pO pS p w G') : ∀ Q : VK, Q (.bl (decide (o = p))) H → rEq v w H Q := fun Q q => ⟨(eqOS_aux h1 h2).1, by rw [(eqOS_aux h1 h2).2]; exact q⟩
theorem k_neOS {o p : Option (List Nat)} {v w : V} (h1 : pO pS o v G) (h2 : pO pS p w G') : ∀ Q : VK, Q (.bl (!decide (o = p))) H → rNe v w H Q := fun Q q => ⟨(eqOS_aux h1 h2).1, by rw [(eqOS_aux h1 h2).2]; exact q⟩
end
end MK

namespace MK
open PySem PySem.Spec L2
/-! ways to walk -/
def enumL {α : Type} (xs : List α) : List (Int × α) := (List.range xs.length).zip xs |>.map fun p => ((p.1 : Int), p.2)
section
variable {α β γ : Type} {R : Rep α} {S : Rep β} {G H H' : Hp} {v : V} {K : PySem.W.Frag}
theorem enumL_len (xs : List α) : (enumL xs).length = xs.length := by simp [enumL]
theorem enumL_at {xs : List α} {i : Nat} {x : Int × α} (h : (enumL xs)[i]? = some x) : x.1 = (i : Int) ∧ xs[i]? = some x.2 := by
  unfold enumL at h
  rw [List.getElem?_map] at h
  cases e : ((List.range xs.length).zip xs)[i]? with
  | none => rw [e] at h; cases h
  | some p =>
    rw [e] at h
    cases someI h
    rw [List.getElem?_zip_eq_some] at e
    obtain ⟨e1, e2⟩ := e
    have hi : i < xs.length := (List.getElem?_eq_some_iff.mp e2).1
    rw [List.getElem?_range hi] at e1
    exact ⟨congrArg (fun n : Nat => (n : Int)) (someI e1).symm, e2⟩
theorem enum_item {xs : List α} {vs : List V} {i : Nat} {x : Int × α} (ha : All2 R G xs vs) (hx : (enumL xs)[i]? = some x) (hy : YPair (fun i => some (.int (i : Nat))) (fun i => vs[i]?) i H v H') :
    ∃ T u, v = .ref T ∧ H T = none ∧ H' = upd H T (.tup [.int x.1, u]) ∧ R x.2 u G := by
  obtain ⟨T, y, u, e1, e2, e3, e4, e5⟩ := hy
  obtain ⟨h1, h2⟩ := enumL_at hx
  obtain ⟨w, h3, h4⟩ := ha.get h2
  have e6 : u = w := someI (e5.symm.trans h3)
  have e7 : y = .int (i : Nat) := (someI e4).symm
  subst e6
  subst e7
  exact ⟨T, _, e1, e2, by rw [h1]; exact e3, h4⟩
theorem zip_item {xs : List α} {ys : List β} {vs ws : List V} {i : Nat} {x : α × β} {G2 : Hp} (ha : All2 R G xs vs) (hb : All2 S G2 ys ws) (hx : (xs.zip ys)[i]? = some x) (hy : YPair (fun i => vs[i]?) (fun i => ws[i]?) i H v H') :
    ∃ T u w, v = .ref T ∧ H T = none ∧ H' = upd H T (.tup [u, w]) ∧ R x.1 u G ∧ S x.2 w G2 := by
  obtain ⟨T, u, w, e1, e2, e3, e4, e5⟩ := hy
  rw [List.getElem?_zip_eq_some] at hx
  obtain ⟨u', h1, h2⟩ := ha.get hx.1
  obtain ⟨w', h3, h4⟩ := hb.get hx.2
  have e6 : u = u' := someI (e4.symm.trans h1)
  have e7 : w = w' := someI (e5.symm.trans h3)
  subst e6
  subst e7
  exact ⟨T, _, _, e1, e2, e3, h2, h4⟩
theorem rev_item {xs : List α} {vs : List V} {i : Nat} {x : α} (ha : All2 R G xs vs) (hx : xs.reverse[i]? = some x) (hy : H' = H ∧ vs[vs.length - 1 - i]? = some v) : H' = H ∧ R x v G := by
  obtain ⟨e, hv⟩ := hy
  have hi : i < xs.length := by
    have := (List.getElem?_eq_some_iff.mp hx).1
    simpa using this
  rw [List.getElem?_reverse hi] at hx
  obtain ⟨w, h1, h2⟩ := ha.get hx
  have hl := All2.len ha
  rw [hl] at h1
  rw [h1] at hv
  cases hv
  exact ⟨e, h2⟩
theorem enum_hn {xs : List α} {vs : List V} (ha : All2 R G xs vs) : (enumL xs).length = vs.length := by rw [enumL_len]; exact All2.len ha
theorem zip_hn {xs : List α} {ys : List β} {vs ws : List V} {G2 : Hp} (ha : All2 R G xs vs) (hb : All2 S G2 ys ws) : (xs.zip ys).length = min vs.length ws.length := by rw [List.length_zip, All2.len ha, All2.len hb]
theorem rev_hn {xs : List α} {vs : List V} (ha : All2 R G xs vs) : xs.reverse.length = vs.length := by rw [List.length_reverse]; exact All2.len ha
theorem cps_enum {R : It → Hp → Prop} {ta : TA} {σ : St} (h : ta σ H fun vs H1 => ∃ a xs, vs = [.ref a] ∧ SqL K H1 a xs ∧ R (Ite K a) H1) : iEnum K ta σ H R := h
theorem cps_zip {R : It → Hp → Prop} {ta : TA} {σ : St} (h : ta σ H fun vs H1 => ∃ a b xs ys, vs = [.ref a, .ref b] ∧ SqL K H1 a xs ∧ SqL K H1 b ys ∧ R (Itz K a b) H1) : iZip K ta σ H R := h
theorem cps_rev {R : It → Hp → Prop} {ta : TA} {σ : St} (h : ta σ H fun vs H1 => ∃ (a : Addr) (xs : List V), vs = [.ref a] ∧ SqL K H1 a xs ∧ R (Itv K a xs.length) H1) : iRev K ta σ H R := h
variable {σ : St} {N : St → Hp → Prop} {g : TG} {gs : TGs} {a : Addr} {xs r : List V} {n : Nat}
theorem gt_open (h : H a = some (.tup xs)) (hn : xs.length = n) (k : gs xs σ H N) : gTup K n gs (.ref a) σ H N := ⟨a, xs, rfl, SqT.of h, hn, k⟩
theorem gt_cons (k : g v σ H fun σ' H' => gs r σ' H' N) : gCons g gs (v :: r) σ H N := ⟨v, r, rfl, k⟩
theorem gt_nil (k : N σ H) : gNil [] σ H N := ⟨rfl, k⟩
end
end MK

namespace MK
open PySem PySem.Spec L2
/-! the least of texts, or nothing -/
def ltL (a b : List Nat) : Bool := decide (a < b)
def minL : List (List Nat) → Option (List Nat)
  | [] => none
  | x :: xs => some (xs.foldl (fun a y => if ltL y a = true then y else a) x)
def rMinDf (K : PySem.W.Frag) : List V → List V → Hp → VK → Prop := fun xs zs H Q => ∃ (a : Addr) (ys : List (List Nat)), xs = [.ref a] ∧ zs = [.non] ∧ SqL K H a (ys.map vS) ∧
  ∀ v, pO pS (minL ys) v H ∨ (∃ l, minL ys = some l ∧ v = vS l) → Q v H
theorem depth_strs : ∀ ys : List (List Nat), PyData.depthAll (ys.map fun l => PyData.str (sS l)) = 0
  | [] => rfl
  | y :: ys => by
    show max (PyData.depth (.str (sS y))) (PyData.depthAll (ys.map fun l => PyData.str (sS l))) = 0
    rw [depth_strs ys]
    rfl
theorem dp_strs {K : PySem.W.Frag} {H : Hp} : ∀ ys : List (List Nat), DpAll K H (ys.map vS) (ys.map fun l => PyData.str (sS l))
  | [] => .nil
  | y :: ys => .cons (.str _) (dp_strs ys)
theorem minD_strs (x : List Nat) : ∀ xs : List (List Nat), PySem.W.minD (PyData.str (sS x)) (xs.map fun l => PyData.str (sS l)) = .str (sS (xs.foldl (fun a y => if ltL y a = true then y else a) x)) := by
  intro xs
  unfold PySem.W.minD
  induction xs generalizing x with
  | nil => rfl
  | cons y r ih =>
    rw [List.map_cons, List.foldl_cons, List.foldl_cons, ← ih]
    skip
    rw [PySem.W.dataLt_str, sS_list, sS_list]
    unfold ltL
    by_cases h : y < x
    · rw [if_pos (decide_eq_true h), if_pos (decide_eq_true h)]
    · rw [if_neg (by simpa using h), if_neg (by simpa using h)]
theorem alike_strs (ys : List (List Nat)) : PySem.W.AlikeAll (ys.map fun l => PyData.str (sS l)) := by
  refine ⟨fun x hx y hy => ?_, fun x hx => ?_⟩
  · obtain ⟨a, _, rfl⟩ := List.mem_map.mp hx
    obtain ⟨b, _, rfl⟩ := List.mem_map.mp hy
    rfl
  · obtain ⟨a, _, rfl⟩ := List.mem_map.mp hx
    exact nofun
theorem cr_minDf {X : Cx} {K : PySem.W.Frag} (hK : X.K = K) (hc : X.calm = true) (hu : X.A.units + 1 < cLine) : CallRK X (.builtin "min") ["default"] (rMinDf K) := by
  subst hK
  intro pins s σ H xs zs us ws Q I r1 r2 h
  obtain ⟨a, ys, rfl, rfl, hs, q⟩ := h
  obtain ⟨its, rv, hl, _⟩ := I.list hs
  obtain ⟨as, hr⟩ := Dp.readsAll I _ _ its (dp_strs ys) rv
  rw [Vals.ref1 r1]
  obtain ⟨w0, rfl, r3⟩ := vals1 r2
  cases r3
  refine PySem.W.min_list_default (I.ok.hd hc) hl.isList hr (alike_strs ys) (by rw [depth_strs]; exact hu) (fun e h' tk k => ?_) (fun y r i v h' tk bs e hv hrd k => ?_)
  · cases ys with
    | cons y r => cases e
    | nil => exact ⟨.non, H, I.kept k, rfl, q _ (.inl rfl)⟩
  · cases ys with
    | nil => cases e
    | cons y0 r0 =>
      obtain ⟨e1, e2⟩ := List.cons.inj e
      subst e1
      subst e2
      rw [minD_strs] at hrd
      cases hrd
      exact ⟨vS _, H, I.kept k, ⟨_, rfl⟩, q _ (.inr ⟨_, rfl, rfl⟩)⟩
theorem minL_mem : ∀ {ys : List (List Nat)} {l : List Nat}, minL ys = some l → l ∈ ys := by
  intro ys l h
  cases ys with
  | nil => cases h
  | cons x xs =>
    cases someI h
    clear h
    induction xs generalizing x with
    | nil => simp
    | cons y r ih =>
      rw [List.foldl_cons]
      split
      · exact List.mem_cons_of_mem _ (ih y)
      · rcases List.mem_cons.mp (ih x) with h | h
        · rw [h]; simp
        · exact List.mem_cons_of_mem _ (List.mem_cons_of_mem _ h)
theorem All2.strs {G : Hp} {xs : List (List Nat)} {vs : List V} (h : All2 pS G xs vs) : vs = xs.map vS ∧ ∀ x ∈ xs, OkS x := by
  induction h with
  | nil => exact ⟨rfl, by simp⟩
  | cons h _ ih =>
    refine ⟨by rw [List.map_cons, ih.1, h.1], fun x hx => ?_⟩
    rcases List.mem_cons.mp hx with rfl | hx
    · exact h.2
    · exact ih.2 x hx
section
variable {H G : Hp} {K : PySem.W.Frag} {v : V}
theorem k_minDf {ys : List (List Nat)} (h : pL pS ys v H) : ∃ u, pO pS (minL ys) u H ∧ ∀ Q : VK, Q u H → rMinDf K [v] [.non] H Q := by
  obtain ⟨a, vs, rfl, h, ha, _⟩ := h
  obtain ⟨rfl, ok⟩ := ha.strs
  have hu : ∃ u, pO pS (minL ys) u H := by
    cases e : minL ys with
    | none => exact ⟨.non, rfl⟩
    | some l => exact ⟨vS l, rfl, ok l (minL_mem e)⟩
  obtain ⟨u, hu⟩ := hu
  refine ⟨u, hu, fun Q q => ⟨a, ys, rfl, rfl, SqL.of h, fun w hw => ?_⟩⟩
  have e : w = u := by
    cases e : minL ys with
    | none =>
      rw [e] at hu hw
      rw [show u = .non from hu]
      rcases hw with hw | ⟨l, hl, _⟩
      · exact hw
      · cases hl
    | some l =>
      rw [e] at hu hw
      rw [show u = vS l from hu.1]
      rcases hw with hw | ⟨l', hl, hw⟩
      · exact hw.1
      · cases hl; exact hw
  rw [e]; exact q
theorem cps_callK {r : List V → List V → Hp → VK → Prop} {t tk : TA} {σ : St} {Q : VK} (h : t σ H fun vs H1 => tk σ H1 fun zs H2 => r vs zs H2 Q) : tCKw r t tk σ H Q := h
end
/-! dicts -/
class KeyT (κ : Type) where
  key : κ → Key
  kinj : ∀ {a b : κ}, key a = key b → a = b
  deq : DecidableEq κ
  good : κ → Prop
instance : KeyT Int := ⟨Sum.inl, fun h => by injection h, inferInstance, fun _ => True⟩
instance : KeyT (List Nat) := ⟨fun l => Sum.inr (sS l), fun h => by injection h with h; exact sS_inj h, inferInstance, OkS⟩
instance {κ : Type} [KeyT κ] : DecidableEq κ := KeyT.deq
section
variable {κ α : Type} [KeyT κ]
def lookL (xs : List (κ × α)) (k : κ) : Option α := (xs.find? fun p => decide (p.1 = k)).map (·.2)
def hasL (xs : List (κ × α)) (k : κ) : Bool := (lookL xs k).isSome
def putL (xs : List (κ × α)) (k : κ) (x : α) : List (κ × α) := if (xs.any fun p => decide (p.1 = k)) = true then xs.map (fun p => if p.1 = k then (p.1, x) else p) else xs ++ [(k, x)]
def putM (xs : List (κ × α)) (k : κ) (x : α) : Option (List (κ × α)) := if decide (xs.length < sizeLine) = true then some (putL xs k x) else none
inductive AllD (R : Rep α) (G : Hp) : List (κ × α) → List (Key × V) → Prop
  | nil : AllD R G [] []
  | cons {k : κ} {x : α} {v : V} {xs : List (κ × α)} {kvs : List (Key × V)} : KeyT.good k → R x v G → AllD R G xs kvs → AllD R G ((k, x) :: xs) ((KeyT.key k, v) :: kvs)
variable {R : Rep α} {G G' H : Hp} {xs ys : List (κ × α)} {kvs : List (Key × V)} {k : κ} {x : α} {v : V} {a : Addr}
theorem AllD.mono [Mn R] (h : AllD R G xs kvs) (s : L2.Same G G') : AllD R G' xs kvs := by
  induction h with
  | nil => exact .nil
  | cons g h _ ih => exact .cons g (Mn.mono h s) ih
theorem AllD.len (h : AllD R G xs kvs) : xs.length = kvs.length := by
  induction h with
  | nil => rfl
  | cons _ _ _ ih => simp [ih]
theorem AllD.good (h : AllD R G xs kvs) : ∀ k ∈ xs.map (·.1), KeyT.good k := by
  induction h with
  | nil => simp
  | cons g _ _ ih =>
    intro k hk
    rw [List.map_cons] at hk
    rcases List.mem_cons.mp hk with rfl | hk
    · exact g
    · exact ih k hk
theorem AllD.keys (h : AllD R G xs kvs) : kvs.map (·.1) = xs.map fun p => KeyT.key p.1 := by
  induction h with
  | nil => rfl
  | cons _ _ _ ih => simp [ih]
theorem AllD.look (h : AllD R G xs kvs) (k : κ) : (lookL xs k = none ∧ valV kvs (KeyT.key k) = none) ∨ ∃ x v, lookL xs k = some x ∧ valV kvs (KeyT.key k) = some v ∧ R x v G := by
  induction h with
  | nil => exact .inl ⟨rfl, rfl⟩
  | @cons j x v xs kvs hg h _ ih =>
    by_cases e : j = k
    · refine .inr ⟨x, v, ?_, ?_, h⟩
      · simp [lookL, List.find?_cons, e]
      · exact valV_pos (by rw [e])
    · have e2 : ¬ (KeyT.key j : Key) = KeyT.key k := fun h => e (KeyT.kinj h)
      have e3 : lookL ((j, x) :: xs) k = lookL xs k := by simp [lookL, List.find?_cons, e]
      have e4 : valV ((KeyT.key j, v) :: kvs) (KeyT.key k) = valV kvs (KeyT.key k) := valV_neg e2
      rw [e3, e4]; exact ih
theorem AllD.any (h : AllD R G xs kvs) (k : κ) : (kvs.any fun kv => decide (kv.1 = KeyT.key k)) = xs.any fun p => decide (p.1 = k) := by
  induction h with
  | nil => rfl
  | @cons j x v xs kvs hg h _ ih =>
    rw [List.any_cons, List.any_cons, ih]
    congr 1
    by_cases e : j = k
    · simp [e]
    · have e2 : ¬ (KeyT.key j : Key) = KeyT.key k := fun h => e (KeyT.kinj h)
      simp [e, e2]
theorem AllD.snoc (h : AllD R G xs kvs) (gk : KeyT.good k) (hx : R x v G) : AllD R G (xs ++ [(k, x)]) (kvs ++ [(KeyT.key k, v)]) := by
  induction h with
  | nil => exact .cons gk hx .nil
  | cons g h _ ih => exact .cons g h ih
theorem AllD.upd (h : AllD R G xs kvs) (hx : R x v G) : AllD R G (xs.map fun p => if p.1 = k then (p.1, x) else p) (kvs.map fun kv => if kv.1 = KeyT.key k then (kv.1, v) else kv) := by
  induction h with
  | nil => exact .nil
  | @cons j y w xs kvs hg h _ ih =>
    rw [List.map_cons, List.map_cons]
    by_cases e : j = k
    · rw [if_pos e, if_pos (by rw [e])]; exact .cons hg hx ih
    · rw [if_neg e, if_neg (fun h => e (KeyT.kinj h))]; exact .cons hg h ih
theorem AllD.put (h : AllD R G xs kvs) (gk : KeyT.good k) (hx : R x v G) (e : putM xs k x = some ys) : kvs.length < sizeLine ∧ AllD R G ys (putK kvs (KeyT.key k) v) ∧ ys.length ≤ sizeLine := by
  obtain ⟨c, rfl⟩ := guardS e
  refine ⟨by rw [← h.len]; exact c, ?_, ?_⟩
  · unfold putL putK
    rw [h.any]
    split
    · exact h.upd hx
    · exact h.snoc gk hx
  · unfold putL
    split
    · rw [List.length_map]; omega
    · rw [List.length_append]; exact c
/-- a dict that stands -/
def pD (R : Rep α) : Rep (List (κ × α)) := fun xs v G => ∃ a kvs, v = .ref a ∧ Rd G a (.dK kvs) ∧ AllD R G xs kvs ∧ xs.length ≤ sizeLine
theorem rd_mono {u : HO} (s : L2.Same G G') (h : Rd G a u) : Rd G' a u := h.elim (fun h => .inl (s _ _ h)) fun ⟨o, h⟩ => .inr ⟨o, s _ _ h⟩
instance [Mn R] : Mn (pD (κ := κ) R) := ⟨fun ⟨a, kvs, e, h, ha, hl⟩ s => ⟨a, kvs, e, rd_mono s h, ha.mono s, hl⟩⟩
theorem pD_new [Mn R] (hG : G a = none) (ha : AllD R G xs kvs) (hl : xs.length ≤ sizeLine) : pD R xs (.ref a) (upd G a (.dK kvs)) := ⟨a, kvs, rfl, .of upd_same, ha.mono (same_new hG), hl⟩
theorem pD_cell [Mn R] (hH : Rd H a (.dK kvs)) (ha : AllD R G xs kvs) (s : L2.Same G H) (hl : xs.length ≤ sizeLine) : pD R xs (.ref a) H := ⟨a, kvs, rfl, hH, ha.mono s, hl⟩
theorem dget_k (h : Rd H a (.dK kvs)) (k : κ) : DGet H a (kV (KeyT.key k)) (valV kvs (KeyT.key k)) := .inl ⟨kvs, _, h, rfl, rfl⟩
theorem k_dget (hv : v = .ref a) (h : Rd H a (.dK kvs)) (ha : AllD R G xs kvs) (e : lookL xs k = some x) : ∃ w, R x w G ∧ ∀ Q : VK, Q w H → (∃ b u, v = .ref b ∧ DGet H b (kV (KeyT.key k)) (some u) ∧ Q u H) := by
  rcases ha.look k with ⟨h1, _⟩ | ⟨y, w, h1, h2, h3⟩
  · rw [h1] at e; cases e
  · rw [h1] at e; cases e
    exact ⟨w, h3, fun Q q => ⟨a, w, hv, h2 ▸ dget_k h k, q⟩⟩
theorem AllD.has (ha : AllD R G xs kvs) (k : κ) : (valV kvs (KeyT.key k)).isSome = hasL xs k := by
  unfold hasL
  rcases ha.look k with ⟨h1, h2⟩ | ⟨y, w, h1, h2, h3⟩
  · rw [h1, h2]; rfl
  · rw [h1, h2]; rfl
theorem k_din (hv : v = .ref a) (h : Rd H a (.dK kvs)) (ha : AllD R G xs kvs) (k : κ) : ∀ Q : VK, Q (.bl (hasL xs k)) H → (∃ b o, v = .ref b ∧ DGet H b (kV (KeyT.key k)) o ∧ Q (.bl o.isSome) H) :=
  fun Q q => ⟨a, _, hv, dget_k h k, by rw [ha.has]; exact q⟩
theorem k_dnin (hv : v = .ref a) (h : Rd H a (.dK kvs)) (ha : AllD R G xs kvs) (k : κ) : ∀ Q : VK, Q (.bl (!hasL xs k)) H → (∃ b o, v = .ref b ∧ DGet H b (kV (KeyT.key k)) o ∧ Q (.bl (!o.isSome)) H) :=
  fun Q q => ⟨a, _, hv, dget_k h k, by rw [ha.has]; exact q⟩
theorem k_dget2 (h : Rd H a (.dK kvs)) (ha : AllD R G xs kvs) (k : κ) {y : α} {u : V} (hy : R y u G) : ∃ w, R ((lookL xs k).getD y) w G ∧ ∀ Q : VK, Q w H → (∃ o, DGet H a (kV (KeyT.key k)) o ∧ Q (o.getD u) H) := by
  rcases ha.look k with ⟨h1, h2⟩ | ⟨z, w, h1, h2, h3⟩
  · rw [h1]; exact ⟨u, hy, fun Q q => ⟨_, dget_k h k, by rw [h2]; exact q⟩⟩
  · rw [h1]; exact ⟨w, h3, fun Q q => ⟨_, dget_k h k, by rw [h2]; exact q⟩⟩
variable {td ty tx tv : TE} {σ : St} {Q : VK} {D : Ends} {rest : TS}
theorem cps_dget (h : td σ H fun x H1 => ty σ H1 fun y H2 => ∃ a v, x = .ref a ∧ DGet H2 a y (some v) ∧ Q v H2) : tDGet td ty σ H Q := h
theorem cps_din (h : ty σ H fun y H1 => td σ H1 fun x H2 => ∃ a o, x = .ref a ∧ DGet H2 a y o ∧ Q (.bl o.isSome) H2) : tDIn ty td σ H Q := h
theorem cps_dnin (h : ty σ H fun y H1 => td σ H1 fun x H2 => ∃ a o, x = .ref a ∧ DGet H2 a y o ∧ Q (.bl (!o.isSome)) H2) : tDNotIn ty td σ H Q := h
theorem cps_dget2 (h : td σ H fun x H1 => ∃ a, x = .ref a ∧ IsD H1 a ∧ ty σ H1 fun y H2 => tx σ H2 fun z H3 => ∃ o, DGet H3 a y o ∧ Q (o.getD z) H3) : tDGet2 td ty tx σ H Q := h
theorem cps_dput (h : tv σ H fun v H1 => td σ H1 fun x H2 => ty σ H2 fun y H3 => ∃ a H4, x = .ref a ∧ DPut H3 a y v H4 ∧ rest D σ H4) : tSeq (sDPut td ty tv) rest D σ H := h
theorem cps_dnew (h : ∀ p, H p = none → Q (.ref p) (upd H p (.dK []))) : tDNewK σ H Q := h
theorem isD_of (h : Rd H a (.dK kvs)) : IsD H a := .inl ⟨kvs, h⟩
theorem ev_dget {w : V} (h1 : EV td σ H v) (h2 : EV ty σ H (kV (KeyT.key k))) (q : ∀ Q : VK, Q w H → (∃ b u, v = .ref b ∧ DGet H b (kV (KeyT.key k)) (some u) ∧ Q u H)) : EV (tDGet td ty) σ H w := fun Q k => h1 _ (h2 _ (q Q k))
theorem ev_din {b : Bool} (h1 : EV td σ H v) (h2 : EV ty σ H (kV (KeyT.key k))) (q : ∀ Q : VK, Q (.bl b) H → (∃ b' o, v = .ref b' ∧ DGet H b' (kV (KeyT.key k)) o ∧ Q (.bl o.isSome) H)) : EV (tDIn ty td) σ H (.bl b) := fun Q k => h2 _ (h1 _ (q Q k))
theorem ev_dnin {b : Bool} (h1 : EV td σ H v) (h2 : EV ty σ H (kV (KeyT.key k))) (q : ∀ Q : VK, Q (.bl b) H → (∃ b' o, v = .ref b' ∧ DGet H b' (kV (KeyT.key k)) o ∧ Q (.bl (!o.isSome)) H)) : EV (tDNotIn ty td) σ H (.bl b) := fun Q k => h2 _ (h1 _ (q Q k))
theorem k_lenD (hv : v = .ref a) (h : H a = some (.dK kvs)) (ha : AllD R G xs kvs) : ∀ Q : VK, Q (.int (xs.length : Int)) H → rLenDK [v] H Q := fun Q q => ⟨a, kvs, by rw [hv], h, by rw [← ha.len]; exact q⟩
/-- a walk over a dict's keys -/
theorem keys_item {i : Nat} {k : κ} {v : V} {H' : Hp} (ha : AllD R G xs kvs) (hx : (xs.map (·.1))[i]? = some k) (hy : H' = H ∧ ∃ k v', kvs[i]? = some (k, v') ∧ v = kV k) : H' = H ∧ v = kV (KeyT.key k) := by
  obtain ⟨e, k', v', h1, h2⟩ := hy
  refine ⟨e, ?_⟩
  have h3 : (kvs.map (·.1))[i]? = some k' := by rw [List.getElem?_map, h1]; rfl
  rw [ha.keys, List.getElem?_map] at h3
  rw [List.getElem?_map] at hx
  cases e2 : xs[i]? with
  | none => rw [e2] at hx; cases hx
  | some p =>
    rw [e2] at hx h3
    cases hx
    cases h3
    exact h2
theorem keys_hn (ha : AllD R G xs kvs) : (xs.map (·.1)).length = kvs.length := by rw [List.length_map]; exact ha.len
end
/-! sorted over a dict of texts -/
def sortS (xs : List (List Nat)) : List (List Nat) := xs.mergeSort fun a b => decide (a ≤ b)
theorem le_nat_total (a b : List Nat) : (decide (a ≤ b) || decide (b ≤ a)) = true := by
  rcases List.le_total a b with h | h <;> simp [h]
theorem sortS_perm (xs : List (List Nat)) : (sortS xs).Perm xs := List.mergeSort_perm _ _
theorem sortS_sorted (xs : List (List Nat)) : (sortS xs).Pairwise (· ≤ ·) := by
  have h := List.pairwise_mergeSort (le := fun a b : List Nat => decide (a ≤ b)) (fun a b c h1 h2 => by simp at h1 h2 ⊢; exact List.le_trans h1 h2) (fun a b => le_nat_total a b) xs
  exact h.imp fun h => by simpa using h
theorem sortedS_one {a b : List (List Nat)} (hp : a.Perm b) (ha : a.Pairwise (· ≤ ·)) (hb : b.Pairwise (· ≤ ·)) : a = b :=
  List.Perm.eq_of_pairwise (fun x y _ _ h1 h2 => List.le_antisymm h1 h2) ha hb hp
theorem sS_back (z : Str) : sS z.cps.toList = z := by
  show (⟨z.cps.toList.toArray⟩ : Str) = z
  rw [Array.toArray_toList]
theorem risingS_le : ∀ (r : List Str) (p : Str), PyProof.Rows.risingS p r = true → (p.cps.toList :: r.map fun z => z.cps.toList).Pairwise (· ≤ ·)
  | [], p, _ => by simp
  | x :: r, p, h => by
    unfold PyProof.Rows.risingS at h
    simp only [Bool.and_eq_true, Bool.not_eq_true', decide_eq_false_iff_not] at h
    have ih := risingS_le r x h.2
    rw [List.map_cons, List.pairwise_cons]
    have hx : p.cps.toList ≤ x.cps.toList := by
      have h1 := h.1
      rw [PyProof.Rows.ltCps_eq] at h1
      exact List.not_lt.mp (of_decide_eq_false h1)
    refine ⟨fun z hz => ?_, ih⟩
    rcases List.mem_cons.mp hz with rfl | hz
    · exact hx
    · exact List.le_trans hx ((List.pairwise_cons.mp ih).1 z hz)
theorem sortedS_le {r : List Str} (h : PyProof.Rows.sortedS r = true) : (r.map fun z => z.cps.toList).Pairwise (· ≤ ·) := by
  cases r with
  | nil => exact .nil
  | cons x r => exact risingS_le r x h
def sortSM (xs : List (List Nat)) : Option (List (List Nat)) := if decide (xs.length < 64) = true then some (sortS xs) else none
theorem sortS_same {xs : List (List Nat)} {ys : List Str} (h : ys.Perm (xs.map sS)) (h2 : PyProof.Rows.sortedS ys = true) : ys = (sortS xs).map sS := by
  have e : ys.map (fun z => z.cps.toList) = sortS xs := by
    refine sortedS_one ?_ (sortedS_le h2) (sortS_sorted xs)
    have h3 := h.map fun z : Str => z.cps.toList
    rw [List.map_map] at h3
    have e4 : xs.map ((fun z : Str => z.cps.toList) ∘ sS) = xs := by
      have : xs.map ((fun z : Str => z.cps.toList) ∘ sS) = xs.map id := List.map_congr_left fun x _ => sS_list x
      rw [this, List.map_id]
    rw [e4] at h3
    exact h3.trans (sortS_perm xs).symm
  rw [← e, List.map_map]
  have : ys.map (sS ∘ fun z : Str => z.cps.toList) = ys.map id := List.map_congr_left fun x _ => sS_back x
  rw [this, List.map_id]
section
variable {H G : Hp} {K : PySem.W.Frag} {v : V} {a : Addr} {α : Type} {R : Rep α}
theorem k_sortS {xs ys : List (List Nat)} (h : pL pS xs v H) (e : sortSM xs = some ys) : ∀ Q : VK, (∀ p, H p = none → Q (.ref p) (upd H p (.lst (ys.map vS)))) → rSortedS K [v] H Q := by
  obtain ⟨a, vs, rfl, h, ha, _⟩ := h
  obtain ⟨rfl, ok⟩ := ha.strs
  obtain ⟨c, rfl⟩ := guardS e
  refine fun Q q => ⟨a, xs.map sS, rfl, SqL.of (by rw [← vS_map]; exact h), by rw [List.length_map]; exact c, fun ys p h1 h2 h3 => ?_⟩
  rw [sortS_same h1 h2, ← vS_map]
  exact q p h3
theorem sortS_len {xs ys : List (List Nat)} (h : pL pS xs v H) (e : sortSM xs = some ys) : ys.length ≤ sizeLine := by
  obtain ⟨a, vs, rfl, h, ha, hl⟩ := h
  obtain ⟨c, rfl⟩ := guardS e
  rw [(sortS_perm xs).length_eq]; exact hl
theorem sortS_ok {xs ys : List (List Nat)} (h : pL pS xs v H) (e : sortSM xs = some ys) : All2 pS G ys (ys.map vS) := by
  obtain ⟨a, vs, rfl, h, ha, hl⟩ := h
  obtain ⟨rfl, ok⟩ := ha.strs
  obtain ⟨c, rfl⟩ := guardS e
  exact All2.ofStr _ _ fun x hx => ok x ((sortS_perm xs).mem_iff.mp hx)
/-- sorted over a dict -/
def rSortDS : List V → Hp → VK → Prop := fun xs H Q => ∃ (a : Addr) (kvs : List (Key × V)) (ks : List Str), xs = [.ref a] ∧ Rd H a (.dK kvs) ∧ kvs.map (·.1) = ks.map Sum.inr ∧ ks.length < 64 ∧
  ∀ ys p, ys.Perm ks → PyProof.Rows.sortedS ys = true → H p = none → Q (.ref p) (upd H p (.lst (ys.map V.str)))
def rSortDI : List V → Hp → VK → Prop := fun xs H Q => ∃ (a : Addr) (kvs : List (Key × V)) (ks : List Int), xs = [.ref a] ∧ Rd H a (.dK kvs) ∧ kvs.map (·.1) = ks.map Sum.inl ∧ ks.length < 64 ∧
  ∀ (ys : List Int) (p : Addr), ys.Perm ks → ys.Pairwise (· ≤ ·) → H p = none → Q (.ref p) (upd H p (.lst (ys.map V.int)))
theorem call_sortDS {X : Cx} (hc : X.calm = true) : CallR X (.builtin "sorted") rSortDS := call_sortedD hc
theorem call_sortDI {X : Cx} (hc : X.calm = true) : CallR X (.builtin "sorted") rSortDI := call_sortedDI hc
theorem k_sortDS {xs : List (List Nat × α)} {kvs : List (Key × V)} {ys : List (List Nat)} (h : Rd H a (.dK kvs)) (ha : AllD R G xs kvs) (hv : v = .ref a) (e : sortSM (xs.map (·.1)) = some ys) : ∀ Q : VK, (∀ p, H p = none → Q (.ref p) (upd H p (.lst (ys.map vS)))) → rSortDS [v] H Q := by
  obtain ⟨c, rfl⟩ := guardS e
  refine fun Q q => ⟨a, kvs, (xs.map (·.1)).map sS, by rw [hv], h, ?_, by rw [List.length_map]; exact c, fun ys p h1 h2 h3 => ?_⟩
  · rw [ha.keys, List.map_map, List.map_map]; rfl
  · rw [sortS_same h1 h2, ← vS_map]
    exact q p h3
theorem sortDS_ok {G : Hp} {xs : List (List Nat × α)} {kvs : List (Key × V)} {ys : List (List Nat)} (ha : AllD R G xs kvs) (e : sortSM (xs.map (·.1)) = some ys) : All2 pS G ys (ys.map vS) := by
  obtain ⟨c, rfl⟩ := guardS e
  exact All2.ofStr _ _ fun x hx => ha.good x ((sortS_perm _).mem_iff.mp hx)
theorem sortDS_len {xs ys : List (List Nat)} (e : sortSM xs = some ys) : ys.length ≤ sizeLine := by
  obtain ⟨c, rfl⟩ := guardS e
  rw [(sortS_perm xs).length_eq, sizeLine_16]; omega
def sortIDM (xs : List Int) : Option (List Int) := if decide (xs.length < 64) = true then some (sortI xs) else none
theorem k_sortDI {xs : List (Int × α)} {kvs : List (Key × V)} {ys : List Int} (h : Rd H a (.dK kvs)) (ha : AllD R G xs kvs) (hv : v = .ref a) (e : sortIDM (xs.map (·.1)) = some ys) : ∀ Q : VK, (∀ p, H p = none → Q (.ref p) (upd H p (.lst (ys.map V.int)))) → rSortDI [v] H Q := by
  obtain ⟨c, rfl⟩ := guardS e
  refine fun Q q => ⟨a, kvs, xs.map (·.1), by rw [hv], h, ?_, c, fun ys p h1 h2 h3 => ?_⟩
  · rw [ha.keys, List.map_map]; rfl
  · have e : ys = sortI (xs.map (·.1)) := sorted_one (h1.trans (sortI_perm _).symm) h2 (sortI_sorted _)
    subst e
    exact q p h3
theorem sortDI_len {xs ys : List Int} (e : sortIDM xs = some ys) : ys.length ≤ sizeLine := by
  obtain ⟨c, rfl⟩ := guardS e
  rw [(sortI_perm xs).length_eq, sizeLine_16]; omega
/-- dict(pairs) -/
def rDictP (K : PySem.W.Frag) : RC := fun xs H Q => ∃ (a : Addr) (ps : List Addr) (kvs : List (Key × V)), xs = [.ref a] ∧ SqL K H a (ps.map V.ref) ∧ Paired (fun p kv => SqT K H p [kV kv.1, kv.2]) ps kvs ∧
  ∀ p, H p = none → Q (.ref p) (upd H p (.dK (mergeK [] kvs)))
theorem call_dictPr {X : Cx} (hK : X.K = K) (hc : X.calm = true) : CallR X (.type "dict") (rDictP K) := by
  subst hK
  exact call_dictP hc
class KeyR {κ : Type} [KeyT κ] (S : Rep κ) : Prop where
  kr : ∀ {k v G}, S k v G → v = kV (KeyT.key k) ∧ KeyT.good k
instance : KeyR pI := ⟨fun h => ⟨h, trivial⟩⟩
instance : KeyR pS := ⟨fun h => h⟩
def dictL {κ : Type} [KeyT κ] (xs : List (κ × α)) : List (κ × α) := xs.foldl (fun acc p => putL acc p.1 p.2) []
def dictM {κ : Type} [KeyT κ] (xs : List (κ × α)) : Option (List (κ × α)) := some (dictL xs)
theorem putL_len {κ : Type} [KeyT κ] (xs : List (κ × α)) (k : κ) (x : α) : (putL xs k x).length ≤ xs.length + 1 := by
  unfold putL
  split <;> simp
theorem k_dictP {κ : Type} [KeyT κ] {S : Rep κ} [KeyR S] {R : Rep α} {xs : List (κ × α)} (h : ∃ vs, GotL (pT2 S R) G H xs v vs) (sm : L2.Same G H) : ∃ kvs, AllD R G (dictL xs) kvs ∧ (dictL xs).length ≤ sizeLine ∧
    ∀ Q : VK, (∀ p, H p = none → Q (.ref p) (upd H p (.dK kvs))) → rDictP K [v] H Q := by
  obtain ⟨vs, ⟨a, rfl, h⟩, ha, hl⟩ := h
  have key : ∃ (ps : List Addr) (kvs : List (Key × V)), vs = ps.map V.ref ∧ Paired (fun p kv => SqT K H p [kV kv.1, kv.2]) ps kvs ∧
      ∀ (acc : List (κ × α)) (kacc : List (Key × V)), AllD R G acc kacc → AllD R G (xs.foldl (fun acc p => putL acc p.1 p.2) acc) (mergeK kacc kvs) ∧ (xs.foldl (fun acc p => putL acc p.1 p.2) acc).length ≤ acc.length + xs.length := by
    clear h hl
    induction ha with
    | nil => exact ⟨[], [], rfl, .nil, fun acc kacc h => ⟨h, by simp⟩⟩
    | @cons x w xs vs hx _ ih =>
      obtain ⟨ps, kvs, e, hp, hf⟩ := ih
      obtain ⟨b, u, z, e1, e2, h1, h2⟩ := hx
      refine ⟨b :: ps, (KeyT.key x.1, z) :: kvs, by rw [List.map_cons, ← e, e1], .cons (SqT.of (by rw [sm _ _ e2, (KeyR.kr h1).1])) hp, fun acc kacc ha => ?_⟩
      have h3 : AllD R G (putL acc x.1 x.2) (putK kacc (KeyT.key x.1) z) := by
        unfold putL putK
        rw [ha.any]
        split
        · exact ha.upd h2
        · exact ha.snoc (KeyR.kr h1).2 h2
      obtain ⟨h4, h5⟩ := hf _ _ h3
      refine ⟨h4, ?_⟩
      rw [List.foldl_cons, List.length_cons]
      have := putL_len acc x.1 x.2
      omega
  obtain ⟨ps, kvs, e, hp, hf⟩ := key
  obtain ⟨h1, h2⟩ := hf [] [] .nil
  refine ⟨_, h1, Nat.le_trans h2 (by simpa using hl), fun Q q => ⟨a, ps, kvs, rfl, SqL.of (by rw [h, e]), hp, q⟩⟩
end
section
variable {H : Hp} {σ : St} {D : Ends} {d : Addr} {u : HO} {te : TE} {rest : TS} {Q : VK} {i : Nat}
theorem cps_lockE (h : H d = some u) (m : Mut (some u)) (k : ∀ od, te σ (upd H d (.frz od u)) fun v H' => H' d = some (.frz od u) ∧ Q v (upd H' d u)) : tLockE te σ H Q := ⟨d, u, h, m, k⟩
theorem cps_asgLock {τ : V → St} (e : ∀ x, σ.set i (some x) = τ x) (h : H d = some u) (m : Mut (some u)) (k : ∀ od, te σ (upd H d (.frz od u)) fun x H2 => H2 d = some (.frz od u) ∧ rest D (τ x) (upd H2 d u)) :
    tSeq (tLock (tAsg te (gName i))) rest D σ H := by
  refine ⟨d, u, h, m, fun od => ?_⟩
  show te σ (upd H d (.frz od u)) fun x H2 => H2 d = some (.frz od u) ∧ rest D (σ.set i (some x)) (upd H2 d u)
  have e2 : (fun x H2 => H2 d = some (.frz od u) ∧ rest D (σ.set i (some x)) (upd H2 d u)) = fun x H2 => H2 d = some (.frz od u) ∧ rest D (τ x) (upd H2 d u) := by
    funext x H2
    rw [e x]
  rw [e2]
  exact k od
theorem cps_keys {td : TE} {R : It → Hp → Prop} (h : td σ H fun x H1 => ∃ d o, x = .ref d ∧ ((∃ kvs, H1 d = some (.frz o (.dK kvs)) ∧ R (Itk d o kvs) H1) ∨ ∃ kvs, H1 d = some (.frz o (.dT kvs)) ∧ R (Itkt d o kvs) H1)) : iKeys td σ H R := h
end
end MK

namespace MK
open PySem PySem.Spec L2
def rLenDR : RC := fun xs H Q => ∃ a kvs, xs = [V.ref a] ∧ Rd H a (.dK kvs) ∧ Q (.int kvs.length) H
theorem call_lenDR {X : Cx} : CallR X (.builtin "len") rLenDR := by
  intro pins s σ H xs us Q I r h
  obtain ⟨a, kvs, rfl, ha, q⟩ := h
  obtain ⟨u, rfl, ru⟩ := vals1 r
  cases ru
  exact d_len I ha fun t s' I' => ⟨.int kvs.length, H, I', ⟨t, rfl⟩, q⟩
def rMinS (K : PySem.W.Frag) : RC := fun xs H Q => ∃ (a : Addr) (ys : List (List Nat)) (l : List Nat), xs = [.ref a] ∧ SqL K H a (ys.map vS) ∧ minL ys = some l ∧ Q (vS l) H
theorem cr_minS {X : Cx} {K : PySem.W.Frag} (hK : X.K = K) (hc : X.calm = true) (hu : X.A.units + 1 < cLine) : CallR X (.builtin "min") (rMinS K) := by
  subst hK
  intro pins s σ H xs us Q I r1 h
  obtain ⟨a, ys, l, rfl, hs, hl0, q⟩ := h
  cases ys with
  | nil => cases hl0
  | cons y0 r0 =>
    obtain ⟨its, rv, hl, _⟩ := I.list hs
    obtain ⟨as, hr⟩ := Dp.readsAll I _ _ its (dp_strs (y0 :: r0)) rv
    rw [Vals.ref1 r1]
    refine PySem.W.min_list_data (x := .str (sS y0)) (xs := r0.map fun l => PyData.str (sS l)) (I.ok.hd hc) hl.isList hr (alike_strs (y0 :: r0)) (by have e := depth_strs (y0 :: r0); rw [List.map_cons] at e; rw [e]; exact hu) (fun i v h' tk bs hv hrd k => ?_)
    rw [minD_strs] at hrd
    cases someI hl0
    cases hrd
    exact ⟨vS _, H, I.kept k, ⟨_, rfl⟩, q⟩
def minI : List Int → Option Int
  | [] => none
  | x :: xs => some (xs.foldl min x)
def maxI : List Int → Option Int
  | [] => none
  | x :: xs => some (xs.foldl max x)
theorem foldl_min_spec : ∀ (xs : List Int) (x : Int), xs.foldl min x ∈ x :: xs ∧ ∀ y ∈ x :: xs, xs.foldl min x ≤ y
  | [], x => by simp
  | y :: r, x => by
    obtain ⟨h1, h2⟩ := foldl_min_spec r (min x y)
    rw [List.foldl_cons]
    constructor
    · rcases List.mem_cons.mp h1 with h | h
      · rw [h]
        by_cases e : x ≤ y
        · rw [Int.min_eq_left e]; simp
        · rw [Int.min_eq_right (by omega)]; simp
      · exact List.mem_cons_of_mem _ (List.mem_cons_of_mem _ h)
    · intro z hz
      have h3 := h2 (min x y) (by simp)
      rcases List.mem_cons.mp hz with rfl | hz
      · omega
      · rcases List.mem_cons.mp hz with rfl | hz
        · omega
        · exact h2 z (List.mem_cons_of_mem _ hz)
theorem foldl_max_spec : ∀ (xs : List Int) (x : Int), xs.foldl max x ∈ x :: xs ∧ ∀ y ∈ x :: xs, y ≤ xs.foldl max x
  | [], x => by simp
  | y :: r, x => by
    obtain ⟨h1, h2⟩ := foldl_max_spec r (max x y)
    rw [List.foldl_cons]
    constructor
    · rcases List.mem_cons.mp h1 with h | h
      · rw [h]
        by_cases e : y ≤ x
        · rw [Int.max_eq_left e]; simp
        · rw [Int.max_eq_right (by omega)]; simp
      · exact List.mem_cons_of_mem _ (List.mem_cons_of_mem _ h)
    · intro z hz
      have h3 := h2 (max x y) (by simp)
      rcases List.mem_cons.mp hz with rfl | hz
      · omega
      · rcases List.mem_cons.mp hz with rfl | hz
        · omega
        · exact h2 z (List.mem_cons_of_mem _ hz)
theorem minI_spec {xs : List Int} {m : Int} (h : minI xs = some m) : m ∈ xs ∧ ∀ y ∈ xs, m ≤ y := by
  cases xs with
  | nil => cases h
  | cons x xs => cases someI h; exact foldl_min_spec xs x
theorem maxI_spec {xs : List Int} {m : Int} (h : maxI xs = some m) : m ∈ xs ∧ ∀ y ∈ xs, y ≤ m := by
  cases xs with
  | nil => cases h
  | cons x xs => cases someI h; exact foldl_max_spec xs x
theorem cr_minIK {X : Cx} {K : PySem.W.Frag} (hK : X.K = K) (hc : X.calm = true) : CallR X (.builtin "min") (rMin K) := by
  subst hK; exact cr_min hc
theorem cr_maxIK {X : Cx} {K : PySem.W.Frag} (hK : X.K = K) (hc : X.calm = true) : CallR X (.builtin "max") (rMax K) := by
  subst hK; exact cr_max hc
section
variable {H G : Hp} {K : PySem.W.Frag} {v : V} {κ α : Type} [KeyT κ] {R : Rep α}
theorem k_lenDR {a : Addr} {xs : List (κ × α)} {kvs : List (Key × V)} (hv : v = .ref a) (h : Rd H a (.dK kvs)) (ha : AllD R G xs kvs) : ∀ Q : VK, Q (.int (xs.length : Int)) H → rLenDR [v] H Q :=
  fun Q q => ⟨a, kvs, by rw [hv], h, by rw [← ha.len]; exact q⟩
theorem k_minI {ns : List Int} {m : Int} (h : pL pI ns v H) (e : minI ns = some m) : ∀ Q : VK, Q (.int m) H → rMin K [v] H Q := by
  obtain ⟨a, vs, rfl, h, ha, _⟩ := h
  cases ha.int
  refine fun Q q => ⟨a, ns, rfl, SqL.of h, ?_, fun n h1 h2 => ?_⟩
  · cases ns with
    | nil => cases e
    | cons x xs => simp
  · obtain ⟨h3, h4⟩ := minI_spec e
    have := h2 m h3
    have := h4 n h1
    rw [show n = m by omega]; exact q
theorem k_maxI {ns : List Int} {m : Int} (h : pL pI ns v H) (e : maxI ns = some m) : ∀ Q : VK, Q (.int m) H → rMax K [v] H Q := by
  obtain ⟨a, vs, rfl, h, ha, _⟩ := h
  cases ha.int
  refine fun Q q => ⟨a, ns, rfl, SqL.of h, ?_, fun n h1 h2 => ?_⟩
  · cases ns with
    | nil => cases e
    | cons x xs => simp
  · obtain ⟨h3, h4⟩ := maxI_spec e
    have := h2 m h3
    have := h4 n h1
    rw [show n = m by omega]; exact q
theorem k_minS {ys : List (List Nat)} {l : List Nat} (h : pL pS ys v H) (e : minL ys = some l) : ∀ Q : VK, Q (vS l) H → rMinS K [v] H Q := by
  obtain ⟨a, vs, rfl, h, ha, _⟩ := h
  obtain ⟨rfl, ok⟩ := ha.strs
  exact fun Q q => ⟨a, ys, l, rfl, SqL.of h, e, q⟩
theorem minS_ok {ys : List (List Nat)} {l : List Nat} (h : pL pS ys v H) (e : minL ys = some l) : OkS l := by
  obtain ⟨a, vs, rfl, h, ha, _⟩ := h
  obtain ⟨rfl, ok⟩ := ha.strs
  exact ok l (minL_mem e)
variable {te ta tb : TE} {σ : St} {Q : VK} {tt : TT}
theorem cut_ev2 {P : V → Hp → Prop} (h : ∀ Q' : VK, (∀ v H', P v H' → Q' v H') → te σ H Q') (k : ∀ v H', P v H' → Q v H') : te σ H Q := h Q k
theorem cps_andV (h : ta σ H fun x H1 => ∃ c, x = .bl c ∧ if c = true then tb σ H1 Q else Q (.bl false) H1) : tAndV ta tb σ H Q := h
theorem cps_orV (h : ta σ H fun x H1 => ∃ c, x = .bl c ∧ if c = true then Q (.bl true) H1 else tb σ H1 Q) : tOrV ta tb σ H Q := h
theorem cps_notV (h : ta σ H fun x H1 => ∃ c, x = .bl c ∧ Q (.bl (!c)) H1) : tNotV ta σ H Q := h
theorem cps_ifV (h : tt σ H fun c H1 => if c = true then ta σ H1 Q else tb σ H1 Q) : tIf tt ta tb σ H Q := h
theorem isiO {o : Option α} {t n : String} (h : pO R o v H) (hs : ∀ x, R x v H → TyX K H v (.type t)) (k1 : kitB t n = some true) (k2 : kitB "NoneType" n = some false) : ∀ Q : VK, Q (.bl o.isSome) H → rIsi K [v, .ty n] H Q := by
  cases o with
  | none =>
    rw [show v = .non from h]
    exact isiT tyN k2
  | some x => exact isiT (hs x h) k1
end
end MK

namespace MN
open PySem L2 MK
/-- it ends, and what it gives has the property -/
def Hd {α : Type} (o : Option α) (P : α → Prop) : Prop := ∃ x, o = some x ∧ P x
section
variable {α β σ ρ : Type}
theorem Hd.bind {o : Option α} {f : α → Option β} {P : α → Prop} {Q : β → Prop} (h : Hd o P) (k : ∀ x, P x → Hd (f x) Q) : Hd (o.bind f) Q := by
  obtain ⟨x, rfl, hx⟩ := h
  exact k x hx
theorem Hd.step {o : Option α} {x : α} {f : α → Option β} {Q : β → Prop} (e : o = Option.some x) (h : Hd (f x) Q) : Hd (o.bind f) Q := by rw [e]; exact h
theorem Hd.ret {x : α} {P : α → Prop} (h : P x) : Hd (some x) P := ⟨x, rfl, h⟩
theorem Hd.sb {x : α} {f : α → Option β} {Q : β → Prop} (h : Hd (f x) Q) : Hd ((some x).bind f) Q := h
theorem Hd.mono {o : Option α} {P Q : α → Prop} (h : Hd o P) (k : ∀ x, P x → Q x) : Hd o Q := by
  obtain ⟨x, e, hx⟩ := h
  exact ⟨x, e, k x hx⟩
theorem Hd.eq {o : Option α} {x : α} (h : o = some x) : Hd o (· = x) := ⟨x, h, rfl⟩
theorem Hd.to {o : Option α} {x : α} (h : Hd o (· = x)) : o = some x := by
  obtain ⟨y, e, rfl⟩ := h
  exact e
theorem Hd.ite {b : Bool} {A B : Option α} {P : α → Prop} (h1 : b = true → Hd A P) (h2 : b = false → Hd B P) : Hd (if b = true then A else B) P := by
  cases b with
  | true => exact h1 rfl
  | false => exact h2 rfl
theorem Hd.ited {c : Prop} [Decidable c] {A B : Option α} {P : α → Prop} (h1 : c → Hd A P) (h2 : ¬c → Hd B P) : Hd (if decide c = true then A else B) P := by
  by_cases h : c
  · rw [if_pos (decide_eq_true h)]; exact h1 h
  · rw [if_neg (by simpa using h)]; exact h2 h
theorem Hd.nd {c : Prop} [Decidable c] {x : α} {P : α → Prop} (h : c) (hp : P x) : Hd (if decide c = true then Option.some x else none) P := by
  rw [if_pos (decide_eq_true h)]; exact ⟨x, rfl, hp⟩
theorem hd_mod {i j : Int} (h : 0 < j) : Hd (modM i j) (fun r => r = i % j ∧ 0 ≤ r ∧ r < j) := Hd.nd h ⟨rfl, Int.emod_nonneg _ (by omega), Int.emod_lt_of_pos _ h⟩
theorem hd_fdiv {i j : Int} (h : 0 < j) (h2 : j < 1073741824) : Hd (fdivM i j) (fun r => r = i / j) := Hd.nd ⟨h, h2⟩ rfl
theorem log_lt {i : Int} {n : Nat} (h : i.natAbs < 2 ^ n) : i.natAbs.log2 ≤ n := by
  by_cases z : i.natAbs = 0
  · rw [z]; simp
  · exact Nat.le_of_lt ((Nat.log2_lt z).mpr h)
theorem hd_mul {i j : Int} {n m : Nat} (h : i.natAbs < 2 ^ n) (h2 : j.natAbs < 2 ^ m) (k : n + m < 1000000) : Hd (mulM i j) (fun r => r = i * j) := by
  have a := log_lt h
  have b := log_lt h2
  exact Hd.nd (by omega) rfl
theorem hd_mul_s {i j : Int} (h : -(2 ^ 64) < i ∧ i < 2 ^ 64) (h2 : -(2 ^ 64) < j ∧ j < 2 ^ 64) : Hd (mulM i j) (fun r => r = i * j) :=
  hd_mul (n := 64) (m := 64) (by omega) (by omega) (by omega)
theorem bits_le {i : Int} {n : Nat} (h : i.natAbs < 2 ^ n) : Builtin.Int.intBits i ≤ n := by
  unfold Builtin.Int.intBits
  split
  · omega
  · rename_i hz
    have := (Nat.log2_lt (n := i.natAbs) (k := n) (by simpa using hz)).mpr h
    omega
theorem hd_pow {i j : Int} (h : i.natAbs < 2 ^ 64) (h0 : 0 ≤ j) (h1 : j ≤ 64) : Hd (powM i j) (fun r => r = i ^ j.toNat) := by
  have a := bits_le h
  refine Hd.nd ⟨h0, ?_⟩ rfl
  have e : (Builtin.Int.intBits i : Int) * j ≤ 64 * 64 := Int.mul_le_mul (by omega) h1 h0 (by omega)
  omega
theorem hd_cat {a b : List Nat} (h : a.length + b.length ≤ 16777216) : Hd (catM a b) (fun r => r = a ++ b) := Hd.nd (by rw [sizeLine_16]; exact h) rfl
theorem hd_rep {l : List Nat} {n : Int} {m k : Nat} (h1 : l.length ≤ m) (h2 : n ≤ k) (h3 : -(2 ^ 63) ≤ n) (h4 : k < 2 ^ 62) (h5 : m * k ≤ 16777216) : Hd (repM l n) (fun r => r = (List.replicate n.toNat l).flatten ∧ r.length = n.toNat * l.length) := by
  refine Hd.nd ⟨h3, by omega, ?_⟩ ⟨rfl, ?_⟩
  · rw [sizeLine_16]
    exact Nat.le_trans (Nat.mul_le_mul h1 (by omega)) h5
  · rw [List.length_flatten, List.map_replicate, List.sum_replicate_nat]
theorem hd_rng1 {n : Int} (h1 : -(2 ^ 60) ≤ n) (h : n ≤ 16777216) : Hd (rng1M n) (fun r => r = rangeL 0 n.toNat) := Hd.nd (by rw [sizeLine_16]; omega) rfl
theorem hd_rng {lo hi : Int} (h1 : -(2 ^ 60) ≤ lo) (h2 : -(2 ^ 60) ≤ hi) (h3 : lo < 2 ^ 60) (h4 : hi < 2 ^ 60) (h : hi - lo ≤ 16777216) : Hd (rngM lo hi) (fun r => r = rangeL lo (hi - lo).toNat) := Hd.nd (by rw [sizeLine_16]; omega) rfl
theorem mem_rangeL {x lo : Int} {n : Nat} : x ∈ rangeL lo n ↔ lo ≤ x ∧ x < lo + n := by
  unfold rangeL
  rw [List.mem_map]
  constructor
  · rintro ⟨i, hi, rfl⟩
    have := List.mem_range.mp hi
    omega
  · rintro ⟨h1, h2⟩
    exact ⟨(x - lo).toNat, List.mem_range.mpr (by omega), by omega⟩
theorem ix_at {xs : List α} {i : Int} (h0 : 0 ≤ i) (h1 : i < xs.length) : ∃ x, idxM xs i = some x ∧ xs[i.toNat]? = some x := by
  have hl : i.toNat < xs.length := by omega
  refine ⟨xs[i.toNat], ?_, by simp [hl]⟩
  unfold idxM L2.atI
  have e : L2.ixN xs.length i = some i.toNat := by
    unfold L2.ixN
    rw [if_pos h0, if_pos h1]
  rw [e]
  show xs[i.toNat]? = _
  simp [hl]
theorem hd_idx {xs : List α} {i : Int} (h0 : 0 ≤ i) (h1 : i < xs.length) : Hd (idxM xs i) (fun x => x ∈ xs ∧ xs[i.toNat]? = some x) := by
  obtain ⟨x, e, e2⟩ := ix_at h0 h1
  exact ⟨x, e, List.mem_of_getElem? e2, e2⟩
theorem hd_sidx {l : List Nat} {i : Int} (h0 : 0 ≤ i) (h1 : i < l.length) : Hd (sidxM l i) (fun t => t.length = 1 ∧ ∃ c, c ∈ l ∧ t = [c] ∧ l[i.toNat]? = some c) := by
  obtain ⟨c, e, e2⟩ := ix_at h0 h1
  unfold sidxM
  have e' : L2.atI l i = some c := e
  rw [e']
  exact ⟨[c], rfl, rfl, c, List.mem_of_getElem? e2, rfl, e2⟩
theorem hd_join {s : List Nat} {ys : List (List Nat)} (h : (ys.map List.length).sum + ys.length * s.length ≤ 16777216) : Hd (joinM s ys) (fun r => r = TL.joinL s ys) := Hd.nd h rfl
theorem joinL_nil : ∀ ys : List (List Nat), TL.joinL [] ys = ys.flatten
  | [] => rfl
  | [p] => by simp [TL.joinL]
  | p :: q :: r => by
    rw [TL.joinL, joinL_nil (q :: r)]
    simp
theorem hd_app {xs : List α} {y : α} (h : xs.length < 16777216) : Hd (appM xs y) (fun r => r = xs ++ [y]) := Hd.nd (by rw [sizeLine_16]; exact h) rfl
theorem hd_catL {a b : List α} (h : a.length + b.length ≤ 16777216) : Hd (catLM a b) (fun r => r = a ++ b) := Hd.nd (by rw [sizeLine_16]; exact h) rfl
/-! loops -/
theorem Hd.foldO {f : α → σ → Option σ} {I : σ → Prop} : ∀ {xs : List α} {s : σ}, I s → (∀ x ∈ xs, ∀ s, I s → Hd (f x s) I) → Hd (MK.foldO f xs s) I
  | [], s, h, _ => ⟨s, rfl, h⟩
  | x :: xs, s, h, k => Hd.bind (k x (by simp) s h) fun s' h' => Hd.foldO h' fun y hy => k y (List.mem_cons_of_mem _ hy)
/-- a loop that neither breaks nor leaves -/
theorem Hd.loopN {f : α → σ → Option (Ctl ρ σ)} {I : σ → Prop} : ∀ {xs : List α} {s : σ}, I s → (∀ x ∈ xs, ∀ s, I s → Hd (f x s) (fun c => ∃ s', c = .nx s' ∧ I s')) → Hd (MK.loopM f xs s) (fun c => ∃ s', c = .nx s' ∧ I s')
  | [], s, h, _ => ⟨.nx s, rfl, s, rfl, h⟩
  | x :: xs, s, h, k => by
    refine Hd.bind (k x (by simp) s h) ?_
    rintro _ ⟨s', rfl, h'⟩
    exact Hd.loopN h' fun y hy => k y (List.mem_cons_of_mem _ hy)
/-- a loop with every way out -/
theorem Hd.loopM {f : α → σ → Option (Ctl ρ σ)} {I B : σ → Prop} {R : ρ → Prop} : ∀ {xs : List α} {s : σ}, I s → (∀ x ∈ xs, ∀ s, I s → Hd (f x s) (fun c => match c with | .nx s' => I s' | .bk s' => B s' | .rt r => R r)) → Hd (MK.loopM f xs s) (fun c => match c with | .nx s' => I s' ∨ B s' | .bk _ => False | .rt r => R r)
  | [], s, h, _ => ⟨.nx s, rfl, .inl h⟩
  | x :: xs, s, h, k => by
    refine Hd.bind (k x (by simp) s h) ?_
    intro c hc
    match c, hc with
    | .nx s', h' => exact Hd.loopM h' fun y hy => k y (List.mem_cons_of_mem _ hy)
    | .bk s', h' => exact ⟨.nx s', rfl, .inr h'⟩
    | .rt r, h' => exact ⟨.rt r, rfl, h'⟩
theorem Hd.ctl {X : Type} {c : Ctl X σ} {k : σ → Option X} {I : σ → Prop} {P : X → Prop} (h : ∃ s', c = .nx s' ∧ I s') (hk : ∀ s, I s → Hd (k s) P) : Hd (ctlK c k) P := by
  obtain ⟨s', rfl, h'⟩ := h
  exact hk s' h'
/-- comprehensions -/
theorem Hd.mapP {f : α → Option β} {P : β → Prop} : ∀ {xs : List α}, (∀ x ∈ xs, Hd (f x) P) → Hd (MK.mapP f xs) (fun ys => ys.length = xs.length ∧ ∀ y ∈ ys, P y)
  | [], _ => ⟨[], rfl, rfl, by simp⟩
  | x :: xs, k => by
    refine Hd.bind (k x (by simp)) fun y hy => Hd.bind (Hd.mapP fun z hz => k z (List.mem_cons_of_mem _ hz)) fun ys h => ⟨_, rfl, by simp [h.1], ?_⟩
    intro z hz
    rcases List.mem_cons.mp hz with rfl | hz
    · exact hy
    · exact h.2 z hz
theorem mapP_fn {f : α → Option β} {g : α → β} : ∀ {xs : List α}, (∀ x ∈ xs, f x = some (g x)) → MK.mapP f xs = some (xs.map g)
  | [], _ => rfl
  | x :: xs, k => by
    unfold MK.mapP
    rw [k x (by simp), Option.bind_some, mapP_fn fun z hz => k z (List.mem_cons_of_mem _ hz)]
    rfl
theorem lcP_fn {f : α → Option (Option β)} {g : α → Option β} : ∀ {xs : List α}, (∀ x ∈ xs, f x = some (g x)) → MK.lcP f xs = some (xs.filterMap g)
  | [], _ => rfl
  | x :: xs, k => by
    unfold MK.lcP
    rw [k x (by simp), Option.bind_some, lcP_fn fun z hz => k z (List.mem_cons_of_mem _ hz), Option.bind_some, List.filterMap_cons]
    cases g x <;> rfl
theorem Hd.lcP {f : α → Option (Option β)} {P : β → Prop} : ∀ {xs : List α}, (∀ x ∈ xs, Hd (f x) (fun r => ∀ y, r = Option.some y → P y)) → Hd (MK.lcP f xs) (fun ys => ys.length ≤ xs.length ∧ ∀ y ∈ ys, P y)
  | [], _ => ⟨[], rfl, Nat.le_refl _, by simp⟩
  | x :: xs, k => by
    refine Hd.bind (k x (by simp)) fun y hy => Hd.bind (Hd.lcP fun z hz => k z (List.mem_cons_of_mem _ hz)) fun ys h => ⟨_, rfl, ?_⟩
    cases y with
    | none => exact ⟨by have := h.1; simp; omega, h.2⟩
    | some y =>
      refine ⟨by have := h.1; simp; omega, ?_⟩
      intro z hz
      rcases List.mem_cons.mp hz with rfl | hz
      · exact hy _ rfl
      · exact h.2 z hz
theorem Hd.lcS {f : α → σ → Option (Option β × σ)} {I : σ → Prop} {P : β → Prop} : ∀ {xs : List α} {s : σ}, I s → (∀ x ∈ xs, ∀ s, I s → Hd (f x s) (fun r => I r.2 ∧ ∀ y, r.1 = Option.some y → P y)) → Hd (MK.lcS f xs s) (fun r => I r.2 ∧ r.1.length ≤ xs.length ∧ ∀ y ∈ r.1, P y)
  | [], s, h, _ => ⟨([], s), rfl, h, Nat.le_refl _, by simp⟩
  | x :: xs, s, h, k => by
    refine Hd.bind (k x (by simp) s h) fun y hy => Hd.bind (Hd.lcS hy.1 fun z hz => k z (List.mem_cons_of_mem _ hz)) fun ys h => ⟨_, rfl, ?_⟩
    obtain ⟨o, s'⟩ := y
    cases o with
    | none => exact ⟨h.1, by have := h.2.1; simp; omega, h.2.2⟩
    | some y =>
      refine ⟨h.1, by have := h.2.1; simp; omega, ?_⟩
      intro z hz
      rcases List.mem_cons.mp hz with rfl | hz
      · exact hy.2 _ rfl
      · exact h.2.2 z hz
/-- with each item kept -/
theorem Hd.lcSA {f : α → σ → Option (Option β × σ)} {I : σ → Prop} {P : β → Prop} : ∀ {xs : List α} {s : σ}, I s → (∀ x ∈ xs, ∀ s, I s → Hd (f x s) (fun r => I r.2 ∧ ∃ y, r.1 = Option.some y ∧ P y)) → Hd (MK.lcS f xs s) (fun r => I r.2 ∧ r.1.length = xs.length ∧ ∀ y ∈ r.1, P y)
  | [], s, h, _ => ⟨([], s), rfl, h, rfl, by simp⟩
  | x :: xs, s, h, k => by
    refine Hd.bind (k x (by simp) s h) fun y hy => Hd.bind (Hd.lcSA hy.1 fun z hz => k z (List.mem_cons_of_mem _ hz)) fun ys h => ⟨_, rfl, ?_⟩
    obtain ⟨o, s'⟩ := y
    obtain ⟨h1, y, h2, h3⟩ := hy
    cases h2
    refine ⟨h.1, by have := h.2.1; simp; omega, ?_⟩
    intro z hz
    rcases List.mem_cons.mp hz with rfl | hz
    · exact h3
    · exact h.2.2 z hz
/-! cuts -/
theorem cutL_len_le {xs : List α} {lo hi : Option Int} : (cutL xs lo hi).length ≤ xs.length := by
  unfold cutL
  rw [List.length_take, List.length_drop]
  omega
theorem sIx_in {n : Nat} {d : Nat} {i : Int} (h0 : 0 ≤ i) : HT.sIx n d (some i) = min i.toNat n := by
  unfold HT.sIx
  simp only [if_neg (show ¬ i < 0 by omega)]
  try omega
theorem cutL_hi {xs : List α} {i : Int} (h : 0 ≤ i) : cutL xs none (some i) = xs.take i.toNat := by
  unfold cutL
  rw [sIx_in h]
  have e : HT.sIx xs.length 0 none = 0 := rfl
  rw [e, List.drop_zero, Nat.sub_zero]
  by_cases g : i.toNat ≤ xs.length
  · rw [Nat.min_eq_left g]
  · rw [Nat.min_eq_right (by omega), List.take_of_length_le (by omega), List.take_of_length_le (by omega)]
theorem cutL_lo {xs : List α} {i : Int} (h : 0 ≤ i) : cutL xs (some i) none = xs.drop i.toNat := by
  unfold cutL
  rw [sIx_in h]
  have e : HT.sIx xs.length xs.length none = xs.length := rfl
  rw [e]
  by_cases g : i.toNat ≤ xs.length
  · rw [Nat.min_eq_left g, List.take_of_length_le (by rw [List.length_drop]; omega)]
  · rw [Nat.min_eq_right (by omega), Nat.sub_self, List.take_zero, List.drop_of_length_le (by omega)]
theorem cutL_mid {xs : List α} {i j : Int} (h : 0 ≤ i) (h2 : 0 ≤ j) : cutL xs (some i) (some j) = (xs.drop i.toNat).take (j.toNat - i.toNat) := by
  unfold cutL
  rw [sIx_in h, sIx_in h2]
  by_cases g : i.toNat ≤ xs.length
  · rw [Nat.min_eq_left g]
    by_cases g2 : j.toNat ≤ xs.length
    · rw [Nat.min_eq_left g2]
    · rw [Nat.min_eq_right (show xs.length ≤ j.toNat by omega), List.take_of_length_le (by rw [List.length_drop]; omega), List.take_of_length_le (by rw [List.length_drop]; omega)]
  · rw [Nat.min_eq_right (show xs.length ≤ i.toNat by omega), List.drop_of_length_le (Nat.le_refl _), List.drop_of_length_le (show xs.length ≤ i.toNat by omega), List.take_nil, List.take_nil]
end
end MN

namespace MN
open PySem L2 MK
/-- y stands in x at place i -/
def At (x y : List Nat) (i : Nat) : Prop := (x.drop i).take y.length = y
theorem At.le {x y : List Nat} {i : Nat} (h : At x y i) (hy : 1 ≤ y.length) : i + y.length ≤ x.length := by
  have h := congrArg List.length h
  rw [List.length_take, List.length_drop] at h
  omega
theorem inS_iff (y x : List Nat) : inS y x = true ↔ ∃ i, i + y.length ≤ x.length ∧ At x y i := by
  unfold inS
  rw [PySem.StrLaws.found_iff]
  constructor
  · rintro ⟨i, h1, h2⟩
    rw [PySem.StrLaws.subAt_eq] at h2
    rw [sS_list, sS_list] at h2
    rw [sS_len, sS_len] at h1
    refine ⟨i, h1, ?_⟩
    rw [sS_len] at h2
    exact eq_of_beq h2
  · rintro ⟨i, h1, h2⟩
    refine ⟨i, by rw [sS_len, sS_len]; exact h1, ?_⟩
    rw [PySem.StrLaws.subAt_eq, sS_list, sS_list, sS_len]
    exact beq_iff_eq.mpr h2
theorem whileF_ok {σ : Type} {c : σ → Option Bool} {f : σ → Option σ} {I : σ → Prop} (m : σ → Nat) (hc : ∀ s, I s → Hd (c s) (fun b => b = true → Hd (f s) (fun s' => I s' ∧ m s' < m s))) :
    ∀ (n : Nat) (s : σ), I s → m s < n → Hd (whileF c f n s) (fun s' => I s' ∧ c s' = some false)
  | 0, s, _, h => absurd h (Nat.not_lt_zero _)
  | n + 1, s, h, hm => by
    unfold whileF
    obtain ⟨b, e, hb⟩ := hc s h
    rw [e]
    show Hd (if b = true then (f s).bind (whileF c f n) else some s) _
    cases b with
    | false => exact ⟨s, rfl, h, e⟩
    | true =>
      show Hd ((f s).bind (whileF c f n)) _
      exact Hd.bind (hb rfl) fun s' hs' => whileF_ok m hc n s' hs'.1 (by omega)
/-- two folds step by step -/
theorem foldO_two {α σ τ : Type} {f : α → σ → Option σ} {g : α → τ → Option τ} {R : σ → τ → Prop} : ∀ {xs : List α} {s : σ} {t : τ}, R s t → (∀ x ∈ xs, ∀ s t, R s t → Hd (f x s) (fun s' => Hd (g x t) (fun t' => R s' t'))) →
    Hd (MK.foldO f xs s) (fun s' => Hd (MK.foldO g xs t) (fun t' => R s' t'))
  | [], s, t, h, _ => ⟨s, rfl, t, rfl, h⟩
  | x :: xs, s, t, h, k => by
    obtain ⟨s', e, t', e2, h'⟩ := k x (by simp) s t h
    obtain ⟨s2, e3, t2, e4, h2⟩ := foldO_two (xs := xs) h' fun y hy => k y (List.mem_cons_of_mem _ hy)
    exact ⟨s2, by unfold MK.foldO; rw [e]; exact e3, t2, by unfold MK.foldO; rw [e2]; exact e4, h2⟩
/-- an indexed fold: the state behind i turns -/
theorem foldO_ix {σ : Type} {f : Int → σ → Option σ} {I : Nat → σ → Prop} (n : Nat) {s : σ} (h : I 0 s) (k : ∀ i < n, ∀ s, I i s → Hd (f (i : Int) s) (I (i + 1))) : Hd (foldO f (rangeL 0 n) s) (I n) := by
  have key : ∀ (m j : Nat) (s : σ), j + m = n → I j s → Hd (foldO f (rangeL (j : Int) m) s) (I n) := by
    intro m
    induction m with
    | zero => intro j s e h; have : j = n := by omega
              subst this; exact ⟨s, rfl, h⟩
    | succ m ih =>
      intro j s e h
      have e1 : rangeL (j : Int) (m + 1) = (j : Int) :: rangeL ((j + 1 : Nat) : Int) m := by
        unfold rangeL
        rw [List.range_succ_eq_map, List.map_cons, List.map_map]
        congr 1
        apply List.map_congr_left
        intro x _
        show (j : Int) + ((x + 1 : Nat) : Int) = ((j + 1 : Nat) : Int) + (x : Int)
        omega
      rw [e1]
      unfold foldO
      refine Hd.bind (k j (by omega) s h) fun s' h' => ih (j + 1) s' (by omega) h'
  exact key n 0 s (by omega) h
theorem sum_le_len {ys : List (List Nat)} {n : Nat} (h : ∀ y ∈ ys, y.length ≤ n) : (ys.map List.length).sum ≤ n * ys.length := by
  induction ys with
  | nil => simp
  | cons y r ih =>
    rw [List.map_cons, List.sum_cons, List.length_cons, Nat.mul_succ]
    have := h y (by simp)
    have := ih fun z hz => h z (List.mem_cons_of_mem _ hz)
    omega
theorem sum_ones' {ys : List (List Nat)} (h : ∀ y ∈ ys, y.length = 1) : (ys.map List.length).sum = ys.length := by
  induction ys with
  | nil => rfl
  | cons y r ih =>
    rw [List.map_cons, List.sum_cons, List.length_cons, h y (by simp), ih fun z hz => h z (List.mem_cons_of_mem _ hz)]
    omega
theorem ix_neg1 {α : Type} {xs : List α} (h : 1 ≤ xs.length) : Hd (idxM xs (-1)) (fun x => x ∈ xs) := by
  have hl : xs.length - 1 < xs.length := by omega
  refine ⟨xs[xs.length - 1], ?_, List.getElem_mem hl⟩
  unfold idxM L2.atI
  have e : L2.ixN xs.length (-1) = some (xs.length - 1) := by
    unfold L2.ixN
    rw [if_neg (by omega), if_pos (by omega)]
    congr 1
    omega
  rw [e]
  show xs[xs.length - 1]? = _
  simp [hl]
end MN

namespace Lk27
open PySem L2 MK
def Lit0 : List Nat := []
def Lit1 : List Nat := [97, 98, 99, 100, 101, 102, 103, 104, 105, 106, 107, 108, 109, 110, 111, 112, 113, 114, 115, 116, 117, 118, 119, 120, 121, 122]
def Lit2 : List Nat := [97]
def Lit3 : List Nat := [122, 122]
def m_law_pot (script_1 : (List Int)) (k_4 : Int) : Option (List Int) :=
  (if (decide (k_4 < ((script_1).length : Int))) = true then ((idxM script_1 k_4).bind fun t_11 =>
  (some ((if t_11 < 0 then -t_11 else t_11) % (((10) ^ (Int.toNat (60))) ^ (Int.toNat (4))))).bind fun cell_12 =>
  some cell_12) else (some (0))).bind fun j_7 =>
  (mulM j_7 (if (decide (((10) ^ (Int.toNat (18))) ≤ j_7)) = true then 1 else 0)).bind fun t_17 =>
  (powM (((j_7 % (2147483629)) + ((7919) * k_4)) + (1)) (5)).bind fun t_18 =>
  some ([t_17, (t_18 % (2147483647))])
def m_law_take (pot_1 : (List Int)) (many_7 : Int) : Option (Int × (List Int)) :=
  (idxM pot_1 (0)).bind fun t_10 =>
  if (decide ((0) < t_10)) = true then ((idxM pot_1 (0)).bind fun t_15 =>
  (modM t_15 many_7).bind fun t_19 =>
  (idxM pot_1 (0)).bind fun t_20 =>
  (fdivM t_20 many_7).bind fun t_24 =>
  (setM pot_1 (0) t_24).bind fun xs_25 =>
  some (t_19, xs_25)) else
  (idxM pot_1 (1)).bind fun t_34 =>
  (setM pot_1 (1) (((t_34 * (69621)) + (12345)) % (2147483647))).bind fun xs_38 =>
  (idxM xs_38 (1)).bind fun t_47 =>
  (idxM xs_38 (1)).bind fun t_51 =>
  (mulM t_47 t_51).bind fun t_55 =>
  (modM ((t_55 % (2147483629)) / (64)) many_7).bind fun t_56 =>
  some (t_56, xs_38)
def m_law_grown_t1 (size_10 : Int) (s_24 : ((List Nat) × (List Nat) × (List Int))) : Option Bool :=
  some (decide (((s_24.2.1).length : Int) < size_10))
def m_law_grown_w1 (s_36 : ((List Nat) × (List Nat) × (List Int))) : Option ((List Nat) × (List Nat) × (List Int)) :=
  (m_law_take s_36.2.2 (3)).bind fun r_52 =>
    (repM s_36.2.1 ((1) + r_52.1)).bind fun t_62 =>
    (catM t_62 s_36.1).bind fun t_63 =>
    some (s_36.2.1, t_63, r_52.2)
def m_law_grown (pot_1 : (List Int)) (some_7 : (List (List Nat))) (size_10 : Int) : Option ((List Nat) × (List Int)) :=
  (idxM some_7 (-(1))).bind fun t_13 =>
  (idxM some_7 (0)).bind fun t_18 =>
  (whileF (m_law_grown_t1 size_10) (m_law_grown_w1) fuel (t_13, t_18, pot_1)).bind fun res_23 =>
  some ((cutL res_23.2.1 none (some size_10)), res_23.2.2)
def m_law_copies_t1 (size_10 : Int) (s_14 : ((List Nat) × (List Int))) : Option Bool :=
  some (decide (((s_14.1).length : Int) < size_10))
def m_law_copies_w1 (some_7 : (List (List Nat))) (s_26 : ((List Nat) × (List Int))) : Option ((List Nat) × (List Int)) :=
  (m_law_take s_26.2 (((s_26.1).length : Int) + (1))).bind fun r_42 =>
    (m_law_take r_42.2 (8)).bind fun r_52 =>
    (catM s_26.1 (cutL s_26.1 (some r_42.1) (some (r_42.1 + r_52.1)))).bind fun t_62 =>
    (m_law_take r_52.2 ((some_7).length : Int)).bind fun r_63 =>
    (idxM some_7 r_63.1).bind fun t_73 =>
    (catM t_62 t_73).bind fun t_78 =>
    some (t_78, r_63.2)
def m_law_copies (pot_1 : (List Int)) (some_7 : (List (List Nat))) (size_10 : Int) : Option ((List Nat) × (List Int)) :=
  (whileF (m_law_copies_t1 size_10) (m_law_copies_w1 some_7) fuel (Lit0, pot_1)).bind fun res_13 =>
  some ((cutL res_13.1 none (some size_10)), res_13.2)
def m_law_row_c1 (r_30 : (Int × (List Int))) (t_55 : Int) (x_95 : Int) : Option (List Nat) :=
  (mulM t_55 x_95).bind fun t_116 =>
    (sidxM Lit1 ((r_30.1 + t_116) % (26))).bind fun t_117 =>
    some t_117
def m_law_row_c2 (ys_119 : (List (List Nat))) (x_146 : Int) (s_160 : ((List Int))) : Option (Option (List Nat) × ((List Int))) :=
  (m_law_take s_160 ((ys_119).length : Int)).bind fun r_168 =>
    (idxM ys_119 r_168.1).bind fun t_178 =>
    some (some t_178, r_168.2)
def m_law_row_c3 (ys_119 : (List (List Nat))) (x_207 : Int) (s_221 : ((List Int))) : Option (Option (List Nat) × ((List Int))) :=
  (m_law_take s_221 (7)).bind fun r_229 =>
    (mulM (((ys_119).length : Int) - (1)) (if (decide (r_229.1 = (0))) = true then 1 else 0)).bind fun t_239 =>
    (idxM ys_119 t_239).bind fun t_240 =>
    some (some t_240, r_229.2)
def m_law_row_c4 (ys_119 : (List (List Nat))) (x_302 : Int) (s_316 : ((List Int))) : Option (Option (List Nat) × ((List Int))) :=
  (m_law_take s_316 ((ys_119).length : Int)).bind fun r_324 =>
    (idxM ys_119 r_324.1).bind fun t_334 =>
    some (some t_334, r_324.2)
def m_law_row (pot_1 : (List Int)) (most_7 : Int) : Option ((List Nat) × (List Int)) :=
  (m_law_take pot_1 (8)).bind fun r_10 =>
  (m_law_take r_10.2 (most_7 + (1))).bind fun r_20 =>
  (m_law_take r_20.2 (26)).bind fun r_30 =>
  (m_law_take r_30.2 (5)).bind fun r_45 =>
  (idxM [(1), (3), (7), (11), (25)] r_45.1).bind fun t_55 =>
  (m_law_take r_45.2 (5)).bind fun r_59 =>
  (m_law_take r_59.2 (8)).bind fun r_74 =>
  (idxM [((1) + r_59.1), (26)] (if (decide (r_74.1 = (7))) = true then 1 else 0)).bind fun t_84 =>
  (rng1M t_84).bind fun xs_88 =>
  (mapP (m_law_row_c1 r_30 t_55) xs_88).bind fun ys_119 =>
  if (decide (r_10.1 = (0))) = true then ((idxM ys_119 (0)).bind fun t_132 =>
  (repM t_132 r_20.1).bind fun t_137 =>
  some (t_137, r_74.2)) else
  if (decide (r_10.1 = (1))) = true then ((rng1M r_20.1).bind fun xs_139 =>
  (lcS (m_law_row_c2 ys_119) xs_139 r_74.2).bind fun ys_184 =>
  (joinM Lit0 ys_184.1).bind fun t_197 =>
  some (t_197, ys_184.2)) else
  if (decide (r_10.1 = (2))) = true then ((rng1M r_20.1).bind fun xs_200 =>
  (lcS (m_law_row_c3 ys_119) xs_200 r_74.2).bind fun ys_246 =>
  (joinM Lit0 ys_246.1).bind fun t_259 =>
  some (t_259, ys_246.2)) else
  if (decide (r_10.1 = (3))) = true then ((m_law_grown r_74.2 ys_119 r_20.1).bind fun r_262 =>
  some (r_262.1, r_262.2)) else
  if (decide ((5) < r_10.1)) = true then ((m_law_copies r_74.2 ys_119 r_20.1).bind fun r_274 =>
  some (r_274.1, r_274.2)) else
  (m_law_take r_74.2 (6)).bind fun r_285 =>
  (rng1M ((1) + r_285.1)).bind fun xs_295 =>
  (lcS (m_law_row_c4 ys_119) xs_295 r_285.2).bind fun ys_340 =>
  (joinM Lit0 ys_340.1).bind fun t_353 =>
  (repM t_353 (r_20.1 + (1))).bind fun t_355 =>
  (some (cutL t_355 none (some r_20.1))).bind fun row_356 =>
  (m_law_take ys_340.2 (r_20.1 + (1))).bind fun r_358 =>
  if ((decide (r_10.1 = (4))) || (decide (r_358.1 = r_20.1))) = true then (some (row_356, r_358.2)) else
  (m_law_take r_358.2 ((ys_119).length : Int)).bind fun r_369 =>
  (idxM ys_119 r_369.1).bind fun t_379 =>
  (catM (cutL row_356 none (some r_358.1)) t_379).bind fun t_384 =>
  (catM t_384 (cutL row_356 (some (r_358.1 + (1))) none)).bind fun t_385 =>
  some (t_385, r_369.2)
def m_stands_earlier_c1 (row_1 : (List Nat)) (word_11 : (List Nat)) (x_20 : Int) : Option Bool :=
  some (decide ((cutL row_1 (some x_20) (some (x_20 + ((word_11).length : Int)))) = word_11))
def m_stands_earlier (row_1 : (List Nat)) (begin_4 : Int) (behind_7 : Int) : Option Bool :=
  (some (cutL row_1 (some begin_4) (some behind_7))).bind fun word_11 =>
  (rng1M begin_4).bind fun xs_13 =>
  (mapP (m_stands_earlier_c1 row_1 word_11) xs_13).bind fun ys_42 =>
  some (ys_42.any id)
def m_new_stretches_l1 (row_1 : (List Nat)) (x_14 : Int) (s_15 : (Int × (List (Int × Int)))) : Option (Int × (List (Int × Int))) :=
  (m_stands_earlier row_1 s_15.1 (x_14 + (1))).bind fun r_37 =>
    (if (!r_37) = true then ((appM s_15.2 (s_15.1, (x_14 + (1)))).bind fun xs_53 =>
  (some (x_14 + (1))).bind fun begin_58 =>
  some (begin_58, xs_53)) else (some (s_15.1, s_15.2))).bind fun j_45 =>
    some (j_45.1, j_45.2)
def m_new_stretches (row_1 : (List Nat)) : Option (List (Int × Int)) :=
  (rng1M ((row_1).length : Int)).bind fun xs_9 =>
  (foldO (m_new_stretches_l1 row_1) xs_9 ((0), ([] : List (Int × Int)))).bind fun res_29 =>
  some res_29.2
def m_first_cutting_c1 (x_29 : (Int × Int)) : Option Int :=
  some (x_29.2 - (1))
def m_first_cutting (row_1 : (List Nat)) : Option (List Int) :=
  (m_new_stretches row_1).bind fun r_5 =>
  (mapP (m_first_cutting_c1) r_5).bind fun ys_58 =>
  some ys_58
def m_law_wholes_c1 (x_14 : Int) : Option Bool :=
  some (true && (!false))
def m_law_wholes (found_1 : (List Int)) : Option Bool :=
  if (!true) = true then (some false) else
  (mapP (m_law_wholes_c1) found_1).bind fun ys_37 =>
  some (ys_37.all id)
def m_law_first_l1 (row_1 : (List Nat)) (x_14 : Int) (s_15 : (Int × (List Int))) : Option (Int × (List Int)) :=
  (if (!inS (cutL row_1 (some s_15.1) (some (x_14 + (1)))) (cutL row_1 none (some x_14))) = true then ((appM s_15.2 x_14).bind fun xs_39 =>
  (some (x_14 + (1))).bind fun begin_44 =>
  some (begin_44, xs_39)) else (some (s_15.1, s_15.2))).bind fun j_35 =>
    some (j_35.1, j_35.2)
def m_law_first (row_1 : (List Nat)) : Option (List Int) :=
  (rng1M ((row_1).length : Int)).bind fun xs_9 =>
  (foldO (m_law_first_l1 row_1) xs_9 ((0), ([] : List Int))).bind fun res_29 =>
  some res_29.2
def m_law_l2 (r_47 : ((List Nat) × (List Int))) (x_63 : Int) (s_64 : Unit) : Option (Ctl (Ctl Bool Unit) Unit) :=
  (m_first_cutting r_47.1).bind fun r_84 =>
    ((m_law_wholes r_84).bind fun r_99 => if (!r_99) = true then (some true) else ((m_law_first r_47.1).bind fun r_108 => some (!decide (r_84 = r_108)))).bind fun b_98 =>
    if b_98 = true then (some (.rt (.rt false))) else
    (appM r_84 (7)).bind fun xs_129 =>
  some (.nx ())
def m_law_l1 (script_1 : (List Int)) (x_9 : Int) (s_10 : Unit) : Option (Ctl Bool Unit) :=
  (m_law_pot script_1 x_9).bind fun r_33 =>
    (m_law_row r_33 (60)).bind fun r_47 =>
    (rng1M (2)).bind fun xs_58 =>
    (loopM (m_law_l2 r_47) xs_58 ()).bind fun res_78 =>
    ctlK res_78 fun s_135 =>
    some (.nx ())
def m_law (script_1 : (List Int)) : Option Bool :=
  (rng1M (if (if ((script_1).length : Int) < (63) then ((script_1).length : Int) else (63)) > (1) then (if ((script_1).length : Int) < (63) then ((script_1).length : Int) else (63)) else (1))).bind fun xs_4 =>
  (loopM (m_law_l1 script_1) xs_4 ()).bind fun res_24 =>
  ctlK res_24 fun s_144 =>
  ((m_first_cutting Lit0).bind fun r_156 => if (decide (r_156 = ([] : List Int))) = true then (((m_first_cutting Lit2).bind fun r_178 => if (decide (r_178 = [(0)])) = true then ((m_first_cutting Lit3).bind fun r_199 => some (decide (r_199 = [(0)]))) else (some false)).bind fun b_177 => some b_177) else (some false)).bind fun b_155 =>
  some b_155
end Lk27

namespace Lk27
open PySem L2 MK MN
def Pot (p : List Int) : Prop := ∃ a b : Int, p = [a, b] ∧ 0 ≤ a ∧ 0 ≤ b ∧ b < 2147483647
theorem Pot.g0 {p : List Int} (h : Pot p) : Hd (idxM p 0) (fun x => 0 ≤ x ∧ ∃ b, p = [x, b] ∧ 0 ≤ b ∧ b < 2147483647) := by
  obtain ⟨a, b, rfl, h0, h1, h2⟩ := h
  exact ⟨a, rfl, h0, b, rfl, h1, h2⟩
theorem Pot.g1 {p : List Int} (h : Pot p) : Hd (idxM p 1) (fun x => 0 ≤ x ∧ x < 2147483647 ∧ ∃ a, p = [a, x] ∧ 0 ≤ a) := by
  obtain ⟨a, b, rfl, h0, h1, h2⟩ := h
  exact ⟨b, rfl, h1, h2, a, rfl, h0⟩
theorem big_lt : ((10 : Int) ^ (Int.toNat 60)) ^ (Int.toNat 4) = ((10 ^ 240 : Nat) : Int) := by decide +kernel
theorem big_lt2 : (10 ^ 240 : Nat) < 2 ^ 800 := by decide +kernel
theorem pot_of_ok {ns : List Int} {k : Int} (h0 : 0 ≤ k) (h1 : k ≤ 100) : Hd (m_law_pot ns k) Pot := by
  unfold m_law_pot
  refine Hd.bind (P := fun x : Int => 0 ≤ x ∧ x.natAbs < 2 ^ 800) (Hd.ited ?_ ?_) ?_
  · intro hk
    refine Hd.bind (hd_idx h0 hk) fun x hx => Hd.sb (Hd.sb (Hd.ret ?_))
    rw [big_lt]
    have a := Int.emod_nonneg (if x < 0 then -x else x) (show ((10 ^ 240 : Nat) : Int) ≠ 0 by decide +kernel)
    have b := Int.emod_lt_of_pos (if x < 0 then -x else x) (show (0 : Int) < ((10 ^ 240 : Nat) : Int) by decide +kernel)
    refine ⟨a, Nat.lt_trans ?_ big_lt2⟩
    generalize (10 ^ 240 : Nat) = N at a b ⊢
    omega
  · intro _
    exact Hd.ret ⟨by omega, by decide +kernel⟩
  · rintro x ⟨hx0, hx1⟩
    refine Hd.bind (hd_mul (n := 800) (m := 1) hx1 (by split <;> decide) (by omega)) ?_
    rintro _ rfl
    have h1 := Int.emod_nonneg x (show (2147483629 : Int) ≠ 0 by omega)
    have h2 := Int.emod_lt_of_pos x (show (0 : Int) < 2147483629 by omega)
    refine Hd.bind (hd_pow (by omega) (by omega) (by omega)) ?_
    rintro _ rfl
    refine Hd.ret ⟨_, _, rfl, Int.mul_nonneg hx0 (by split <;> omega), Int.emod_nonneg _ (by omega), Int.emod_lt_of_pos _ (by omega)⟩
theorem take_ok {p : List Int} {n : Int} (h : Pot p) (h0 : 0 < n) (h1 : n < 1000000) : Hd (m_law_take p n) (fun r => 0 ≤ r.1 ∧ r.1 < n ∧ Pot r.2) := by
  unfold m_law_take
  obtain ⟨a, b, rfl, ha, hb, hb2⟩ := h
  refine Hd.step (x := a) rfl (Hd.ited (fun hp => ?_) (fun hp => ?_))
  · refine Hd.step (x := a) rfl (Hd.bind (hd_mod h0) fun r hr => Hd.step (x := a) rfl (Hd.bind (hd_fdiv h0 (by omega)) fun q hq => Hd.step (x := [q, b]) rfl ?_))
    refine Hd.ret ⟨hr.2.1, hr.2.2, _, _, rfl, ?_, hb, hb2⟩
    rw [hq]
    exact Int.ediv_nonneg ha (by omega)
  · have e0 := Int.emod_nonneg (b * 69621 + 12345) (show (2147483647 : Int) ≠ 0 by omega)
    have e1 := Int.emod_lt_of_pos (b * 69621 + 12345) (show (0 : Int) < 2147483647 by omega)
    refine Hd.step (x := b) rfl (Hd.step (x := [a, (b * 69621 + 12345) % 2147483647]) rfl (Hd.step (x := (b * 69621 + 12345) % 2147483647) rfl (Hd.step (x := (b * 69621 + 12345) % 2147483647) rfl ?_)))
    refine Hd.bind (hd_mul_s (by omega) (by omega)) fun m hm => Hd.bind (hd_mod h0) fun r hr => Hd.ret ⟨hr.2.1, hr.2.2, _, _, rfl, ha, e0, e1⟩

theorem grown_ok {p : List Int} {ss : List (List Nat)} {n : Int} (h : Pot p) (hl : 1 ≤ ss.length) (hs : ∀ y ∈ ss, y.length = 1) (h0 : 0 ≤ n) (h1 : n ≤ 60) : Hd (m_law_grown p ss n) (fun r => r.1.length ≤ 60 ∧ Pot r.2) := by
  unfold m_law_grown
  refine Hd.bind (ix_neg1 hl) fun a ha => Hd.bind (hd_idx (by omega) (by omega)) fun b hb => ?_
  have la := hs a ha
  have lb := hs b hb.1
  refine Hd.bind (whileF_ok (I := fun s => 1 ≤ s.1.length ∧ s.1.length ≤ 400 ∧ 1 ≤ s.2.1.length ∧ s.2.1.length ≤ 1000 ∧ Pot s.2.2) (fun s => 1000 - s.2.1.length) ?_ fuel _ ⟨by dsimp only; omega, by dsimp only; omega, by dsimp only; omega, by dsimp only; omega, h⟩ (by unfold fuel; omega)) ?_
  · rintro ⟨s, t, q⟩ ⟨h2, h3, h4, h5, h6⟩
    dsimp only at h2 h3 h4 h5 h6 ⊢
    unfold m_law_grown_t1
    refine Hd.ret fun hn => ?_
    have hn : (t.length : Int) < n := of_decide_eq_true hn
    unfold m_law_grown_w1
    refine Hd.bind (take_ok h6 (by omega) (by omega)) fun r hr => ?_
    refine Hd.bind (hd_rep (m := 60) (k := 3) (by (first | omega | (dsimp only at *; omega))) (by (first | omega | (dsimp only at *; omega))) (by (first | omega | (dsimp only at *; omega))) (by (first | omega | (dsimp only at *; omega))) (by (first | omega | (dsimp only at *; omega)))) fun v hv => ?_
    have hv1 : v.length ≤ 3 * t.length := by rw [hv.2]; exact Nat.mul_le_mul (by omega) (Nat.le_refl _)
    have hv2 : 1 * t.length ≤ v.length := by rw [hv.2]; exact Nat.mul_le_mul (by omega) (Nat.le_refl _)
    refine Hd.bind (hd_cat (by dsimp only; omega)) ?_
    rintro _ rfl
    refine Hd.ret ⟨⟨by (first | omega | (dsimp only at *; omega)), by (first | omega | (dsimp only at *; omega)), ?_, ?_, hr.2.2⟩, ?_⟩
    · rw [List.length_append]; (first | omega | (dsimp only at *; omega))
    · rw [List.length_append]; (first | omega | (dsimp only at *; omega))
    · dsimp only; rw [List.length_append]; omega
  · intro s hs
    refine Hd.ret ⟨?_, hs.1.2.2.2.2⟩
    rw [cutL_hi h0, List.length_take]; omega
theorem copies_ok {p : List Int} {ss : List (List Nat)} {n : Int} (h : Pot p) (hl : 1 ≤ ss.length) (hl2 : ss.length ≤ 26) (hs : ∀ y ∈ ss, y.length = 1) (h0 : 0 ≤ n) (h1 : n ≤ 60) : Hd (m_law_copies p ss n) (fun r => r.1.length ≤ 60 ∧ Pot r.2) := by
  unfold m_law_copies
  refine Hd.bind (whileF_ok (I := fun s => s.1.length ≤ 1000 ∧ Pot s.2) (fun s => 1000 - s.1.length) ?_ fuel _ ⟨Nat.zero_le _, h⟩ (by unfold fuel; omega)) ?_
  · rintro ⟨t, q⟩ ⟨h2, h3⟩
    dsimp only at h2 h3 ⊢
    unfold m_law_copies_t1
    refine Hd.ret fun hn => ?_
    have hn : (t.length : Int) < n := of_decide_eq_true hn
    unfold m_law_copies_w1
    refine Hd.bind (take_ok h3 (by (first | omega | (dsimp only at *; omega))) (by (first | omega | (dsimp only at *; omega)))) fun r hr => Hd.bind (take_ok hr.2.2 (by omega) (by omega)) fun r2 hr2 => ?_
    have lc := cutL_len_le (xs := t) (lo := some r.1) (hi := some (r.1 + r2.1))
    refine Hd.bind (hd_cat (by dsimp only; omega)) ?_
    rintro _ rfl
    refine Hd.bind (take_ok hr2.2.2 (by omega) (by omega)) fun r3 hr3 => Hd.bind (hd_idx hr3.1 (by omega)) fun u hu => ?_
    have lu := hs u hu.1
    refine Hd.bind (hd_cat (by rw [List.length_append]; (first | omega | (dsimp only at *; omega)))) ?_
    rintro _ rfl
    refine Hd.ret ⟨⟨?_, hr3.2.2⟩, ?_⟩
    · rw [List.length_append, List.length_append]; (first | omega | (dsimp only at *; omega))
    · dsimp only; rw [List.length_append, List.length_append]; omega
  · intro s hs
    refine Hd.ret ⟨?_, hs.1.2⟩
    rw [cutL_hi h0, List.length_take]; omega
theorem row_ok {p : List Int} {n : Int} (h : Pot p) (h0 : 0 ≤ n) (h1 : n ≤ 60) : Hd (m_law_row p n) (fun r => r.1.length ≤ 61 ∧ Pot r.2) := by
  unfold m_law_row
  refine Hd.bind (take_ok h (by omega) (by omega)) fun a ha => Hd.bind (take_ok ha.2.2 (by omega) (by omega)) fun b hb => Hd.bind (take_ok hb.2.2 (by omega) (by omega)) fun c hc => Hd.bind (take_ok hc.2.2 (by omega) (by omega)) fun d hd => ?_
  refine Hd.bind (hd_idx hd.1 (by simpa using hd.2.1)) fun st hst => Hd.bind (take_ok hd.2.2 (by omega) (by omega)) fun e he => Hd.bind (take_ok he.2.2 (by omega) (by omega)) fun f hf => ?_
  have hst : 1 ≤ st ∧ st ≤ 25 := by
    have := hst.1
    simp only [List.mem_cons, List.not_mem_nil, or_false] at this
    omega
  refine Hd.bind (P := fun m : Int => 1 ≤ m ∧ m ≤ 26) ?_ fun m hm => ?_
  · refine Hd.mono (hd_idx (by split <;> omega) (by split <;> simp)) fun x hx => ?_
    have := hx.1
    simp only [List.mem_cons, List.not_mem_nil, or_false] at this
    omega
  refine Hd.bind (hd_rng1 (by omega) (by omega)) ?_
  rintro _ rfl
  refine Hd.bind (Hd.mapP (P := fun y => y.length = 1) ?_) ?_
  · intro x hx
    have hx := mem_rangeL.mp hx
    unfold m_law_row_c1
    refine Hd.bind (hd_mul_s (by omega) (by omega)) fun m hm => Hd.bind (hd_sidx (Int.emod_nonneg _ (by omega)) (Int.emod_lt_of_pos _ (by decide))) fun t ht => Hd.ret ht.1
  rintro ss ⟨sl, s1⟩
  rw [rangeL_len] at sl
  have sl1 : 1 ≤ ss.length := by omega
  have sl2 : ss.length ≤ 26 := by omega
  clear sl
  have hb2 := hb.2.1
  have cm : ∀ (q : List Int) (g : Int → List Int → Option (Option (List Nat) × List Int)) (k : Int), Pot q → 0 ≤ k → k ≤ 100 → (∀ x s, Pot s → Hd (g x s) (fun r => Pot r.2 ∧ ∃ y, r.1 = some y ∧ y.length = 1)) →
      Hd ((rng1M k).bind fun xs => (MK.lcS g xs q).bind fun ys => (joinM Lit0 ys.1).bind fun t => some (t, ys.2)) (fun r => r.1.length = k.toNat ∧ Pot r.2) := by
    intro q g k hq k0 k1 hg
    refine Hd.bind (hd_rng1 (by omega) (by omega)) ?_
    rintro _ rfl
    refine Hd.bind (Hd.lcSA (I := Pot) (P := fun y => y.length = 1) hq fun x _ s hs => hg x s hs) ?_
    rintro ⟨ys, q3⟩ ⟨hq3, hyl, hy1⟩
    dsimp only at hq3 hyl hy1 ⊢
    rw [rangeL_len] at hyl
    have hsum := sum_ones' hy1
    refine Hd.bind (hd_join (by rw [hsum]; simp [Lit0]; omega)) ?_
    rintro _ rfl
    refine Hd.ret ⟨?_, hq3⟩
    rw [show Lit0 = [] from rfl, joinL_nil, List.length_flatten, hsum]; exact hyl
  refine Hd.ited ?_ fun _ => Hd.ited ?_ fun _ => Hd.ited ?_ fun _ => Hd.ited ?_ fun _ => Hd.ited ?_ fun _ => ?_
  · intro _
    refine Hd.bind (hd_idx (by omega) (by omega)) fun u hu => Hd.bind (hd_rep (m := 1) (k := 60) (by rw [s1 u hu.1]; omega) (by omega) (by omega) (by omega) (by omega)) fun v hv => Hd.ret ⟨?_, hf.2.2⟩
    rw [hv.2, s1 u hu.1]; omega
  · intro _
    refine Hd.mono (cm _ (m_law_row_c2 ss) b.1 hf.2.2 hb.1 (by omega) fun x s hs => ?_) fun r hr => ⟨by omega, hr.2⟩
    unfold m_law_row_c2
    refine Hd.bind (take_ok hs (by omega) (by omega)) fun r hr => Hd.bind (hd_idx hr.1 (by omega)) fun u hu => Hd.ret ⟨hr.2.2, u, rfl, s1 u hu.1⟩
  · intro _
    refine Hd.mono (cm _ (m_law_row_c3 ss) b.1 hf.2.2 hb.1 (by omega) fun x s hs => ?_) fun r hr => ⟨by omega, hr.2⟩
    unfold m_law_row_c3
    refine Hd.bind (take_ok hs (by omega) (by omega)) fun r hr => Hd.bind (hd_mul_s (by omega) (by split <;> omega)) ?_
    rintro _ rfl
    refine Hd.bind (hd_idx (by split <;> omega) (by split <;> omega)) fun u hu => Hd.ret ⟨hr.2.2, u, rfl, s1 u hu.1⟩
  · intro _
    refine Hd.bind (grown_ok hf.2.2 sl1 s1 hb.1 (by omega)) fun r hr => Hd.ret ⟨by (first | omega | (dsimp only at *; omega)), hr.2⟩
  · intro _
    refine Hd.bind (copies_ok hf.2.2 sl1 sl2 s1 hb.1 (by omega)) fun r hr => Hd.ret ⟨by (first | omega | (dsimp only at *; omega)), hr.2⟩
  refine Hd.bind (take_ok hf.2.2 (by omega) (by omega)) fun g hg => ?_
  have key := cm _ (m_law_row_c4 ss) (1 + g.1) hg.2.2 (by omega) (by omega) (fun x s hs => by
    unfold m_law_row_c4
    exact Hd.bind (take_ok hs (by omega) (by omega)) fun r hr => Hd.bind (hd_idx hr.1 (by omega)) fun u hu => Hd.ret ⟨hr.2.2, u, rfl, s1 u hu.1⟩)
  obtain ⟨⟨t, q⟩, e, ht, hq⟩ := key
  dsimp only at ht hq
  obtain ⟨xs, e1, e⟩ := bindS e
  obtain ⟨ys, e2, e⟩ := bindS e
  obtain ⟨t', e3, e⟩ := bindS e
  cases someI e
  rw [e1]
  refine Hd.sb ?_
  rw [e2]
  refine Hd.sb ?_
  rw [e3]
  refine Hd.sb ?_
  refine Hd.bind (hd_rep (m := 6) (k := 61) (by omega) (by omega) (by omega) (by omega) (by omega)) fun v hv => Hd.sb ?_
  have hrow : (cutL v none (some b.1)).length ≤ 60 := by rw [cutL_hi hb.1, List.length_take]; omega
  generalize cutL v none (some b.1) = w at hrow ⊢
  refine Hd.bind (take_ok hq (by omega) (by omega)) fun k hk => Hd.ite ?_ ?_
  · intro _
    exact Hd.ret ⟨by (first | omega | (dsimp only at *; omega)), hk.2.2⟩
  · intro _
    refine Hd.bind (take_ok hk.2.2 (by omega) (by omega)) fun l hl => Hd.bind (hd_idx hl.1 (by omega)) fun u hu => ?_
    have lu := s1 u hu.1
    rw [cutL_hi hk.1, cutL_lo (by omega)]
    refine Hd.bind (hd_cat (by rw [List.length_take]; omega)) ?_
    rintro _ rfl
    refine Hd.bind (hd_cat (by rw [List.length_append, List.length_take, List.length_drop]; omega)) ?_
    rintro _ rfl
    refine Hd.ret ⟨?_, hl.2.2⟩
    rw [List.length_append, List.length_append, List.length_take, List.length_drop]; omega
end Lk27

namespace Lk27
open PySem L2 MK MN
theorem foldO_snoc {α σ : Type} {f : α → σ → Option σ} : ∀ (xs : List α) (x : α) (s : σ), MK.foldO f (xs ++ [x]) s = (MK.foldO f xs s).bind (f x)
  | [], x, s => by
    show (f x s).bind (MK.foldO f []) = _
    show _ = f x s
    cases f x s <;> rfl
  | y :: ys, x, s => by
    show (f y s).bind (MK.foldO f (ys ++ [x])) = ((f y s).bind (MK.foldO f ys)).bind (f x)
    cases e : f y s with
    | none => rfl
    | some s' => exact foldO_snoc ys x s'
theorem rangeL_snoc (i : Nat) : rangeL 0 (i + 1) = rangeL 0 i ++ [(i : Int)] := by
  unfold rangeL
  rw [List.range_succ, List.map_append]
  simp
/-- a stretch stands earlier, both ways -/
theorem earlier {t : List Nat} {b x : Int} (h0 : 0 ≤ b) (h1 : b ≤ x) (h2 : x < t.length) (h3 : t.length ≤ 1000) :
    m_stands_earlier t b (x + 1) = some (inS (cutL t (some b) (some (x + 1))) (cutL t none (some x))) := by
  unfold m_stands_earlier
  refine Hd.to (Hd.sb (Hd.bind (hd_rng1 (by omega) (by omega)) ?_))
  rintro _ rfl
  have hw : (cutL t (some b) (some (x + 1))).length = (x + 1 - b).toNat := by
    rw [cutL_mid h0 (by omega), List.length_take, List.length_drop]; omega
  generalize cutL t (some b) (some (x + 1)) = w at hw ⊢
  rw [mapP_fn (f := m_stands_earlier_c1 t w) (g := fun p => decide (cutL t (some p) (some (p + (w.length : Int))) = w)) (fun p _ => rfl)]
  refine Hd.ret ?_
  rw [cutL_hi (by omega), Bool.eq_iff_iff, inS_iff, List.any_map, List.any_eq_true]
  constructor
  · rintro ⟨p, hp, e⟩
    have hp := mem_rangeL.mp hp
    have e : cutL t (some p) (some (p + (w.length : Int))) = w := of_decide_eq_true e
    rw [cutL_mid hp.1 (by omega)] at e
    refine ⟨p.toNat, by rw [List.length_take]; omega, ?_⟩
    unfold At
    rw [List.drop_take, List.take_take, Nat.min_eq_left (by omega)]
    rw [← e]
    congr 1
    rw [e]; omega
  · rintro ⟨i, hi, e⟩
    rw [List.length_take] at hi
    refine ⟨(i : Int), mem_rangeL.mpr (by omega), ?_⟩
    show decide _ = true
    refine decide_eq_true ?_
    unfold At at e
    rw [List.drop_take, List.take_take, Nat.min_eq_left (by omega)] at e
    rw [cutL_mid (by omega) (by omega)]
    rw [show ((i : Int) + (w.length : Int)).toNat - (i : Int).toNat = w.length by omega, Int.toNat_natCast]
    exact e
theorem cutting {t : List Nat} (ht : t.length ≤ 1000) : ∃ l : List Int, m_first_cutting t = some l ∧ m_law_first t = some l ∧ l.length ≤ t.length := by
  have key : Hd (MK.foldO (m_new_stretches_l1 t) (rangeL 0 t.length) (0, ([] : List (Int × Int)))) (fun s => MK.foldO (m_law_first_l1 t) (rangeL 0 t.length) (0, ([] : List Int)) = some (s.1, s.2.map (fun p => p.2 - 1)) ∧ 0 ≤ s.1 ∧ s.1 ≤ (t.length : Int) ∧ s.2.length ≤ t.length) := by
    refine foldO_ix (I := fun i (s : Int × List (Int × Int)) => MK.foldO (m_law_first_l1 t) (rangeL 0 i) (0, ([] : List Int)) = some (s.1, s.2.map (fun p => p.2 - 1)) ∧ 0 ≤ s.1 ∧ s.1 ≤ (i : Int) ∧ s.2.length ≤ i) t.length ⟨rfl, by simp, by simp, by simp⟩ ?_
    rintro i hi ⟨b, l⟩ ⟨h1, h2, h3, h4⟩
    dsimp only at h1 h2 h3 h4
    unfold m_new_stretches_l1
    dsimp only
    rw [earlier h2 h3 (by omega) ht]
    refine Hd.sb ?_
    rw [rangeL_snoc]
    have hg : ∀ s', m_law_first_l1 t (i : Int) (b, l.map fun p => p.2 - 1) = some s' → MK.foldO (m_law_first_l1 t) (rangeL 0 i ++ [(i : Int)]) (0, ([] : List Int)) = some s' := by
      intro s' e
      rw [foldO_snoc, h1]; exact e
    unfold m_law_first_l1 at hg
    dsimp only at hg
    cases e : inS (cutL t (some b) (some ((i : Int) + 1))) (cutL t none (some (i : Int))) with
    | true =>
      rw [e] at hg
      exact Hd.ret ⟨hg _ rfl, h2, by dsimp only; omega, by dsimp only; omega⟩
    | false =>
      rw [e] at hg
      have a1 : appM l (b, (i : Int) + 1) = some (l ++ [(b, (i : Int) + 1)]) := Hd.to (hd_app (by omega))
      have a2 : appM (l.map fun p => p.2 - 1) (i : Int) = some ((l.map fun p => p.2 - 1) ++ [(i : Int)]) := Hd.to (hd_app (by rw [List.length_map]; omega))
      rw [a1]
      rw [a2] at hg
      refine Hd.ret ⟨?_, by dsimp only; omega, by dsimp only; omega, by dsimp only; rw [List.length_append]; simp; omega⟩
      refine (hg _ rfl).trans ?_
      dsimp only
      rw [List.map_append]
      simp
  obtain ⟨⟨b, l⟩, e, h1, h2, h3, h4⟩ := key
  have er : rng1M (t.length : Int) = some (rangeL 0 t.length) := Hd.to (Hd.mono (hd_rng1 (by omega) (by omega)) fun x hx => by rw [hx]; rfl)
  refine ⟨l.map fun p => p.2 - 1, ?_, ?_, by rw [List.length_map]; exact h4⟩
  · unfold m_first_cutting m_new_stretches
    rw [er]
    show ((MK.foldO (m_new_stretches_l1 t) (rangeL 0 t.length) (0, ([] : List (Int × Int)))).bind _).bind _ = _
    rw [e]
    show (MK.mapP m_first_cutting_c1 l).bind _ = _
    rw [mapP_fn (f := m_first_cutting_c1) (g := fun p : Int × Int => p.2 - 1) (fun x _ => rfl)]
    rfl
  · unfold m_law_first
    rw [er]
    show (MK.foldO (m_law_first_l1 t) (rangeL 0 t.length) (0, ([] : List Int))).bind _ = _
    rw [h1]
    rfl
theorem wholes (l : List Int) : m_law_wholes l = some true := by
  unfold m_law_wholes
  rw [if_neg (by decide), mapP_fn (f := m_law_wholes_c1) (g := fun _ => true) (fun x _ => rfl)]
  show some _ = _
  congr 1
  simp
theorem law_true (ns : List Int) (h : ns.length ≤ 63) : m_law ns = some true := by
  refine Hd.to ?_
  unfold m_law
  refine Hd.bind (hd_rng1 (by split <;> split <;> omega) (by split <;> split <;> omega)) ?_
  rintro _ rfl
  refine Hd.bind (Hd.loopN (I := fun _ => True) trivial ?_) fun c hc => Hd.ctl hc fun s _ => ?_
  · intro x hx s _
    have hx := mem_rangeL.mp hx
    have hx2 : x ≤ 63 := by
      have := hx.2
      split at this <;> split at this <;> omega
    unfold m_law_l1
    refine Hd.bind (pot_of_ok hx.1 (by omega)) fun p hp => Hd.bind (row_ok hp (by omega) (by omega)) ?_
    rintro ⟨t, q⟩ ⟨ht, _⟩
    dsimp only at ht
    obtain ⟨l, e1, e2, e3⟩ := cutting (t := t) (by omega)
    refine Hd.bind (hd_rng1 (by omega) (by omega)) ?_
    rintro _ rfl
    refine Hd.bind (Hd.loopN (I := fun _ => True) trivial fun y _ s _ => ?_) fun c hc => Hd.ctl hc fun s _ => Hd.ret ⟨_, rfl, trivial⟩
    unfold m_law_l2
    dsimp only
    rw [e1]
    refine Hd.sb ?_
    rw [wholes, e2]
    refine Hd.bind (P := fun b => b = false) (Hd.sb ?_) ?_
    · rw [if_neg (by decide)]
      exact Hd.ret (by simp)
    · rintro _ rfl
      rw [if_neg (by decide)]
      refine Hd.bind (hd_app (by omega)) fun _ _ => Hd.ret ⟨_, rfl, trivial⟩
  · have c0 : m_first_cutting Lit0 = some [] := by decide +kernel
    have c1 : m_first_cutting Lit2 = some [0] := by decide +kernel
    have c2 : m_first_cutting Lit3 = some [0] := by decide +kernel
    rw [c0, c1, c2]
    exact Hd.ret (by decide)
end Lk27

namespace Lk27
open PySem PySem.Spec L2 MK
def topS (i : Nat) : Stmt := PySem.Challenge.pw_likemarks_k27_first_cutting_told.main.body.getD i (.Pass ⟨0, 0, 0, 0⟩)
abbrev s0 : Stmt := topS 5
abbrev s1 : Stmt := topS 6
abbrev s2 : Stmt := topS 8
abbrev s3 : Stmt := topS 7
abbrev s4 : Stmt := topS 9
abbrev s5 : Stmt := topS 1
abbrev s6 : Stmt := topS 2
abbrev s7 : Stmt := topS 3
abbrev s8 : Stmt := topS 11
abbrev s9 : Stmt := topS 10
abbrev s10 : Stmt := topS 12
theorem lit0 : (Str.ofString "") = sS Lit0 := by decide +kernel
theorem lit0_ok : OkS Lit0 := OkS.lit (by decide +kernel)
theorem lit1 : (Str.ofString "abcdefghijklmnopqrstuvwxyz") = sS Lit1 := by decide +kernel
theorem lit1_ok : OkS Lit1 := OkS.lit (by decide +kernel)
theorem lit2 : (Str.ofString "a") = sS Lit2 := by decide +kernel
theorem lit2_ok : OkS Lit2 := OkS.lit (by decide +kernel)
theorem lit3 : (Str.ofString "zz") = sS Lit3 := by decide +kernel
theorem lit3_ok : OkS Lit3 := OkS.lit (by decide +kernel)
structure Txt (K : PySem.W.Frag) (mg : Str → Option Value) (fa : Nat → Addr) (fd : Nat → FuncData) : Prop where
  f0 : Fun K "_law_pot" "_law_pot" s0 (fa 0) (fd 0)
  g0 : mg "_law_pot" = some (.ref (fa 0))
  b0 : Binds K (fd 0) ["_law_script", "_law_k"] []
  f1 : Fun K "_law_take" "_law_take" s1 (fa 1) (fd 1)
  g1 : mg "_law_take" = some (.ref (fa 1))
  b1 : Binds K (fd 1) ["_law_pot_here", "_law_many"] []
  f2 : Fun K "_law_grown" "_law_grown" s2 (fa 2) (fd 2)
  g2 : mg "_law_grown" = some (.ref (fa 2))
  b2 : Binds K (fd 2) ["_law_pot_here", "_law_some", "_law_size"] []
  f3 : Fun K "_law_copies" "_law_copies" s3 (fa 3) (fd 3)
  g3 : mg "_law_copies" = some (.ref (fa 3))
  b3 : Binds K (fd 3) ["_law_pot_here", "_law_some", "_law_size"] []
  f4 : Fun K "_law_row" "_law_row" s4 (fa 4) (fd 4)
  g4 : mg "_law_row" = some (.ref (fa 4))
  b4 : Binds K (fd 4) ["_law_pot_here", "_law_most"] []
  f5 : Fun K "stands_earlier" "stands_earlier" s5 (fa 5) (fd 5)
  g5 : mg "stands_earlier" = some (.ref (fa 5))
  b5 : Binds K (fd 5) ["row", "begin", "behind"] []
  f6 : Fun K "new_stretches" "new_stretches" s6 (fa 6) (fd 6)
  g6 : mg "new_stretches" = some (.ref (fa 6))
  b6 : Binds K (fd 6) ["row"] []
  f7 : Fun K "first_cutting" "first_cutting" s7 (fa 7) (fd 7)
  g7 : mg "first_cutting" = some (.ref (fa 7))
  b7 : Binds K (fd 7) ["row"] []
  f8 : Fun K "_law_wholes" "_law_wholes" s8 (fa 8) (fd 8)
  g8 : mg "_law_wholes" = some (.ref (fa 8))
  b8 : Binds K (fd 8) ["_law_found"] []
  f9 : Fun K "_law_first" "_law_first" s9 (fa 9) (fd 9)
  g9 : mg "_law_first" = some (.ref (fa 9))
  b9 : Binds K (fd 9) ["_law_row_here"] []
  f10 : Fun K "law" "law" s10 (fa 10) (fd 10)
  g10 : mg "law" = some (.ref (fa 10))
  b10 : Binds K (fd 10) ["_law_script"] []
  n_abs : mg "abs" = none
  n_all : mg "all" = none
  n_any : mg "any" = none
  n_bool : mg "bool" = none
  n_int : mg "int" = none
  n_isinstance : mg "isinstance" = none
  n_len : mg "len" = none
  n_list : mg "list" = none
  n_max : mg "max" = none
  n_min : mg "min" = none
  n_range : mg "range" = none
section
variable {P : Program} {w : World} {K : PySem.W.Frag} {mg : Str → Option Value} {base : Heap} {fa : Nat → Addr} {fd : Nat → FuncData}
theorem sc_law_pot : FnScope ["_law_script", "_law_k", "_law_cell"] ["_law_script", "_law_k"] (defScope s0) := ⟨rfl, rfl, rfl, by decide +kernel, rfl, by decide +kernel, by decide +kernel⟩
def sp_law_pot (K : PySem.W.Frag) : Sp := fun vs H Q E => ∃ (script_1 : (List Int)) (v_2 : V) (k_4 : Int) (v_5 : V) (G : Hp) (r : (List Int)), vs = [v_2, v_5] ∧ L2.Same G H ∧ (pScr K) script_1 v_2 G ∧ pI k_4 v_5 G ∧ m_law_pot script_1 k_4 = some r ∧ (∀ p vs G1 H1, Post [] G H G1 H1 → H p = none → G1 p = none → H1 p = some (.lst vs) → All2 pI G1 r vs → r.length ≤ sizeLine → Q (.ref p) H1)
theorem ok_law_pot (T : Txt K mg fa fd) : FnOk P w K mg base CX0 1 (fa 0) (fd 0) ["_law_script", "_law_k"] (sp_law_pot K) := by
  refine T.f0.ok sc_law_pot (fun vs H Q E h => ?_) (fun cdv A outer s H vs Q E hr h => ?_)
  · obtain ⟨_, _, _, _, _, _, rfl, _⟩ := h; rfl
  · obtain ⟨script_1, v_2, k_4, v_5, G0, r0, rfl, hs0, h_3, h_6, hm, hq⟩ := h
    obtain rfl := h_6
    refine ⟨_, (pss_cons (ps_set (i := 2) sc_law_pot.nd rfl (Or.inl rfl) pe_int)
      (pss_cons (ps_if (pt_cmpR op_lt (pv 1) (pe_callB (call_lenQ (K := K) rfl) (by rfl) T.n_len PySem.boot_len (pa_cons (pv 0) pa_nil)) (nomark _)) (pss_cons (ps_set (i := 2) sc_law_pot.nd rfl (Or.inl rfl) (pe_op op_mod (pe_callB call_absI (by rfl) T.n_abs (by decide +kernel) (pa_cons (pe_ix (ix_listK (K := K) rfl) (pv 0) (pv 1) (fun _ _ => rfl)) pa_nil)) (pe_op op_powX (pe_op op_powX pe_int pe_int) pe_int)))
      pss_nil) pss_nil)
      (pss_cons (ps_ret (pe_lst (pa_cons (pe_op op_mulW (pv 2) (pe_callTy call_int1I (by rfl) T.n_int (by decide +kernel) (pa_cons (pe_cmpR op_ge (pv 2) (pe_op op_powX pe_int pe_int) (nomark _)) pa_nil))) (pa_cons (pe_op op_mod (pe_op op_powX (pe_op op_add (pe_op op_add (pe_op op_mod (pv 2) pe_int) (pe_op op_mul pe_int (pv 1))) pe_int) pe_int) pe_int) pa_nil))))
      pss_nil))), ?_⟩
    have w0 : W H G0 [] G0 [] H := W.init hs0
    refine st_conv (σ' := [some v_2, some (V.int k_4), none]) rfl ?_
    refine cps_asg (fun x => [some v_2, some (V.int k_4), some x]) (fun _ => rfl) ?_
    refine ev_use ev_c ?_
    refine s_if0 ?_
    refine et_use (et_test (ev_op (ev_var rfl) (ev_cb (ea_cons (ev_var rfl) ea_nil) (kk_lenScr (Mn.mono h_3 w0.sub))) (k_ltI _ _))) ?_
    obtain ⟨j_7, hm_if, hm⟩ := bindS hm
    refine cut_if4 (P := (fun σ1 H1 => ∃ G1, σ1 = [some v_2, some (V.int k_4), some (V.int j_7)] ∧ L2.Same G0 G1 ∧ W H G0 [] G1 [] H1)) _ ?_ ?_ ?_
    · intro hb_8 N_9 kn_10
      have hm := iteT' hm_if hb_8
      refine cps_asg (fun x => [some v_2, some (V.int k_4), some x]) (fun _ => rfl) ?_
      obtain ⟨t_11, e_t_11, hm⟩ := bindS hm
      obtain ⟨cell_12, e_cell_12, hm⟩ := bindS hm
      refine ev_use (castI e_cell_12 (ev_op (ev_cb (ea_cons (ev_op (ev_var rfl) (ev_var rfl) (k_idxScr (Mn.mono h_3 w0.sub) e_t_11)) ea_nil) (kk_abs _)) (ev_op (ev_op ev_c ev_c (k_powC _ _ (by decide +kernel))) ev_c (k_powC _ _ (by decide +kernel))) (k_modC _ _ (by decide +kernel)))) ?_
      refine cps_next ?_
      obtain rfl := someI hm
      exact kn_10 _ _ ⟨_, rfl, (L2.Same.refl _), w0⟩
    · intro hb_8 N_9 kn_10
      have hm := iteF' hm_if hb_8
      refine cps_next ?_
      obtain rfl := someI hm
      exact kn_10 _ _ ⟨_, rfl, (L2.Same.refl _), w0⟩
    rintro _ H_13 ⟨G_14, rfl, s_15, w_16⟩
    refine cps_ret ?_
    refine cps_lst ?_
    refine cps_cons ?_
    obtain ⟨t_17, e_t_17, hm⟩ := bindS hm
    refine ev_use (ev_op (ev_var rfl) (ev_cb (ea_cons (ev_op (ev_var rfl) (ev_op ev_c ev_c (k_powC _ _ (by decide +kernel))) (k_geI _ _)) ea_nil) (kk_intB _)) (k_mul e_t_17)) ?_
    refine cps_cons ?_
    obtain ⟨t_18, e_t_18, hm⟩ := bindS hm
    refine ev_use (ev_op (ev_op (ev_op (ev_op (ev_op (ev_var rfl) ev_c (k_modC _ _ (by decide +kernel))) (ev_op ev_c (ev_var rfl) (k_mulC _ _ (Or.inl ⟨by decide, by decide⟩))) (k_add _ _)) ev_c (k_add _ _)) ev_c (k_pow e_t_18)) ev_c (k_modC _ _ (by decide +kernel))) ?_
    refine cps_nil ?_
    refine ⟨lenle rfl, fun p_19 hp_19 => ?_⟩
    have ha_20 : All2 pI G_14 [t_17, (t_18 % (2147483647))] [(V.int t_17), (V.int (t_18 % (2147483647)))] := (All2.cons rfl (All2.cons rfl .nil))
    have hE_22 := W.freshE w_16 hp_19
    have w_21 := W.cell w_16 hp_19 (.lst [(V.int t_17), (V.int (t_18 % (2147483647)))])
    have er := (someI hm).symm
    subst er
    exact hq _ _ _ _ (W.post w_21) hE_22 (W.out w_21 _ (List.Mem.head _)) (W.at w_21 0) ha_20 (lenle rfl) 

theorem sc_law_take : FnScope ["_law_pot_here", "_law_many", "_law_found"] ["_law_pot_here", "_law_many"] (defScope s1) := ⟨rfl, rfl, rfl, by decide +kernel, rfl, by decide +kernel, by decide +kernel⟩
def sp_law_take (K : PySem.W.Frag) : Sp := fun vs H Q E => ∃ (a_3 : Addr) (pot_1 : (List Int)) (many_7 : Int) (v_8 : V) (G : Hp) (r : (Int × (List Int))), vs = [.ref a_3, v_8] ∧ L2.Same G H ∧ G a_3 = none ∧ H a_3 = some (.lst (pot_1.map V.int)) ∧ pot_1.length ≤ sizeLine ∧ pI many_7 v_8 G ∧ m_law_take pot_1 many_7 = some r ∧ (∀ v G1 H1, Post [a_3] G H G1 H1 → pI r.1 v G1 → H1 a_3 = some (.lst (r.2.map V.int)) → r.2.length ≤ sizeLine → Q v H1)
theorem ok_law_take (T : Txt K mg fa fd) : FnOk P w K mg base CX0 1 (fa 1) (fd 1) ["_law_pot_here", "_law_many"] (sp_law_take K) := by
  refine T.f1.ok sc_law_take (fun vs H Q E h => ?_) (fun cdv A outer s H vs Q E hr h => ?_)
  · obtain ⟨_, _, _, _, _, _, rfl, _⟩ := h; rfl
  · obtain ⟨a_3, pot_1, many_7, v_8, G0, r0, rfl, hs0, h_4, h_5, h_6, h_9, hm, hq⟩ := h
    obtain rfl := h_9
    refine ⟨_, (pss_cons (ps_if (pt_cmpR op_gt (pe_ix (ix_listK (K := K) rfl) (pv 0) pe_int (fun _ _ => rfl)) pe_int (nomark _)) (pss_cons (ps_set (i := 2) sc_law_take.nd rfl (Or.inl rfl) (pe_op op_mod (pe_ix (ix_listK (K := K) rfl) (pv 0) pe_int (fun _ _ => rfl)) (pv 1)))
      (pss_cons (ps_asg (pe_op op_fdiv (pe_ix (ix_listK (K := K) rfl) (pv 0) pe_int (fun _ _ => rfl)) (pv 1)) (pg_sub (pv 0) pe_int set_list))
      (pss_cons (ps_ret (pv 2))
      pss_nil))) pss_nil)
      (pss_cons (ps_asg (pe_op op_mod (pe_op op_add (pe_op op_mul (pe_ix (ix_listK (K := K) rfl) (pv 0) pe_int (fun _ _ => rfl)) pe_int) pe_int) pe_int) (pg_sub (pv 0) pe_int set_list))
      (pss_cons (ps_ret (pe_op op_mod (pe_op op_fdiv (pe_op op_mod (pe_op op_mulW (pe_ix (ix_listK (K := K) rfl) (pv 0) pe_int (fun _ _ => rfl)) (pe_ix (ix_listK (K := K) rfl) (pv 0) pe_int (fun _ _ => rfl))) pe_int) pe_int) (pv 1)))
      pss_nil))), ?_⟩
    have w0 : W H G0 [a_3] G0 [(a_3, .lst (pot_1.map V.int))] H := W.init1 hs0 h_5 h_4
    refine st_conv (σ' := [some (V.ref a_3), some (V.int many_7), none]) rfl ?_
    refine s_if0 ?_
    obtain ⟨t_10, e_t_10, hm⟩ := bindS hm
    obtain ⟨v_11, r_12, k_13⟩ := k_idxC (K := K) (W.at w0 0) (All2.ofInt _ G0) e_t_10
    obtain rfl := r_12
    refine et_use (et_test (ev_op (ev_op (ev_var rfl) ev_c k_13) ev_c (k_gtI _ _))) ?_
    refine if_cases _ (fun hb_14 => ?_) (fun hb_14 => ?_)
    · have hm := iteT' hm hb_14
      refine cps_asg (fun x => [some (V.ref a_3), some (V.int many_7), some x]) (fun _ => rfl) ?_
      obtain ⟨t_15, e_t_15, hm⟩ := bindS hm
      obtain ⟨v_16, r_17, k_18⟩ := k_idxC (K := K) (W.at w0 0) (All2.ofInt _ G0) e_t_15
      obtain rfl := r_17
      obtain ⟨t_19, e_t_19, hm⟩ := bindS hm
      refine ev_use (ev_op (ev_op (ev_var rfl) ev_c k_18) (ev_var rfl) (k_mod e_t_19)) ?_
      refine cps_asgG ?_
      obtain ⟨t_20, e_t_20, hm⟩ := bindS hm
      obtain ⟨v_21, r_22, k_23⟩ := k_idxC (K := K) (W.at w0 0) (All2.ofInt _ G0) e_t_20
      obtain rfl := r_22
      obtain ⟨t_24, e_t_24, hm⟩ := bindS hm
      refine ev_use (ev_op (ev_op (ev_var rfl) ev_c k_23) (ev_var rfl) (k_fdiv e_t_24)) ?_
      refine cps_sub ?_
      refine ev_use (ev_var rfl) ?_
      refine ev_use ev_c ?_
      obtain ⟨xs_25, e_xs_25, hm⟩ := bindS hm
      obtain ⟨j_26, hj_27, ha_28, hl_29⟩ := set_all (All2.ofInt _ G0) rfl e_xs_25
      refine set_hw (W.at w0 0) hj_27 ?_
      have hl_30 : xs_25.length ≤ sizeLine := by rw [hl_29]; exact h_6
      have w_31 : W H G0 [a_3] _ [(a_3, .lst ((pot_1.map V.int).set j_26 (V.int t_24)))] _ := W.write w0 0 rfl (.lst ((pot_1.map V.int).set j_26 (V.int t_24)))
      have q_33 := All2.int ha_28
      have w_32 : W H G0 [a_3] _ [(a_3, .lst (xs_25.map V.int))] _ := W.recell w_31 (by rw [← q_33])
      refine cps_ret ?_
      refine ev_use (ev_var rfl) ?_
      have er := (someI hm).symm
      subst er
      exact hq _ _ _ (W.post w_32) rfl (W.at w_32 0) hl_30
    have hm := iteF' hm hb_14
    refine cps_nextR ?_
    refine cps_asgG ?_
    obtain ⟨t_34, e_t_34, hm⟩ := bindS hm
    obtain ⟨v_35, r_36, k_37⟩ := k_idxC (K := K) (W.at w0 0) (All2.ofInt _ G0) e_t_34
    obtain rfl := r_36
    refine ev_use (ev_op (ev_op (ev_op (ev_op (ev_var rfl) ev_c k_37) ev_c (k_mulC _ _ (Or.inr ⟨by decide, by decide⟩))) ev_c (k_add _ _)) ev_c (k_modC _ _ (by decide +kernel))) ?_
    refine cps_sub ?_
    refine ev_use (ev_var rfl) ?_
    refine ev_use ev_c ?_
    obtain ⟨xs_38, e_xs_38, hm⟩ := bindS hm
    obtain ⟨j_39, hj_40, ha_41, hl_42⟩ := set_all (All2.ofInt _ G0) rfl e_xs_38
    refine set_hw (W.at w0 0) hj_40 ?_
    have hl_43 : xs_38.length ≤ sizeLine := by rw [hl_42]; exact h_6
    have w_44 : W H G0 [a_3] _ [(a_3, .lst ((pot_1.map V.int).set j_39 (V.int (((t_34 * (69621)) + (12345)) % (2147483647)))))] _ := W.write w0 0 rfl (.lst ((pot_1.map V.int).set j_39 (V.int (((t_34 * (69621)) + (12345)) % (2147483647)))))
    have q_46 := All2.int ha_41
    have w_45 : W H G0 [a_3] _ [(a_3, .lst (xs_38.map V.int))] _ := W.recell w_44 (by rw [← q_46])
    refine cps_ret ?_
    obtain ⟨t_47, e_t_47, hm⟩ := bindS hm
    obtain ⟨v_48, r_49, k_50⟩ := k_idxC (K := K) (W.at w_45 0) (All2.ofInt _ G0) e_t_47
    obtain rfl := r_49
    obtain ⟨t_51, e_t_51, hm⟩ := bindS hm
    obtain ⟨v_52, r_53, k_54⟩ := k_idxC (K := K) (W.at w_45 0) (All2.ofInt _ G0) e_t_51
    obtain rfl := r_53
    obtain ⟨t_55, e_t_55, hm⟩ := bindS hm
    obtain ⟨t_56, e_t_56, hm⟩ := bindS hm
    refine ev_use (ev_op (ev_op (ev_op (ev_op (ev_op (ev_var rfl) ev_c k_50) (ev_op (ev_var rfl) ev_c k_54) (k_mul e_t_55)) ev_c (k_modC _ _ (by decide +kernel))) ev_c (k_fdivC _ _ ⟨by decide, by decide⟩)) (ev_var rfl) (k_mod e_t_56)) ?_
    have er := (someI hm).symm
    subst er
    exact hq _ _ _ (W.post w_45) rfl (W.at w_45 0) hl_43

theorem sc_law_grown : FnScope ["_law_pot_here", "_law_some", "_law_size", "_law_early", "_law_late"] ["_law_pot_here", "_law_some", "_law_size"] (defScope s2) := ⟨rfl, rfl, rfl, by decide +kernel, rfl, by decide +kernel, by decide +kernel⟩
def sp_law_grown (K : PySem.W.Frag) : Sp := fun vs H Q E => ∃ (a_3 : Addr) (pot_1 : (List Int)) (some_7 : (List (List Nat))) (v_8 : V) (size_10 : Int) (v_11 : V) (G : Hp) (r : ((List Nat) × (List Int))), vs = [.ref a_3, v_8, v_11] ∧ L2.Same G H ∧ G a_3 = none ∧ H a_3 = some (.lst (pot_1.map V.int)) ∧ pot_1.length ≤ sizeLine ∧ (pL pS) some_7 v_8 G ∧ pI size_10 v_11 G ∧ m_law_grown pot_1 some_7 size_10 = some r ∧ (∀ v G1 H1, Post [a_3] G H G1 H1 → pS r.1 v G1 → H1 a_3 = some (.lst (r.2.map V.int)) → r.2.length ≤ sizeLine → Q v H1)
theorem ok_law_grown (T : Txt K mg fa fd) : FnOk P w K mg base CX0 2 (fa 2) (fd 2) ["_law_pot_here", "_law_some", "_law_size"] (sp_law_grown K) := by
  refine T.f2.ok sc_law_grown (fun vs H Q E h => ?_) (fun cdv A outer s H vs Q E hr h => ?_)
  · obtain ⟨_, _, _, _, _, _, _, _, rfl, _⟩ := h; rfl
  · obtain ⟨a_3, pot_1, some_7, v_8, size_10, v_11, G0, r0, rfl, hs0, h_4, h_5, h_6, h_9, h_12, hm, hq⟩ := h
    obtain rfl := h_12
    refine ⟨_, (pss_cons (ps_par (i := 3) (j := 4) (by rfl) sc_law_grown.nd rfl rfl (by decide) rfl rfl (pa_cons (pe_ix (ix_listK (K := K) rfl) (pv 1) (pe_un un_neg pe_int) (fun _ _ => rfl)) (pa_cons (pe_ix (ix_listK (K := K) rfl) (pv 1) pe_int (fun _ _ => rfl)) pa_nil)) (by rfl))
      (pss_cons (ps_while PassesOwn.never (pt_cmpR op_lt (pe_callB call_lenS (by rfl) T.n_len PySem.boot_len (pa_cons (pv 4) pa_nil)) (pv 2) (nomark _)) (pss_cons (ps_par (i := 3) (j := 4) (by rfl) sc_law_grown.nd rfl rfl (by decide) rfl rfl (pa_cons (pv 4) (pa_cons (pe_op op_catS (pe_op op_repS (pv 4) (pe_op op_add pe_int (pe_call (ok_law_take T) (hr.mono (by decide)) (by rfl) T.g1 T.f1.kp T.b1 .nil pass0 (pa_cons (pv 0) (pa_cons pe_int pa_nil))))) (pv 3)) pa_nil)) (by rfl))
      pss_nil))
      (pss_cons (ps_ret (pe_slice sl_str (pv 4) po_none (po_some (pv 2))))
      pss_nil))), ?_⟩
    have w0 : W H G0 [a_3] G0 [(a_3, .lst (pot_1.map V.int))] H := W.init1 hs0 h_5 h_4
    refine st_conv (σ' := [some (V.ref a_3), some v_8, some (V.int size_10), none, none]) rfl ?_
    refine cps_par (fun x y => [some (V.ref a_3), some v_8, some (V.int size_10), some x, some y]) (fun _ _ => rfl) ?_
    refine cps_cons ?_
    obtain ⟨t_13, e_t_13, hm⟩ := bindS hm
    obtain ⟨v_14, r_15, k_16⟩ := k_idxG (K := K) h_9 w0.sub e_t_13
    obtain ⟨rfl, ok_17⟩ := r_15
    refine ev_use (ev_op (ev_var rfl) (ev_un ev_c (k_neg _)) k_16) ?_
    refine cps_cons ?_
    obtain ⟨t_18, e_t_18, hm⟩ := bindS hm
    obtain ⟨v_19, r_20, k_21⟩ := k_idxG (K := K) h_9 w0.sub e_t_18
    obtain ⟨rfl, ok_22⟩ := r_20
    refine ev_use (ev_op (ev_var rfl) ev_c k_21) ?_
    refine cps_nil ?_
    refine ⟨_, _, rfl, ?_⟩
    obtain ⟨res_23, e_res_23, hm⟩ := bindS hm
    refine while_f e_res_23 (fun s1 σ1 H1 => ∃ G1, σ1 = [some (V.ref a_3), some v_8, some (V.int size_10), some (vS s1.1), some (vS s1.2.1)] ∧ L2.Same G0 G1 ∧ W H G0 [a_3] G1 [(a_3, .lst (s1.2.2.map V.int))] H1 ∧ OkS s1.1 ∧ OkS s1.2.1 ∧ s1.2.2.length ≤ sizeLine) ⟨_, rfl, (L2.Same.refl _), w0, ok_17, ok_22, h_6⟩ ?_ ?_ ?_
    · intro s_24 b_25 sg_26 H_27 hm hP_28 Q' kq_29
      obtain ⟨G_33, rfl, s_34, w_35, ok_30, ok_31, hl_32⟩ := hP_28
      refine et_use (et_test (ev_op (ev_cb (ea_cons (ev_var rfl) ea_nil) (kk_lenS ok_31)) (ev_var rfl) (k_ltI _ _))) ?_
      obtain rfl := someI hm
      exact kq_29 _ ⟨_, rfl, s_34, w_35, ok_30, ok_31, hl_32⟩
    · intro s_36 c_37 sg_38 H_39 hc_40 hm hP_42 N_43 kn_44
      obtain ⟨G_49, rfl, s_50, w_51, ok_46, ok_47, hl_48⟩ := hP_42
      refine cps_par (fun x y => [some (V.ref a_3), some v_8, some (V.int size_10), some x, some y]) (fun _ _ => rfl) ?_
      refine cps_cons ?_
      refine ev_use (ev_var rfl) ?_
      refine cps_cons ?_
      refine cps_op ?_
      refine cps_op ?_
      refine ev_use (ev_var rfl) ?_
      refine cps_op ?_
      refine ev_use ev_c ?_
      refine cps_call ?_
      refine cps_cons ?_
      refine ev_use (ev_var rfl) ?_
      refine cps_cons ?_
      refine ev_use ev_c ?_
      refine cps_nil ?_
      obtain ⟨r_52, e_r_52, hm⟩ := bindS hm
      refine ⟨a_3, s_36.2.2, (3), (V.int (3)), _, r_52, rfl, w_51.sub, (W.out w_51 _ (List.Mem.head _)), (W.at w_51 0), hl_48, rfl, e_r_52, fun v_58 G_53 H_55 q_54 r_59 hc_60 hcl_61 => ?_⟩
      have w_56 : W H G0 [a_3] G_53 [(a_3, .lst (r_52.2.map V.int))] H_55 := W.callM w_51 0 rfl q_54 hc_60
      obtain rfl := r_59
      refine k_add _ _ _ ?_
      obtain ⟨t_62, e_t_62, hm⟩ := bindS hm
      refine k_rep ok_47 e_t_62 _ ?_
      refine ev_use (ev_var rfl) ?_
      obtain ⟨t_63, e_t_63, hm⟩ := bindS hm
      refine kk_cat e_t_63 _ ?_
      refine cps_nil ?_
      refine ⟨_, _, rfl, ?_⟩
      refine cps_next ?_
      obtain rfl := someI hm
      exact kn_44 _ _ ⟨_, rfl, (L2.Same.trans s_50 (Post.base q_54)), w_56, ok_47, (OkS.cat (OkS.rep ok_47 e_t_62) ok_46 e_t_63), hcl_61⟩
    rintro _ H_64 ⟨G_68, rfl, s_69, w_70, ok_65, ok_66, hl_67⟩
    refine cps_ret ?_
    refine ev_use (ev_sl (ev_var rfl) eo_none (eo_some (ev_var rfl)) (k_cutS ok_66)) ?_
    have er := (someI hm).symm
    subst er
    exact hq _ _ _ (W.post w_70) ⟨rfl, (OkS.cut ok_66 _ _)⟩ (W.at w_70 0) hl_67

theorem sc_law_copies : FnScope ["_law_pot_here", "_law_some", "_law_size", "_law_row_here", "_law_begin"] ["_law_pot_here", "_law_some", "_law_size"] (defScope s3) := ⟨rfl, rfl, rfl, by decide +kernel, rfl, by decide +kernel, by decide +kernel⟩
def sp_law_copies (K : PySem.W.Frag) : Sp := fun vs H Q E => ∃ (a_3 : Addr) (pot_1 : (List Int)) (some_7 : (List (List Nat))) (v_8 : V) (size_10 : Int) (v_11 : V) (G : Hp) (r : ((List Nat) × (List Int))), vs = [.ref a_3, v_8, v_11] ∧ L2.Same G H ∧ G a_3 = none ∧ H a_3 = some (.lst (pot_1.map V.int)) ∧ pot_1.length ≤ sizeLine ∧ (pL pS) some_7 v_8 G ∧ pI size_10 v_11 G ∧ m_law_copies pot_1 some_7 size_10 = some r ∧ (∀ v G1 H1, Post [a_3] G H G1 H1 → pS r.1 v G1 → H1 a_3 = some (.lst (r.2.map V.int)) → r.2.length ≤ sizeLine → Q v H1)
theorem ok_law_copies (T : Txt K mg fa fd) : FnOk P w K mg base CX0 2 (fa 3) (fd 3) ["_law_pot_here", "_law_some", "_law_size"] (sp_law_copies K) := by
  refine T.f3.ok sc_law_copies (fun vs H Q E h => ?_) (fun cdv A outer s H vs Q E hr h => ?_)
  · obtain ⟨_, _, _, _, _, _, _, _, rfl, _⟩ := h; rfl
  · obtain ⟨a_3, pot_1, some_7, v_8, size_10, v_11, G0, r0, rfl, hs0, h_4, h_5, h_6, h_9, h_12, hm, hq⟩ := h
    obtain rfl := h_12
    refine ⟨_, (pss_cons (ps_set (i := 3) sc_law_copies.nd rfl (Or.inl rfl) pe_str)
      (pss_cons (ps_while PassesOwn.never (pt_cmpR op_lt (pe_callB call_lenS (by rfl) T.n_len PySem.boot_len (pa_cons (pv 3) pa_nil)) (pv 2) (nomark _)) (pss_cons (ps_set (i := 4) sc_law_copies.nd rfl (Or.inl rfl) (pe_call (ok_law_take T) (hr.mono (by decide)) (by rfl) T.g1 T.f1.kp T.b1 .nil pass0 (pa_cons (pv 0) (pa_cons (pe_op op_add (pe_callB call_lenS (by rfl) T.n_len PySem.boot_len (pa_cons (pv 3) pa_nil)) pe_int) pa_nil))))
      (pss_cons (ps_set (i := 3) sc_law_copies.nd rfl (Or.inl rfl) (pe_op op_catS (pe_op op_catS (pv 3) (pe_slice sl_str (pv 3) (po_some (pv 4)) (po_some (pe_op op_add (pv 4) (pe_call (ok_law_take T) (hr.mono (by decide)) (by rfl) T.g1 T.f1.kp T.b1 .nil pass0 (pa_cons (pv 0) (pa_cons pe_int pa_nil))))))) (pe_ix (ix_listK (K := K) rfl) (pv 1) (pe_call (ok_law_take T) (hr.mono (by decide)) (by rfl) T.g1 T.f1.kp T.b1 .nil pass0 (pa_cons (pv 0) (pa_cons (pe_callB (call_lenQ (K := K) rfl) (by rfl) T.n_len PySem.boot_len (pa_cons (pv 1) pa_nil)) pa_nil))) (fun _ _ => rfl))))
      pss_nil)))
      (pss_cons (ps_ret (pe_slice sl_str (pv 3) po_none (po_some (pv 2))))
      pss_nil))), ?_⟩
    have w0 : W H G0 [a_3] G0 [(a_3, .lst (pot_1.map V.int))] H := W.init1 hs0 h_5 h_4
    refine st_conv (σ' := [some (V.ref a_3), some v_8, some (V.int size_10), none, none]) rfl ?_
    refine cps_asg (fun x => [some (V.ref a_3), some v_8, some (V.int size_10), some x, none]) (fun _ => rfl) ?_
    refine ev_use (ev_str lit0) ?_
    obtain ⟨res_13, e_res_13, hm⟩ := bindS hm
    refine while_f e_res_13 (fun s1 σ1 H1 => ∃ o1_ : Option V, ∃ G1, σ1 = [some (V.ref a_3), some v_8, some (V.int size_10), some (vS s1.1), o1_] ∧ L2.Same G0 G1 ∧ W H G0 [a_3] G1 [(a_3, .lst (s1.2.map V.int))] H1 ∧ OkS s1.1 ∧ s1.2.length ≤ sizeLine) ⟨_, _, rfl, (L2.Same.refl _), w0, lit0_ok, h_6⟩ ?_ ?_ ?_
    · intro s_14 b_15 sg_16 H_17 hm hP_18 Q' kq_19
      obtain ⟨o_20, G_23, rfl, s_24, w_25, ok_21, hl_22⟩ := hP_18
      refine et_use (et_test (ev_op (ev_cb (ea_cons (ev_var rfl) ea_nil) (kk_lenS ok_21)) (ev_var rfl) (k_ltI _ _))) ?_
      obtain rfl := someI hm
      exact kq_19 _ ⟨_, _, rfl, s_24, w_25, ok_21, hl_22⟩
    · intro s_26 c_27 sg_28 H_29 hc_30 hm hP_32 N_33 kn_34
      obtain ⟨o_36, G_39, rfl, s_40, w_41, ok_37, hl_38⟩ := hP_32
      refine cps_asg (fun x => [some (V.ref a_3), some v_8, some (V.int size_10), some (vS s_26.1), some x]) (fun _ => rfl) ?_
      refine cps_call ?_
      refine cps_cons ?_
      refine ev_use (ev_var rfl) ?_
      refine cps_cons ?_
      refine ev_use (ev_op (ev_cb (ea_cons (ev_var rfl) ea_nil) (kk_lenS ok_37)) ev_c (k_add _ _)) ?_
      refine cps_nil ?_
      obtain ⟨r_42, e_r_42, hm⟩ := bindS hm
      refine ⟨a_3, s_26.2, (((s_26.1).length : Int) + (1)), (V.int (((s_26.1).length : Int) + (1))), _, r_42, rfl, w_41.sub, (W.out w_41 _ (List.Mem.head _)), (W.at w_41 0), hl_38, rfl, e_r_42, fun v_48 G_43 H_45 q_44 r_49 hc_50 hcl_51 => ?_⟩
      have w_46 : W H G0 [a_3] G_43 [(a_3, .lst (r_42.2.map V.int))] H_45 := W.callM w_41 0 rfl q_44 hc_50
      obtain rfl := r_49
      refine cps_asg (fun x => [some (V.ref a_3), some v_8, some (V.int size_10), some x, some (V.int r_42.1)]) (fun _ => rfl) ?_
      refine cps_op ?_
      refine cps_op ?_
      refine ev_use (ev_var rfl) ?_
      refine cps_sl ?_
      refine ev_use (ev_var rfl) ?_
      refine cps_part ?_
      refine ev_use (ev_var rfl) ?_
      refine ⟨_, rfl, ?_⟩
      refine cps_part ?_
      refine cps_op ?_
      refine ev_use (ev_var rfl) ?_
      refine cps_call ?_
      refine cps_cons ?_
      refine ev_use (ev_var rfl) ?_
      refine cps_cons ?_
      refine ev_use ev_c ?_
      refine cps_nil ?_
      obtain ⟨r_52, e_r_52, hm⟩ := bindS hm
      refine ⟨a_3, r_42.2, (8), (V.int (8)), _, r_52, rfl, w_46.sub, (W.out w_46 _ (List.Mem.head _)), (W.at w_46 0), hcl_51, rfl, e_r_52, fun v_58 G_53 H_55 q_54 r_59 hc_60 hcl_61 => ?_⟩
      have w_56 : W H G0 [a_3] G_53 [(a_3, .lst (r_52.2.map V.int))] H_55 := W.callM w_46 0 rfl q_54 hc_60
      obtain rfl := r_59
      refine k_add _ _ _ ?_
      refine ⟨_, rfl, ?_⟩
      refine k_cutS ok_37 _ ?_
      obtain ⟨t_62, e_t_62, hm⟩ := bindS hm
      refine kk_cat e_t_62 _ ?_
      refine cps_op ?_
      refine ev_use (ev_var rfl) ?_
      refine cps_call ?_
      refine cps_cons ?_
      refine ev_use (ev_var rfl) ?_
      refine cps_cons ?_
      refine ev_use (ev_cb (ea_cons (ev_var rfl) ea_nil) (kk_lenL (K := K) (Mn.mono (Mn.mono h_9 (L2.Same.trans s_40 (L2.Same.trans (Post.base q_44) (Post.base q_54)))) w_56.sub))) ?_
      refine cps_nil ?_
      obtain ⟨r_63, e_r_63, hm⟩ := bindS hm
      refine ⟨a_3, r_52.2, ((some_7).length : Int), (V.int ((some_7).length : Int)), _, r_63, rfl, w_56.sub, (W.out w_56 _ (List.Mem.head _)), (W.at w_56 0), hcl_61, rfl, e_r_63, fun v_69 G_64 H_66 q_65 r_70 hc_71 hcl_72 => ?_⟩
      have w_67 : W H G0 [a_3] G_64 [(a_3, .lst (r_63.2.map V.int))] H_66 := W.callM w_56 0 rfl q_65 hc_71
      obtain rfl := r_70
      obtain ⟨t_73, e_t_73, hm⟩ := bindS hm
      obtain ⟨v_74, r_75, k_76⟩ := k_idxG (K := K) (Mn.mono h_9 (L2.Same.trans s_40 (L2.Same.trans (Post.base q_44) (L2.Same.trans (Post.base q_54) (Post.base q_65))))) w_67.sub e_t_73
      obtain ⟨rfl, ok_77⟩ := r_75
      refine k_76 _ ?_
      obtain ⟨t_78, e_t_78, hm⟩ := bindS hm
      refine kk_cat e_t_78 _ ?_
      refine cps_next ?_
      obtain rfl := someI hm
      exact kn_34 _ _ ⟨_, _, rfl, (L2.Same.trans s_40 (L2.Same.trans (Post.base q_44) (L2.Same.trans (Post.base q_54) (Post.base q_65)))), w_67, (OkS.cat (OkS.cat ok_37 (OkS.cut ok_37 _ _) e_t_62) ok_77 e_t_78), hcl_72⟩
    rintro _ H_79 ⟨o_80, G_83, rfl, s_84, w_85, ok_81, hl_82⟩
    refine cps_ret ?_
    refine ev_use (ev_sl (ev_var rfl) eo_none (eo_some (ev_var rfl)) (k_cutS ok_81)) ?_
    have er := (someI hm).symm
    subst er
    exact hq _ _ _ (W.post w_85) ⟨rfl, (OkS.cut ok_81 _ _)⟩ (W.at w_85 0) hl_82

theorem sc_law_row : FnScope ["_law_pot_here", "_law_most", "_law_way", "_law_size", "_law_first_here", "_law_step", "_law_many", "_law_some", "_law_part", "_law_row_here", "_law_at", "_law_k"] ["_law_pot_here", "_law_most"] (defScope s4) := ⟨rfl, rfl, rfl, by decide +kernel, rfl, by decide +kernel, by decide +kernel⟩
def sp_law_row (K : PySem.W.Frag) : Sp := fun vs H Q E => ∃ (a_3 : Addr) (pot_1 : (List Int)) (most_7 : Int) (v_8 : V) (G : Hp) (r : ((List Nat) × (List Int))), vs = [.ref a_3, v_8] ∧ L2.Same G H ∧ G a_3 = none ∧ H a_3 = some (.lst (pot_1.map V.int)) ∧ pot_1.length ≤ sizeLine ∧ pI most_7 v_8 G ∧ m_law_row pot_1 most_7 = some r ∧ (∀ v G1 H1, Post [a_3] G H G1 H1 → pS r.1 v G1 → H1 a_3 = some (.lst (r.2.map V.int)) → r.2.length ≤ sizeLine → Q v H1)
theorem ok_law_row (T : Txt K mg fa fd) : FnOk P w K mg base CX0 3 (fa 4) (fd 4) ["_law_pot_here", "_law_most"] (sp_law_row K) := by
  refine T.f4.ok sc_law_row (fun vs H Q E h => ?_) (fun cdv A outer s H vs Q E hr h => ?_)
  · obtain ⟨_, _, _, _, _, _, rfl, _⟩ := h; rfl
  · obtain ⟨a_3, pot_1, most_7, v_8, G0, r0, rfl, hs0, h_4, h_5, h_6, h_9, hm, hq⟩ := h
    obtain rfl := h_9
    refine ⟨_, (pss_cons (ps_set (i := 2) sc_law_row.nd rfl (Or.inl rfl) (pe_call (ok_law_take T) (hr.mono (by decide)) (by rfl) T.g1 T.f1.kp T.b1 .nil pass0 (pa_cons (pv 0) (pa_cons pe_int pa_nil))))
      (pss_cons (ps_set (i := 3) sc_law_row.nd rfl (Or.inl rfl) (pe_call (ok_law_take T) (hr.mono (by decide)) (by rfl) T.g1 T.f1.kp T.b1 .nil pass0 (pa_cons (pv 0) (pa_cons (pe_op op_add (pv 1) pe_int) pa_nil))))
      (pss_cons (ps_set (i := 4) sc_law_row.nd rfl (Or.inr rfl) (pe_call (ok_law_take T) (hr.mono (by decide)) (by rfl) T.g1 T.f1.kp T.b1 .nil pass0 (pa_cons (pv 0) (pa_cons pe_int pa_nil))))
      (pss_cons (ps_set (i := 5) sc_law_row.nd rfl (Or.inr rfl) (pe_ix (ix_listK (K := K) rfl) (pe_lst (pa_cons pe_int (pa_cons pe_int (pa_cons pe_int (pa_cons pe_int (pa_cons pe_int pa_nil)))))) (pe_call (ok_law_take T) (hr.mono (by decide)) (by rfl) T.g1 T.f1.kp T.b1 .nil pass0 (pa_cons (pv 0) (pa_cons pe_int pa_nil))) (fun _ _ => rfl)))
      (pss_cons (ps_set (i := 6) sc_law_row.nd rfl (Or.inl rfl) (pe_ix (ix_listK (K := K) rfl) (pe_lst (pa_cons (pe_op op_add pe_int (pe_call (ok_law_take T) (hr.mono (by decide)) (by rfl) T.g1 T.f1.kp T.b1 .nil pass0 (pa_cons (pv 0) (pa_cons pe_int pa_nil)))) (pa_cons pe_int pa_nil))) (pe_callTy call_int1I (by rfl) T.n_int (by decide +kernel) (pa_cons (pe_cmpR op_eq (pe_call (ok_law_take T) (hr.mono (by decide)) (by rfl) T.g1 T.f1.kp T.b1 .nil pass0 (pa_cons (pv 0) (pa_cons pe_int pa_nil))) pe_int (nomark _)) pa_nil)) (fun _ _ => rfl)))
      (pss_cons (ps_set (i := 7) sc_law_row.nd rfl (Or.inr rfl) (pe_lc (own := [("_law_k", 11)]) rfl sc_law_row.nd (pi_range1 (by rfl) T.n_range (pa_cons (pv 6) pa_nil)) (blkOk_by (N := ["_law_pot_here", "_law_most", "_law_way", "_law_size", "_law_first_here", "_law_step", "_law_many", "_law_some", "_law_part", "_law_row_here", "_law_at", "_law_k"]) (sc := (defScope s4)) (by decide +kernel)) (fun _ _ _ _ _ => (pg_name (i := 11) sc_law_row.nd rfl (Or.inl rfl))) (fun _ _ _ _ _ => pts_nil) (fun _ _ _ _ _ => (pe_ix ix_str pe_str (pe_op op_mod (pe_op op_add (pv 4) (pe_op op_mulW (pv 5) (pv 11))) pe_int) (fun _ _ => rfl)))))
      (pss_cons (ps_if (pt_cmpR op_eq (pv 2) pe_int (nomark _)) (pss_cons (ps_ret (pe_op op_repS (pe_ix (ix_listK (K := K) rfl) (pv 7) pe_int (fun _ _ => rfl)) (pv 3)))
      pss_nil) pss_nil)
      (pss_cons (ps_if (pt_cmpR op_eq (pv 2) pe_int (nomark _)) (pss_cons (ps_ret (pe_joinN (K := K) rfl (pe_join pe_str (pe_lc (own := [("_law_k", 11)]) rfl sc_law_row.nd (pi_range1 (by rfl) T.n_range (pa_cons (pv 3) pa_nil)) (blkOk_by (N := ["_law_pot_here", "_law_most", "_law_way", "_law_size", "_law_first_here", "_law_step", "_law_many", "_law_some", "_law_part", "_law_row_here", "_law_at", "_law_k"]) (sc := (defScope s4)) (by decide +kernel)) (fun _ _ _ _ _ => (pg_name (i := 11) sc_law_row.nd rfl (Or.inl rfl))) (fun _ _ _ _ _ => pts_nil) (fun _ _ _ _ _ => (pe_ix (ix_listK (K := K) rfl) (pv 7) (pe_call (ok_law_take T) (hr.mono (by decide)) (by rfl) T.g1 T.f1.kp T.b1 .nil pass0 (pa_cons (pv 0) (pa_cons (pe_callB (call_lenQ (K := K) rfl) (by rfl) T.n_len PySem.boot_len (pa_cons (pv 7) pa_nil)) pa_nil))) (fun _ _ => rfl)))))))
      pss_nil) pss_nil)
      (pss_cons (ps_if (pt_cmpR op_eq (pv 2) pe_int (nomark _)) (pss_cons (ps_ret (pe_joinN (K := K) rfl (pe_join pe_str (pe_lc (own := [("_law_k", 11)]) rfl sc_law_row.nd (pi_range1 (by rfl) T.n_range (pa_cons (pv 3) pa_nil)) (blkOk_by (N := ["_law_pot_here", "_law_most", "_law_way", "_law_size", "_law_first_here", "_law_step", "_law_many", "_law_some", "_law_part", "_law_row_here", "_law_at", "_law_k"]) (sc := (defScope s4)) (by decide +kernel)) (fun _ _ _ _ _ => (pg_name (i := 11) sc_law_row.nd rfl (Or.inl rfl))) (fun _ _ _ _ _ => pts_nil) (fun _ _ _ _ _ => (pe_ix (ix_listK (K := K) rfl) (pv 7) (pe_op op_mulW (pe_op op_sub (pe_callB (call_lenQ (K := K) rfl) (by rfl) T.n_len PySem.boot_len (pa_cons (pv 7) pa_nil)) pe_int) (pe_callTy call_int1I (by rfl) T.n_int (by decide +kernel) (pa_cons (pe_cmpR op_eq (pe_call (ok_law_take T) (hr.mono (by decide)) (by rfl) T.g1 T.f1.kp T.b1 .nil pass0 (pa_cons (pv 0) (pa_cons pe_int pa_nil))) pe_int (nomark _)) pa_nil))) (fun _ _ => rfl)))))))
      pss_nil) pss_nil)
      (pss_cons (ps_if (pt_cmpR op_eq (pv 2) pe_int (nomark _)) (pss_cons (ps_ret (pe_call (ok_law_grown T) (hr.mono (by decide)) (by rfl) T.g2 T.f2.kp T.b2 .nil pass0 (pa_cons (pv 0) (pa_cons (pv 7) (pa_cons (pv 3) pa_nil)))))
      pss_nil) pss_nil)
      (pss_cons (ps_if (pt_cmpR op_gt (pv 2) pe_int (nomark _)) (pss_cons (ps_ret (pe_call (ok_law_copies T) (hr.mono (by decide)) (by rfl) T.g3 T.f3.kp T.b3 .nil pass0 (pa_cons (pv 0) (pa_cons (pv 7) (pa_cons (pv 3) pa_nil)))))
      pss_nil) pss_nil)
      (pss_cons (ps_set (i := 8) sc_law_row.nd rfl (Or.inl rfl) (pe_joinN (K := K) rfl (pe_join pe_str (pe_lc (own := [("_law_k", 11)]) rfl sc_law_row.nd (pi_range1 (by rfl) T.n_range (pa_cons (pe_op op_add pe_int (pe_call (ok_law_take T) (hr.mono (by decide)) (by rfl) T.g1 T.f1.kp T.b1 .nil pass0 (pa_cons (pv 0) (pa_cons pe_int pa_nil)))) pa_nil)) (blkOk_by (N := ["_law_pot_here", "_law_most", "_law_way", "_law_size", "_law_first_here", "_law_step", "_law_many", "_law_some", "_law_part", "_law_row_here", "_law_at", "_law_k"]) (sc := (defScope s4)) (by decide +kernel)) (fun _ _ _ _ _ => (pg_name (i := 11) sc_law_row.nd rfl (Or.inl rfl))) (fun _ _ _ _ _ => pts_nil) (fun _ _ _ _ _ => (pe_ix (ix_listK (K := K) rfl) (pv 7) (pe_call (ok_law_take T) (hr.mono (by decide)) (by rfl) T.g1 T.f1.kp T.b1 .nil pass0 (pa_cons (pv 0) (pa_cons (pe_callB (call_lenQ (K := K) rfl) (by rfl) T.n_len PySem.boot_len (pa_cons (pv 7) pa_nil)) pa_nil))) (fun _ _ => rfl)))))))
      (pss_cons (ps_set (i := 9) sc_law_row.nd rfl (Or.inl rfl) (pe_slice sl_str (pe_op op_repS (pv 8) (pe_op op_add (pv 3) pe_int)) po_none (po_some (pv 3))))
      (pss_cons (ps_set (i := 10) sc_law_row.nd rfl (Or.inl rfl) (pe_call (ok_law_take T) (hr.mono (by decide)) (by rfl) T.g1 T.f1.kp T.b1 .nil pass0 (pa_cons (pv 0) (pa_cons (pe_op op_add (pv 3) pe_int) pa_nil))))
      (pss_cons (ps_if (PW.pt (pw_or (pt_cmpR op_eq (pv 2) pe_int (nomark _)) (pw_or1 (pt_cmpR op_eq (pv 10) (pv 3) (nomark _))))) (pss_cons (ps_ret (pv 9))
      pss_nil) pss_nil)
      (pss_cons (ps_ret (pe_op op_catS (pe_op op_catS (pe_slice sl_str (pv 9) po_none (po_some (pv 10))) (pe_ix (ix_listK (K := K) rfl) (pv 7) (pe_call (ok_law_take T) (hr.mono (by decide)) (by rfl) T.g1 T.f1.kp T.b1 .nil pass0 (pa_cons (pv 0) (pa_cons (pe_callB (call_lenQ (K := K) rfl) (by rfl) T.n_len PySem.boot_len (pa_cons (pv 7) pa_nil)) pa_nil))) (fun _ _ => rfl))) (pe_slice sl_str (pv 9) (po_some (pe_op op_add (pv 10) pe_int)) po_none)))
      pss_nil)))))))))))))))), ?_⟩
    have w0 : W H G0 [a_3] G0 [(a_3, .lst (pot_1.map V.int))] H := W.init1 hs0 h_5 h_4
    refine st_conv (σ' := [some (V.ref a_3), some (V.int most_7), none, none, none, none, none, none, none, none, none, none]) rfl ?_
    refine cps_asg (fun x => [some (V.ref a_3), some (V.int most_7), some x, none, none, none, none, none, none, none, none, none]) (fun _ => rfl) ?_
    refine cps_call ?_
    refine cps_cons ?_
    refine ev_use (ev_var rfl) ?_
    refine cps_cons ?_
    refine ev_use ev_c ?_
    refine cps_nil ?_
    obtain ⟨r_10, e_r_10, hm⟩ := bindS hm
    refine ⟨a_3, pot_1, (8), (V.int (8)), _, r_10, rfl, w0.sub, (W.out w0 _ (List.Mem.head _)), (W.at w0 0), h_6, rfl, e_r_10, fun v_16 G_11 H_13 q_12 r_17 hc_18 hcl_19 => ?_⟩
    have w_14 : W H G0 [a_3] G_11 [(a_3, .lst (r_10.2.map V.int))] H_13 := W.callM w0 0 rfl q_12 hc_18
    obtain rfl := r_17
    refine cps_asg (fun x => [some (V.ref a_3), some (V.int most_7), some (V.int r_10.1), some x, none, none, none, none, none, none, none, none]) (fun _ => rfl) ?_
    refine cps_call ?_
    refine cps_cons ?_
    refine ev_use (ev_var rfl) ?_
    refine cps_cons ?_
    refine ev_use (ev_op (ev_var rfl) ev_c (k_add _ _)) ?_
    refine cps_nil ?_
    obtain ⟨r_20, e_r_20, hm⟩ := bindS hm
    refine ⟨a_3, r_10.2, (most_7 + (1)), (V.int (most_7 + (1))), _, r_20, rfl, w_14.sub, (W.out w_14 _ (List.Mem.head _)), (W.at w_14 0), hcl_19, rfl, e_r_20, fun v_26 G_21 H_23 q_22 r_27 hc_28 hcl_29 => ?_⟩
    have w_24 : W H G0 [a_3] G_21 [(a_3, .lst (r_20.2.map V.int))] H_23 := W.callM w_14 0 rfl q_22 hc_28
    obtain rfl := r_27
    refine cps_asg (fun x => [some (V.ref a_3), some (V.int most_7), some (V.int r_10.1), some (V.int r_20.1), some x, none, none, none, none, none, none, none]) (fun _ => rfl) ?_
    refine cps_call ?_
    refine cps_cons ?_
    refine ev_use (ev_var rfl) ?_
    refine cps_cons ?_
    refine ev_use ev_c ?_
    refine cps_nil ?_
    obtain ⟨r_30, e_r_30, hm⟩ := bindS hm
    refine ⟨a_3, r_20.2, (26), (V.int (26)), _, r_30, rfl, w_24.sub, (W.out w_24 _ (List.Mem.head _)), (W.at w_24 0), hcl_29, rfl, e_r_30, fun v_36 G_31 H_33 q_32 r_37 hc_38 hcl_39 => ?_⟩
    have w_34 : W H G0 [a_3] G_31 [(a_3, .lst (r_30.2.map V.int))] H_33 := W.callM w_24 0 rfl q_32 hc_38
    obtain rfl := r_37
    refine cps_asg (fun x => [some (V.ref a_3), some (V.int most_7), some (V.int r_10.1), some (V.int r_20.1), some (V.int r_30.1), some x, none, none, none, none, none, none]) (fun _ => rfl) ?_
    refine cps_op ?_
    refine cps_lst ?_
    refine cps_cons ?_
    refine ev_use ev_c ?_
    refine cps_cons ?_
    refine ev_use ev_c ?_
    refine cps_cons ?_
    refine ev_use ev_c ?_
    refine cps_cons ?_
    refine ev_use ev_c ?_
    refine cps_cons ?_
    refine ev_use ev_c ?_
    refine cps_nil ?_
    refine ⟨lenle rfl, fun p_40 hp_40 => ?_⟩
    have ha_41 : All2 pI G_31 [(1), (3), (7), (11), (25)] [(V.int (1)), (V.int (3)), (V.int (7)), (V.int (11)), (V.int (25))] := (All2.cons rfl (All2.cons rfl (All2.cons rfl (All2.cons rfl (All2.cons rfl .nil)))))
    have s_43 := same_lay (o := .lst [(V.int (1)), (V.int (3)), (V.int (7)), (V.int (11)), (V.int (25))]) w_34 hp_40
    have r_44 := pL_new (W.freshG w_34 hp_40) ha_41 (lenle rfl)
    have w_42 := W.lay w_34 hp_40 (.lst [(V.int (1)), (V.int (3)), (V.int (7)), (V.int (11)), (V.int (25))])
    refine cps_call ?_
    refine cps_cons ?_
    refine ev_use (ev_var rfl) ?_
    refine cps_cons ?_
    refine ev_use ev_c ?_
    refine cps_nil ?_
    obtain ⟨r_45, e_r_45, hm⟩ := bindS hm
    refine ⟨a_3, r_30.2, (5), (V.int (5)), _, r_45, rfl, w_42.sub, (W.out w_42 _ (List.Mem.head _)), (W.at w_42 0), hcl_39, rfl, e_r_45, fun v_51 G_46 H_48 q_47 r_52 hc_53 hcl_54 => ?_⟩
    have w_49 : W H G0 [a_3] G_46 [(a_3, .lst (r_45.2.map V.int))] H_48 := W.callM w_42 0 rfl q_47 hc_53
    obtain rfl := r_52
    obtain ⟨t_55, e_t_55, hm⟩ := bindS hm
    obtain ⟨v_56, r_57, k_58⟩ := k_idxG (K := K) (Mn.mono r_44 (Post.base q_47)) w_49.sub e_t_55
    obtain rfl := r_57
    refine k_58 _ ?_
    refine cps_asg (fun x => [some (V.ref a_3), some (V.int most_7), some (V.int r_10.1), some (V.int r_20.1), some (V.int r_30.1), some (V.int t_55), some x, none, none, none, none, none]) (fun _ => rfl) ?_
    refine cps_op ?_
    refine cps_lst ?_
    refine cps_cons ?_
    refine cps_op ?_
    refine ev_use ev_c ?_
    refine cps_call ?_
    refine cps_cons ?_
    refine ev_use (ev_var rfl) ?_
    refine cps_cons ?_
    refine ev_use ev_c ?_
    refine cps_nil ?_
    obtain ⟨r_59, e_r_59, hm⟩ := bindS hm
    refine ⟨a_3, r_45.2, (5), (V.int (5)), _, r_59, rfl, w_49.sub, (W.out w_49 _ (List.Mem.head _)), (W.at w_49 0), hcl_54, rfl, e_r_59, fun v_65 G_60 H_62 q_61 r_66 hc_67 hcl_68 => ?_⟩
    have w_63 : W H G0 [a_3] G_60 [(a_3, .lst (r_59.2.map V.int))] H_62 := W.callM w_49 0 rfl q_61 hc_67
    obtain rfl := r_66
    refine k_add _ _ _ ?_
    refine cps_cons ?_
    refine ev_use ev_c ?_
    refine cps_nil ?_
    refine ⟨lenle rfl, fun p_69 hp_69 => ?_⟩
    have ha_70 : All2 pI G_60 [((1) + r_59.1), (26)] [(V.int ((1) + r_59.1)), (V.int (26))] := (All2.cons rfl (All2.cons rfl .nil))
    have s_72 := same_lay (o := .lst [(V.int ((1) + r_59.1)), (V.int (26))]) w_63 hp_69
    have r_73 := pL_new (W.freshG w_63 hp_69) ha_70 (lenle rfl)
    have w_71 := W.lay w_63 hp_69 (.lst [(V.int ((1) + r_59.1)), (V.int (26))])
    refine cps_cb ?_
    refine cps_cons ?_
    refine cps_op ?_
    refine cps_call ?_
    refine cps_cons ?_
    refine ev_use (ev_var rfl) ?_
    refine cps_cons ?_
    refine ev_use ev_c ?_
    refine cps_nil ?_
    obtain ⟨r_74, e_r_74, hm⟩ := bindS hm
    refine ⟨a_3, r_59.2, (8), (V.int (8)), _, r_74, rfl, w_71.sub, (W.out w_71 _ (List.Mem.head _)), (W.at w_71 0), hcl_68, rfl, e_r_74, fun v_80 G_75 H_77 q_76 r_81 hc_82 hcl_83 => ?_⟩
    have w_78 : W H G0 [a_3] G_75 [(a_3, .lst (r_74.2.map V.int))] H_77 := W.callM w_71 0 rfl q_76 hc_82
    obtain rfl := r_81
    refine ev_use ev_c ?_
    refine (k_eqI _ _) _ ?_
    refine cps_nil ?_
    refine kk_intB _ _ ?_
    obtain ⟨t_84, e_t_84, hm⟩ := bindS hm
    obtain ⟨v_85, r_86, k_87⟩ := k_idxG (K := K) (Mn.mono r_73 (Post.base q_76)) w_78.sub e_t_84
    obtain rfl := r_86
    refine k_87 _ ?_
    refine cps_asg (fun x => [some (V.ref a_3), some (V.int most_7), some (V.int r_10.1), some (V.int r_20.1), some (V.int r_30.1), some (V.int t_55), some (V.int t_84), some x, none, none, none, none]) (fun _ => rfl) ?_
    refine cps_lc ?_
    refine cps_rng1 ?_
    refine cps_cons ?_
    refine ev_use (ev_var rfl) ?_
    refine cps_nil ?_
    obtain ⟨xs_88, e_xs_88, hm⟩ := bindS hm
    obtain ⟨hb_89, hx_91, hl_90⟩ := rng1_ok e_xs_88
    refine ⟨_, rfl, hb_89.1, hb_89.2, ?_⟩
    intro D_92 hD_92
    have hE_93 := W.freshE w_78 hD_92
    obtain ⟨ys_119, e_ys_119, hm⟩ := bindS hm
    have w_120 := W.cell w_78 hD_92 (.lst [])
    refine lc_wM walk_range (by rw [hx_91]; exact rangeL_len _ _) e_ys_119 hl_90 (fun av acc H1 => ∃ G1, L2.Same G_75 G1 ∧ W H G0 [a_3] G1 [(D_92, .lst av), (a_3, .lst (r_74.2.map V.int))] H1 ∧ All2 pS G1 acc av) ⟨_, (L2.Same.refl _), w_120, .nil⟩ (fun _ _ _ _ => True.intro) ?_ ?_
    · intro i_94 x_95 r_111 v_96 av_97 acc_98 H_99 H_100 hx_101 hm hP_103 hlt_104 hy_105 N_106 ks_108
      obtain ⟨G_112, s_113, w_114, ha_115⟩ := hP_103
      rw [hx_91] at hx_101
      obtain ⟨rfl, rfl⟩ := rng_item hx_101 hy_105
      refine lc_nm (τ := [some (V.ref a_3), some (V.int most_7), some (V.int r_10.1), some (V.int r_20.1), some (V.int r_30.1), some (V.int t_55), some (V.int t_84), none, none, none, none, some (V.int x_95)]) rfl rfl ?_
      refine iteT_yes ?_
      obtain ⟨t_116, e_t_116, hm⟩ := bindS hm
      obtain ⟨t_117, e_t_117, hm⟩ := bindS hm
      refine ev_use (ev_op (ev_str lit1) (ev_op (ev_op (ev_var rfl) (ev_op (ev_var rfl) (ev_var rfl) (k_mul e_t_116)) (k_add _ _)) ev_c (k_modC _ _ (by decide +kernel))) (k_idxS lit1_ok e_t_117)) ?_
      have w_118 : W H G0 [a_3] _ [(D_92, .lst (av_97 ++ [(vS t_117)])), (a_3, .lst (r_74.2.map V.int))] _ := W.write w_114 0 rfl (.lst (av_97 ++ [(vS t_117)]))
      obtain rfl := someI hm
      exact ⟨_, (W.at w_114 0), hlt_104, ks_108 _ _ ⟨_, s_113, w_118, (All2.app ha_115 (All2.one ⟨rfl, (OkS.idx lit1_ok e_t_117)⟩))⟩⟩
    rintro av_121 H_122 ⟨G_123, s_124, w_125, ha_126⟩
    have hl_127 : ys_119.length ≤ sizeLine := Nat.le_trans (mapP_len e_ys_119) (lenz (by rw [hx_91]; exact rangeL_len _ _) hl_90)
    have s_129 := same_freeze w_125 0 rfl
    have w_128 : W H G0 [a_3] _ [(a_3, .lst (r_74.2.map V.int))] _ := W.freeze w_125 0 rfl hE_93
    have r_130 := (pL_new (W.out w_125 _ (List.Mem.head _)) ha_126 hl_127)
    refine s_if0 ?_
    refine et_use (et_test (ev_op (ev_var rfl) ev_c (k_eqI _ _))) ?_
    refine if_cases _ (fun hb_131 => ?_) (fun hb_131 => ?_)
    · have hm := iteT' hm hb_131
      refine cps_ret ?_
      obtain ⟨t_132, e_t_132, hm⟩ := bindS hm
      obtain ⟨v_133, r_134, k_135⟩ := k_idxG (K := K) r_130 w_128.sub e_t_132
      obtain ⟨rfl, ok_136⟩ := r_134
      obtain ⟨t_137, e_t_137, hm⟩ := bindS hm
      refine ev_use (ev_op (ev_op (ev_var rfl) ev_c k_135) (ev_var rfl) (k_rep ok_136 e_t_137)) ?_
      have er := (someI hm).symm
      subst er
      exact hq _ _ _ (W.post w_128) ⟨rfl, (OkS.rep ok_136 e_t_137)⟩ (W.at w_128 0) hcl_83
    have hm := iteF' hm hb_131
    refine cps_nextR ?_
    refine s_if0 ?_
    refine et_use (et_test (ev_op (ev_var rfl) ev_c (k_eqI _ _))) ?_
    refine if_cases _ (fun hb_138 => ?_) (fun hb_138 => ?_)
    · have hm := iteT' hm hb_138
      refine cps_ret ?_
      refine cps_m1 ?_
      refine ev_use (ev_str lit0) ?_
      refine ⟨⟨_, rfl⟩, ?_⟩
      refine cps_lc ?_
      refine cps_rng1 ?_
      refine cps_cons ?_
      refine ev_use (ev_var rfl) ?_
      refine cps_nil ?_
      obtain ⟨xs_139, e_xs_139, hm⟩ := bindS hm
      obtain ⟨hb_140, hx_142, hl_141⟩ := rng1_ok e_xs_139
      refine ⟨_, rfl, hb_140.1, hb_140.2, ?_⟩
      intro D_143 hD_143
      have hE_144 := W.freshE w_128 hD_143
      obtain ⟨ys_184, e_ys_184, hm⟩ := bindS hm
      have w_185 := W.cell w_128 hD_143 (.lst [])
      refine lc_w walk_range (by rw [hx_142]; exact rangeL_len _ _) e_ys_184 hl_141 (fun av acc s H1 => ∃ G1, L2.Same (upd G_123 D_92 (.lst av_121)) G1 ∧ W H G0 [a_3] G1 [(D_143, .lst av), (a_3, .lst (s.map V.int))] H1 ∧ All2 pS G1 acc av ∧ s.length ≤ sizeLine) ⟨_, (L2.Same.refl _), w_185, .nil, hcl_83⟩ (fun _ _ _ _ _ => True.intro) ?_ ?_
      · intro i_145 x_146 s_160 r_162 s_161 v_147 av_148 acc_149 H_150 H_151 hx_152 hm hP_154 hlt_155 hy_156 N_157 kn_158 ks_159
        obtain ⟨G_163, s_164, w_165, ha_166, hl_167⟩ := hP_154
        rw [hx_142] at hx_152
        obtain ⟨rfl, rfl⟩ := rng_item hx_152 hy_156
        refine lc_nm (τ := [some (V.ref a_3), some (V.int most_7), some (V.int r_10.1), some (V.int r_20.1), some (V.int r_30.1), some (V.int t_55), some (V.int t_84), some (V.ref D_92), none, none, none, some (V.int x_146)]) rfl rfl ?_
        refine iteT_yes ?_
        refine cps_op ?_
        refine ev_use (ev_var rfl) ?_
        refine cps_call ?_
        refine cps_cons ?_
        refine ev_use (ev_var rfl) ?_
        refine cps_cons ?_
        refine ev_use (ev_cb (ea_cons (ev_var rfl) ea_nil) (kk_lenL (K := K) (Mn.mono (Mn.mono r_130 s_164) w_165.sub))) ?_
        refine cps_nil ?_
        obtain ⟨r_168, e_r_168, hm⟩ := bindS hm
        refine ⟨a_3, s_160, ((ys_119).length : Int), (V.int ((ys_119).length : Int)), _, r_168, rfl, w_165.sub, (W.out w_165 _ (List.Mem.tail _ (List.Mem.head _))), (W.at w_165 1), hl_167, rfl, e_r_168, fun v_174 G_169 H_171 q_170 r_175 hc_176 hcl_177 => ?_⟩
        have w_172 : W H G0 [a_3] G_169 [(D_143, .lst av_148), (a_3, .lst (r_168.2.map V.int))] H_171 := W.callM w_165 1 rfl q_170 hc_176
        obtain rfl := r_175
        obtain ⟨t_178, e_t_178, hm⟩ := bindS hm
        obtain ⟨v_179, r_180, k_181⟩ := k_idxG (K := K) (Mn.mono r_130 (L2.Same.trans s_164 (Post.base q_170))) w_172.sub e_t_178
        obtain ⟨rfl, ok_182⟩ := r_180
        refine k_181 _ ?_
        have w_183 : W H G0 [a_3] _ [(D_143, .lst (av_148 ++ [(vS t_178)])), (a_3, .lst (r_168.2.map V.int))] _ := W.write w_172 0 rfl (.lst (av_148 ++ [(vS t_178)]))
        obtain ⟨rfl, rfl⟩ := Prod.mk.inj (someI hm)
        exact ⟨_, (W.at w_172 0), hlt_155, ks_159 _ _ _ rfl ⟨_, (L2.Same.trans s_164 (Post.base q_170)), w_183, (All2.app (All2.mono ha_166 (Post.base q_170)) (All2.one ⟨rfl, ok_182⟩)), hcl_177⟩⟩
      rintro av_186 H_187 ⟨G_188, s_189, w_190, ha_191, hl_192⟩
      have hl_193 : ys_184.1.length ≤ sizeLine := Nat.le_trans (lcS_len e_ys_184) (lenz (by rw [hx_142]; exact rangeL_len _ _) hl_141)
      have s_195 := same_freeze w_190 0 rfl
      have w_194 : W H G0 [a_3] _ [(a_3, .lst (ys_184.2.map V.int))] _ := W.freeze w_190 0 rfl hE_144
      have r_196 := (pL_new (W.out w_190 _ (List.Mem.head _)) ha_191 hl_193)
      obtain ⟨t_197, e_t_197, hm⟩ := bindS hm
      have r_198 := (Mn.mono r_196 w_194.sub)
      refine kk_join (K := K) r_198 e_t_197 _ ?_
      have er := (someI hm).symm
      subst er
      exact hq _ _ _ (W.post w_194) ⟨rfl, (ok_join lit0_ok r_198 e_t_197)⟩ (W.at w_194 0) hl_192
    have hm := iteF' hm hb_138
    refine cps_nextR ?_
    refine s_if0 ?_
    refine et_use (et_test (ev_op (ev_var rfl) ev_c (k_eqI _ _))) ?_
    refine if_cases _ (fun hb_199 => ?_) (fun hb_199 => ?_)
    · have hm := iteT' hm hb_199
      refine cps_ret ?_
      refine cps_m1 ?_
      refine ev_use (ev_str lit0) ?_
      refine ⟨⟨_, rfl⟩, ?_⟩
      refine cps_lc ?_
      refine cps_rng1 ?_
      refine cps_cons ?_
      refine ev_use (ev_var rfl) ?_
      refine cps_nil ?_
      obtain ⟨xs_200, e_xs_200, hm⟩ := bindS hm
      obtain ⟨hb_201, hx_203, hl_202⟩ := rng1_ok e_xs_200
      refine ⟨_, rfl, hb_201.1, hb_201.2, ?_⟩
      intro D_204 hD_204
      have hE_205 := W.freshE w_128 hD_204
      obtain ⟨ys_246, e_ys_246, hm⟩ := bindS hm
      have w_247 := W.cell w_128 hD_204 (.lst [])
      refine lc_w walk_range (by rw [hx_203]; exact rangeL_len _ _) e_ys_246 hl_202 (fun av acc s H1 => ∃ G1, L2.Same (upd G_123 D_92 (.lst av_121)) G1 ∧ W H G0 [a_3] G1 [(D_204, .lst av), (a_3, .lst (s.map V.int))] H1 ∧ All2 pS G1 acc av ∧ s.length ≤ sizeLine) ⟨_, (L2.Same.refl _), w_247, .nil, hcl_83⟩ (fun _ _ _ _ _ => True.intro) ?_ ?_
      · intro i_206 x_207 s_221 r_223 s_222 v_208 av_209 acc_210 H_211 H_212 hx_213 hm hP_215 hlt_216 hy_217 N_218 kn_219 ks_220
        obtain ⟨G_224, s_225, w_226, ha_227, hl_228⟩ := hP_215
        rw [hx_203] at hx_213
        obtain ⟨rfl, rfl⟩ := rng_item hx_213 hy_217
        refine lc_nm (τ := [some (V.ref a_3), some (V.int most_7), some (V.int r_10.1), some (V.int r_20.1), some (V.int r_30.1), some (V.int t_55), some (V.int t_84), some (V.ref D_92), none, none, none, some (V.int x_207)]) rfl rfl ?_
        refine iteT_yes ?_
        refine cps_op ?_
        refine ev_use (ev_var rfl) ?_
        refine cps_op ?_
        refine ev_use (ev_op (ev_cb (ea_cons (ev_var rfl) ea_nil) (kk_lenL (K := K) (Mn.mono (Mn.mono r_130 s_225) w_226.sub))) ev_c (k_sub _ _)) ?_
        refine cps_cb ?_
        refine cps_cons ?_
        refine cps_op ?_
        refine cps_call ?_
        refine cps_cons ?_
        refine ev_use (ev_var rfl) ?_
        refine cps_cons ?_
        refine ev_use ev_c ?_
        refine cps_nil ?_
        obtain ⟨r_229, e_r_229, hm⟩ := bindS hm
        refine ⟨a_3, s_221, (7), (V.int (7)), _, r_229, rfl, w_226.sub, (W.out w_226 _ (List.Mem.tail _ (List.Mem.head _))), (W.at w_226 1), hl_228, rfl, e_r_229, fun v_235 G_230 H_232 q_231 r_236 hc_237 hcl_238 => ?_⟩
        have w_233 : W H G0 [a_3] G_230 [(D_204, .lst av_209), (a_3, .lst (r_229.2.map V.int))] H_232 := W.callM w_226 1 rfl q_231 hc_237
        obtain rfl := r_236
        refine ev_use ev_c ?_
        refine (k_eqI _ _) _ ?_
        refine cps_nil ?_
        refine kk_intB _ _ ?_
        obtain ⟨t_239, e_t_239, hm⟩ := bindS hm
        refine k_mul e_t_239 _ ?_
        obtain ⟨t_240, e_t_240, hm⟩ := bindS hm
        obtain ⟨v_241, r_242, k_243⟩ := k_idxG (K := K) (Mn.mono r_130 (L2.Same.trans s_225 (Post.base q_231))) w_233.sub e_t_240
        obtain ⟨rfl, ok_244⟩ := r_242
        refine k_243 _ ?_
        have w_245 : W H G0 [a_3] _ [(D_204, .lst (av_209 ++ [(vS t_240)])), (a_3, .lst (r_229.2.map V.int))] _ := W.write w_233 0 rfl (.lst (av_209 ++ [(vS t_240)]))
        obtain ⟨rfl, rfl⟩ := Prod.mk.inj (someI hm)
        exact ⟨_, (W.at w_233 0), hlt_216, ks_220 _ _ _ rfl ⟨_, (L2.Same.trans s_225 (Post.base q_231)), w_245, (All2.app (All2.mono ha_227 (Post.base q_231)) (All2.one ⟨rfl, ok_244⟩)), hcl_238⟩⟩
      rintro av_248 H_249 ⟨G_250, s_251, w_252, ha_253, hl_254⟩
      have hl_255 : ys_246.1.length ≤ sizeLine := Nat.le_trans (lcS_len e_ys_246) (lenz (by rw [hx_203]; exact rangeL_len _ _) hl_202)
      have s_257 := same_freeze w_252 0 rfl
      have w_256 : W H G0 [a_3] _ [(a_3, .lst (ys_246.2.map V.int))] _ := W.freeze w_252 0 rfl hE_205
      have r_258 := (pL_new (W.out w_252 _ (List.Mem.head _)) ha_253 hl_255)
      obtain ⟨t_259, e_t_259, hm⟩ := bindS hm
      have r_260 := (Mn.mono r_258 w_256.sub)
      refine kk_join (K := K) r_260 e_t_259 _ ?_
      have er := (someI hm).symm
      subst er
      exact hq _ _ _ (W.post w_256) ⟨rfl, (ok_join lit0_ok r_260 e_t_259)⟩ (W.at w_256 0) hl_254
    have hm := iteF' hm hb_199
    refine cps_nextR ?_
    refine s_if0 ?_
    refine et_use (et_test (ev_op (ev_var rfl) ev_c (k_eqI _ _))) ?_
    refine if_cases _ (fun hb_261 => ?_) (fun hb_261 => ?_)
    · have hm := iteT' hm hb_261
      refine cps_ret ?_
      refine cps_call ?_
      refine cps_cons ?_
      refine ev_use (ev_var rfl) ?_
      refine cps_cons ?_
      refine ev_use (ev_var rfl) ?_
      refine cps_cons ?_
      refine ev_use (ev_var rfl) ?_
      refine cps_nil ?_
      obtain ⟨r_262, e_r_262, hm⟩ := bindS hm
      refine ⟨a_3, r_74.2, ys_119, (V.ref D_92), r_20.1, (V.int r_20.1), _, r_262, rfl, w_128.sub, (W.out w_128 _ (List.Mem.head _)), (W.at w_128 0), hcl_83, r_130, rfl, e_r_262, fun v_268 G_263 H_265 q_264 r_269 hc_270 hcl_271 => ?_⟩
      have w_266 : W H G0 [a_3] G_263 [(a_3, .lst (r_262.2.map V.int))] H_265 := W.callM w_128 0 rfl q_264 hc_270
      obtain ⟨rfl, ok_272⟩ := r_269
      have er := (someI hm).symm
      subst er
      exact hq _ _ _ (W.post w_266) ⟨rfl, ok_272⟩ (W.at w_266 0) hcl_271
    have hm := iteF' hm hb_261
    refine cps_nextR ?_
    refine s_if0 ?_
    refine et_use (et_test (ev_op (ev_var rfl) ev_c (k_gtI _ _))) ?_
    refine if_cases _ (fun hb_273 => ?_) (fun hb_273 => ?_)
    · have hm := iteT' hm hb_273
      refine cps_ret ?_
      refine cps_call ?_
      refine cps_cons ?_
      refine ev_use (ev_var rfl) ?_
      refine cps_cons ?_
      refine ev_use (ev_var rfl) ?_
      refine cps_cons ?_
      refine ev_use (ev_var rfl) ?_
      refine cps_nil ?_
      obtain ⟨r_274, e_r_274, hm⟩ := bindS hm
      refine ⟨a_3, r_74.2, ys_119, (V.ref D_92), r_20.1, (V.int r_20.1), _, r_274, rfl, w_128.sub, (W.out w_128 _ (List.Mem.head _)), (W.at w_128 0), hcl_83, r_130, rfl, e_r_274, fun v_280 G_275 H_277 q_276 r_281 hc_282 hcl_283 => ?_⟩
      have w_278 : W H G0 [a_3] G_275 [(a_3, .lst (r_274.2.map V.int))] H_277 := W.callM w_128 0 rfl q_276 hc_282
      obtain ⟨rfl, ok_284⟩ := r_281
      have er := (someI hm).symm
      subst er
      exact hq _ _ _ (W.post w_278) ⟨rfl, ok_284⟩ (W.at w_278 0) hcl_283
    have hm := iteF' hm hb_273
    refine cps_nextR ?_
    refine cps_asg (fun x => [some (V.ref a_3), some (V.int most_7), some (V.int r_10.1), some (V.int r_20.1), some (V.int r_30.1), some (V.int t_55), some (V.int t_84), some (V.ref D_92), some x, none, none, none]) (fun _ => rfl) ?_
    refine cps_m1 ?_
    refine ev_use (ev_str lit0) ?_
    refine ⟨⟨_, rfl⟩, ?_⟩
    refine cps_lc ?_
    refine cps_rng1 ?_
    refine cps_cons ?_
    refine cps_op ?_
    refine ev_use ev_c ?_
    refine cps_call ?_
    refine cps_cons ?_
    refine ev_use (ev_var rfl) ?_
    refine cps_cons ?_
    refine ev_use ev_c ?_
    refine cps_nil ?_
    obtain ⟨r_285, e_r_285, hm⟩ := bindS hm
    refine ⟨a_3, r_74.2, (6), (V.int (6)), _, r_285, rfl, w_128.sub, (W.out w_128 _ (List.Mem.head _)), (W.at w_128 0), hcl_83, rfl, e_r_285, fun v_291 G_286 H_288 q_287 r_292 hc_293 hcl_294 => ?_⟩
    have w_289 : W H G0 [a_3] G_286 [(a_3, .lst (r_285.2.map V.int))] H_288 := W.callM w_128 0 rfl q_287 hc_293
    obtain rfl := r_292
    refine k_add _ _ _ ?_
    refine cps_nil ?_
    obtain ⟨xs_295, e_xs_295, hm⟩ := bindS hm
    obtain ⟨hb_296, hx_298, hl_297⟩ := rng1_ok e_xs_295
    refine ⟨_, rfl, hb_296.1, hb_296.2, ?_⟩
    intro D_299 hD_299
    have hE_300 := W.freshE w_289 hD_299
    obtain ⟨ys_340, e_ys_340, hm⟩ := bindS hm
    have w_341 := W.cell w_289 hD_299 (.lst [])
    refine lc_w walk_range (by rw [hx_298]; exact rangeL_len _ _) e_ys_340 hl_297 (fun av acc s H1 => ∃ G1, L2.Same G_286 G1 ∧ W H G0 [a_3] G1 [(D_299, .lst av), (a_3, .lst (s.map V.int))] H1 ∧ All2 pS G1 acc av ∧ s.length ≤ sizeLine) ⟨_, (L2.Same.refl _), w_341, .nil, hcl_294⟩ (fun _ _ _ _ _ => True.intro) ?_ ?_
    · intro i_301 x_302 s_316 r_318 s_317 v_303 av_304 acc_305 H_306 H_307 hx_308 hm hP_310 hlt_311 hy_312 N_313 kn_314 ks_315
      obtain ⟨G_319, s_320, w_321, ha_322, hl_323⟩ := hP_310
      rw [hx_298] at hx_308
      obtain ⟨rfl, rfl⟩ := rng_item hx_308 hy_312
      refine lc_nm (τ := [some (V.ref a_3), some (V.int most_7), some (V.int r_10.1), some (V.int r_20.1), some (V.int r_30.1), some (V.int t_55), some (V.int t_84), some (V.ref D_92), none, none, none, some (V.int x_302)]) rfl rfl ?_
      refine iteT_yes ?_
      refine cps_op ?_
      refine ev_use (ev_var rfl) ?_
      refine cps_call ?_
      refine cps_cons ?_
      refine ev_use (ev_var rfl) ?_
      refine cps_cons ?_
      refine ev_use (ev_cb (ea_cons (ev_var rfl) ea_nil) (kk_lenL (K := K) (Mn.mono (Mn.mono r_130 (L2.Same.trans (Post.base q_287) s_320)) w_321.sub))) ?_
      refine cps_nil ?_
      obtain ⟨r_324, e_r_324, hm⟩ := bindS hm
      refine ⟨a_3, s_316, ((ys_119).length : Int), (V.int ((ys_119).length : Int)), _, r_324, rfl, w_321.sub, (W.out w_321 _ (List.Mem.tail _ (List.Mem.head _))), (W.at w_321 1), hl_323, rfl, e_r_324, fun v_330 G_325 H_327 q_326 r_331 hc_332 hcl_333 => ?_⟩
      have w_328 : W H G0 [a_3] G_325 [(D_299, .lst av_304), (a_3, .lst (r_324.2.map V.int))] H_327 := W.callM w_321 1 rfl q_326 hc_332
      obtain rfl := r_331
      obtain ⟨t_334, e_t_334, hm⟩ := bindS hm
      obtain ⟨v_335, r_336, k_337⟩ := k_idxG (K := K) (Mn.mono r_130 (L2.Same.trans (Post.base q_287) (L2.Same.trans s_320 (Post.base q_326)))) w_328.sub e_t_334
      obtain ⟨rfl, ok_338⟩ := r_336
      refine k_337 _ ?_
      have w_339 : W H G0 [a_3] _ [(D_299, .lst (av_304 ++ [(vS t_334)])), (a_3, .lst (r_324.2.map V.int))] _ := W.write w_328 0 rfl (.lst (av_304 ++ [(vS t_334)]))
      obtain ⟨rfl, rfl⟩ := Prod.mk.inj (someI hm)
      exact ⟨_, (W.at w_328 0), hlt_311, ks_315 _ _ _ rfl ⟨_, (L2.Same.trans s_320 (Post.base q_326)), w_339, (All2.app (All2.mono ha_322 (Post.base q_326)) (All2.one ⟨rfl, ok_338⟩)), hcl_333⟩⟩
    rintro av_342 H_343 ⟨G_344, s_345, w_346, ha_347, hl_348⟩
    have hl_349 : ys_340.1.length ≤ sizeLine := Nat.le_trans (lcS_len e_ys_340) (lenz (by rw [hx_298]; exact rangeL_len _ _) hl_297)
    have s_351 := same_freeze w_346 0 rfl
    have w_350 : W H G0 [a_3] _ [(a_3, .lst (ys_340.2.map V.int))] _ := W.freeze w_346 0 rfl hE_300
    have r_352 := (pL_new (W.out w_346 _ (List.Mem.head _)) ha_347 hl_349)
    obtain ⟨t_353, e_t_353, hm⟩ := bindS hm
    have r_354 := (Mn.mono r_352 w_350.sub)
    refine kk_join (K := K) r_354 e_t_353 _ ?_
    refine cps_asg (fun x => [some (V.ref a_3), some (V.int most_7), some (V.int r_10.1), some (V.int r_20.1), some (V.int r_30.1), some (V.int t_55), some (V.int t_84), some (V.ref D_92), some (vS t_353), some x, none, none]) (fun _ => rfl) ?_
    obtain ⟨t_355, e_t_355, hm⟩ := bindS hm
    obtain ⟨row_356, e_row_356, hm⟩ := bindS hm
    refine ev_use (castS e_row_356 (ev_sl (ev_op (ev_var rfl) (ev_op (ev_var rfl) ev_c (k_add _ _)) (k_rep (ok_join lit0_ok r_354 e_t_353) e_t_355)) eo_none (eo_some (ev_var rfl)) (k_cutS (OkS.rep (ok_join lit0_ok r_354 e_t_353) e_t_355)))) ?_
    have ok_357 := castOk e_row_356 (OkS.cut (OkS.rep (ok_join lit0_ok r_354 e_t_353) e_t_355) _ _)
    refine cps_asg (fun x => [some (V.ref a_3), some (V.int most_7), some (V.int r_10.1), some (V.int r_20.1), some (V.int r_30.1), some (V.int t_55), some (V.int t_84), some (V.ref D_92), some (vS t_353), some (vS row_356), some x, none]) (fun _ => rfl) ?_
    refine cps_call ?_
    refine cps_cons ?_
    refine ev_use (ev_var rfl) ?_
    refine cps_cons ?_
    refine ev_use (ev_op (ev_var rfl) ev_c (k_add _ _)) ?_
    refine cps_nil ?_
    obtain ⟨r_358, e_r_358, hm⟩ := bindS hm
    refine ⟨a_3, ys_340.2, (r_20.1 + (1)), (V.int (r_20.1 + (1))), _, r_358, rfl, w_350.sub, (W.out w_350 _ (List.Mem.head _)), (W.at w_350 0), hl_348, rfl, e_r_358, fun v_364 G_359 H_361 q_360 r_365 hc_366 hcl_367 => ?_⟩
    have w_362 : W H G0 [a_3] G_359 [(a_3, .lst (r_358.2.map V.int))] H_361 := W.callM w_350 0 rfl q_360 hc_366
    obtain rfl := r_365
    refine s_if0 ?_
    refine et_use (et_or (et_test (ev_op (ev_var rfl) ev_c (k_eqI _ _))) (fun _ => (et_test (ev_op (ev_var rfl) (ev_var rfl) (k_eqI _ _))))) ?_
    refine if_cases _ (fun hb_368 => ?_) (fun hb_368 => ?_)
    · have hm := iteT' hm hb_368
      refine cps_ret ?_
      refine ev_use (ev_var rfl) ?_
      have er := (someI hm).symm
      subst er
      exact hq _ _ _ (W.post w_362) ⟨rfl, ok_357⟩ (W.at w_362 0) hcl_367
    have hm := iteF' hm hb_368
    refine cps_nextR ?_
    refine cps_ret ?_
    refine cps_op ?_
    refine cps_op ?_
    refine ev_use (ev_sl (ev_var rfl) eo_none (eo_some (ev_var rfl)) (k_cutS ok_357)) ?_
    refine cps_op ?_
    refine ev_use (ev_var rfl) ?_
    refine cps_call ?_
    refine cps_cons ?_
    refine ev_use (ev_var rfl) ?_
    refine cps_cons ?_
    refine ev_use (ev_cb (ea_cons (ev_var rfl) ea_nil) (kk_lenL (K := K) (Mn.mono (Mn.mono r_130 (L2.Same.trans (Post.base q_287) (L2.Same.trans s_345 (L2.Same.trans s_351 (Post.base q_360))))) w_362.sub))) ?_
    refine cps_nil ?_
    obtain ⟨r_369, e_r_369, hm⟩ := bindS hm
    refine ⟨a_3, r_358.2, ((ys_119).length : Int), (V.int ((ys_119).length : Int)), _, r_369, rfl, w_362.sub, (W.out w_362 _ (List.Mem.head _)), (W.at w_362 0), hcl_367, rfl, e_r_369, fun v_375 G_370 H_372 q_371 r_376 hc_377 hcl_378 => ?_⟩
    have w_373 : W H G0 [a_3] G_370 [(a_3, .lst (r_369.2.map V.int))] H_372 := W.callM w_362 0 rfl q_371 hc_377
    obtain rfl := r_376
    obtain ⟨t_379, e_t_379, hm⟩ := bindS hm
    obtain ⟨v_380, r_381, k_382⟩ := k_idxG (K := K) (Mn.mono r_130 (L2.Same.trans (Post.base q_287) (L2.Same.trans s_345 (L2.Same.trans s_351 (L2.Same.trans (Post.base q_360) (Post.base q_371)))))) w_373.sub e_t_379
    obtain ⟨rfl, ok_383⟩ := r_381
    refine k_382 _ ?_
    obtain ⟨t_384, e_t_384, hm⟩ := bindS hm
    refine kk_cat e_t_384 _ ?_
    refine ev_use (ev_sl (ev_var rfl) (eo_some (ev_op (ev_var rfl) ev_c (k_add _ _))) eo_none (k_cutS ok_357)) ?_
    obtain ⟨t_385, e_t_385, hm⟩ := bindS hm
    refine kk_cat e_t_385 _ ?_
    have er := (someI hm).symm
    subst er
    exact hq _ _ _ (W.post w_373) ⟨rfl, (OkS.cat (OkS.cat (OkS.cut ok_357 _ _) ok_383 e_t_384) (OkS.cut ok_357 _ _) e_t_385)⟩ (W.at w_373 0) hcl_378

theorem sc_stands_earlier : FnScope ["row", "begin", "behind", "word", "place"] ["row", "begin", "behind"] (defScope s5) := ⟨rfl, rfl, rfl, by decide +kernel, rfl, by decide +kernel, by decide +kernel⟩
def sp_stands_earlier (K : PySem.W.Frag) : Sp := fun vs H Q E => ∃ (row_1 : (List Nat)) (v_2 : V) (begin_4 : Int) (v_5 : V) (behind_7 : Int) (v_8 : V) (G : Hp) (r : Bool), vs = [v_2, v_5, v_8] ∧ L2.Same G H ∧ pS row_1 v_2 G ∧ pI begin_4 v_5 G ∧ pI behind_7 v_8 G ∧ m_stands_earlier row_1 begin_4 behind_7 = some r ∧ (∀ v G1 H1, Post [] G H G1 H1 → pB r v G1 → Q v H1)
theorem ok_stands_earlier (T : Txt K mg fa fd) : FnOk P w K mg base CX0 1 (fa 5) (fd 5) ["row", "begin", "behind"] (sp_stands_earlier K) := by
  refine T.f5.ok sc_stands_earlier (fun vs H Q E h => ?_) (fun cdv A outer s H vs Q E hr h => ?_)
  · obtain ⟨_, _, _, _, _, _, _, _, rfl, _⟩ := h; rfl
  · obtain ⟨row_1, v_2, begin_4, v_5, behind_7, v_8, G0, r0, rfl, hs0, h_3, h_6, h_9, hm, hq⟩ := h
    obtain ⟨rfl, ok_10⟩ := h_3
    obtain rfl := h_6
    obtain rfl := h_9
    refine ⟨_, (pss_cons (ps_set (i := 3) sc_stands_earlier.nd rfl (Or.inr rfl) (pe_slice sl_str (pv 0) (po_some (pv 1)) (po_some (pv 2))))
      (pss_cons (ps_ret (pe_callB (cr_anyK (K := K) rfl rfl) (by rfl) T.n_any (by decide +kernel) (pa_cons (pe_lc (own := [("place", 4)]) rfl sc_stands_earlier.nd (pi_range1 (by rfl) T.n_range (pa_cons (pv 1) pa_nil)) (blkOk_by (N := ["row", "begin", "behind", "word", "place"]) (sc := (defScope s5)) (by decide +kernel)) (fun _ _ _ _ _ => (pg_name (i := 4) sc_stands_earlier.nd rfl (Or.inl rfl))) (fun _ _ _ _ _ => pts_nil) (fun _ _ _ _ _ => (pe_cmpR op_eq (pe_slice sl_str (pv 0) (po_some (pv 4)) (po_some (pe_op op_add (pv 4) (pe_callB call_lenS (by rfl) T.n_len PySem.boot_len (pa_cons (pv 3) pa_nil))))) (pv 3) (nomark _)))) pa_nil)))
      pss_nil)), ?_⟩
    have w0 : W H G0 [] G0 [] H := W.init hs0
    refine st_conv (σ' := [some (vS row_1), some (V.int begin_4), some (V.int behind_7), none, none]) rfl ?_
    refine cps_asg (fun x => [some (vS row_1), some (V.int begin_4), some (V.int behind_7), some x, none]) (fun _ => rfl) ?_
    obtain ⟨word_11, e_word_11, hm⟩ := bindS hm
    refine ev_use (castS e_word_11 (ev_sl (ev_var rfl) (eo_some (ev_var rfl)) (eo_some (ev_var rfl)) (k_cutS ok_10))) ?_
    have ok_12 := castOk e_word_11 (OkS.cut ok_10 _ _)
    refine cps_ret ?_
    refine cps_cb ?_
    refine cps_cons ?_
    refine cps_lc ?_
    refine cps_rng1 ?_
    refine cps_cons ?_
    refine ev_use (ev_var rfl) ?_
    refine cps_nil ?_
    obtain ⟨xs_13, e_xs_13, hm⟩ := bindS hm
    obtain ⟨hb_14, hx_16, hl_15⟩ := rng1_ok e_xs_13
    refine ⟨_, rfl, hb_14.1, hb_14.2, ?_⟩
    intro D_17 hD_17
    have hE_18 := W.freshE w0 hD_17
    obtain ⟨ys_42, e_ys_42, hm⟩ := bindS hm
    have w_43 := W.cell w0 hD_17 (.lst [])
    refine lc_wM walk_range (by rw [hx_16]; exact rangeL_len _ _) e_ys_42 hl_15 (fun av acc H1 => ∃ G1, L2.Same G0 G1 ∧ W H G0 [] G1 [(D_17, .lst av)] H1 ∧ All2 pB G1 acc av) ⟨_, (L2.Same.refl _), w_43, .nil⟩ (fun _ _ _ _ => True.intro) ?_ ?_
    · intro i_19 x_20 r_36 v_21 av_22 acc_23 H_24 H_25 hx_26 hm hP_28 hlt_29 hy_30 N_31 ks_33
      obtain ⟨G_37, s_38, w_39, ha_40⟩ := hP_28
      rw [hx_16] at hx_26
      obtain ⟨rfl, rfl⟩ := rng_item hx_26 hy_30
      refine lc_nm (τ := [some (vS row_1), some (V.int begin_4), some (V.int behind_7), some (vS word_11), some (V.int x_20)]) rfl rfl ?_
      refine iteT_yes ?_
      refine ev_use (ev_op (ev_sl (ev_var rfl) (eo_some (ev_var rfl)) (eo_some (ev_op (ev_var rfl) (ev_cb (ea_cons (ev_var rfl) ea_nil) (kk_lenS ok_12)) (k_add _ _))) (k_cutS ok_10)) (ev_var rfl) (k_eqS _ _)) ?_
      have w_41 : W H G0 [] _ [(D_17, .lst (av_22 ++ [(V.bl (decide ((cutL row_1 (some x_20) (some (x_20 + ((word_11).length : Int)))) = word_11)))]))] _ := W.write w_39 0 rfl (.lst (av_22 ++ [(V.bl (decide ((cutL row_1 (some x_20) (some (x_20 + ((word_11).length : Int)))) = word_11)))]))
      obtain rfl := someI hm
      exact ⟨_, (W.at w_39 0), hlt_29, ks_33 _ _ ⟨_, s_38, w_41, (All2.app ha_40 (All2.one rfl))⟩⟩
    rintro av_44 H_45 ⟨G_46, s_47, w_48, ha_49⟩
    obtain rfl := All2.bool ha_49
    have hl_50 : ys_42.length ≤ sizeLine := Nat.le_trans (mapP_len e_ys_42) (lenz (by rw [hx_16]; exact rangeL_len _ _) hl_15)
    have s_52 := same_freeze w_48 0 rfl
    have w_51 : W H G0 [] _ [] _ := W.freeze w_48 0 rfl hE_18
    have r_53 := (pL_new (W.out w_48 _ (List.Mem.head _)) ha_49 hl_50)
    refine cps_nil ?_
    refine k_any (K := K) (Mn.mono r_53 w_51.sub) _ ?_
    have er := (someI hm).symm
    subst er
    exact hq _ _ _ (W.post w_51) rfl 

theorem sc_new_stretches : FnScope ["row", "found", "begin", "end"] ["row"] (defScope s6) := ⟨rfl, rfl, rfl, by decide +kernel, rfl, by decide +kernel, by decide +kernel⟩
def sp_new_stretches (K : PySem.W.Frag) : Sp := fun vs H Q E => ∃ (row_1 : (List Nat)) (v_2 : V) (G : Hp) (r : (List (Int × Int))), vs = [v_2] ∧ L2.Same G H ∧ pS row_1 v_2 G ∧ m_new_stretches row_1 = some r ∧ (∀ p vs G1 H1, Post [] G H G1 H1 → H p = none → G1 p = none → H1 p = some (.lst vs) → All2 (pT2 pI pI) G1 r vs → r.length ≤ sizeLine → Q (.ref p) H1)
theorem ok_new_stretches (T : Txt K mg fa fd) : FnOk P w K mg base CX0 2 (fa 6) (fd 6) ["row"] (sp_new_stretches K) := by
  refine T.f6.ok sc_new_stretches (fun vs H Q E h => ?_) (fun cdv A outer s H vs Q E hr h => ?_)
  · obtain ⟨_, _, _, _, rfl, _⟩ := h; rfl
  · obtain ⟨row_1, v_2, G0, r0, rfl, hs0, h_3, hm, hq⟩ := h
    obtain ⟨rfl, ok_4⟩ := h_3
    refine ⟨_, (pss_cons (ps_set (i := 1) sc_new_stretches.nd rfl (Or.inl rfl) (pe_lst pa_nil))
      (pss_cons (ps_set (i := 2) sc_new_stretches.nd rfl (Or.inl rfl) pe_int)
      (pss_cons (ps_for PassesOwn.never rfl (pi_range1 (by rfl) T.n_range (pa_cons (pe_callB call_lenS (by rfl) T.n_len PySem.boot_len (pa_cons (pv 0) pa_nil)) pa_nil)) (pg_name (i := 3) sc_new_stretches.nd rfl (Or.inl rfl)) (pss_cons (ps_if (pt_not (pt_val (pe_call (ok_stands_earlier T) (hr.mono (by decide)) (by rfl) T.g5 T.f5.kp T.b5 .nil pass0 (pa_cons (pv 0) (pa_cons (pv 2) (pa_cons (pe_op op_add (pv 3) pe_int) pa_nil)))))) (pss_cons (ps_expr (pe_bmK (K := K) rfl (pe_bm PySem.F.plainAttrs_list PySem.F.slot_list_append PySem.F.type_list_append mt_append (pv 1) (pa_cons (pe_tup (pa_cons (pv 2) (pa_cons (pe_op op_add (pv 3) pe_int) pa_nil))) pa_nil))))
      (pss_cons (ps_set (i := 2) sc_new_stretches.nd rfl (Or.inl rfl) (pe_op op_add (pv 3) pe_int))
      pss_nil)) pss_nil)
      pss_nil))
      (pss_cons (ps_ret (pv 1))
      pss_nil)))), ?_⟩
    have w0 : W H G0 [] G0 [] H := W.init hs0
    refine st_conv (σ' := [some (vS row_1), none, none, none]) rfl ?_
    refine cps_asg (fun x => [some (vS row_1), some x, none, none]) (fun _ => rfl) ?_
    refine cps_lst ?_
    refine cps_nil ?_
    refine ⟨lenle rfl, fun p_5 hp_5 => ?_⟩
    have ha_6 : All2 (pT2 pI pI) G0 ([] : List (Int × Int)) [] := .nil
    have hE_8 := W.freshE w0 hp_5
    have w_7 := W.cell w0 hp_5 (.lst [])
    refine cps_asg (fun x => [some (vS row_1), some (V.ref p_5), some x, none]) (fun _ => rfl) ?_
    refine ev_use ev_c ?_
    refine cps_forG ?_
    refine cps_rng1 ?_
    refine cps_cons ?_
    refine ev_use (ev_cb (ea_cons (ev_var rfl) ea_nil) (kk_lenS ok_4)) ?_
    refine cps_nil ?_
    obtain ⟨xs_9, e_xs_9, hm⟩ := bindS hm
    obtain ⟨hb_10, hx_12, hl_11⟩ := rng1_ok e_xs_9
    refine ⟨_, rfl, hb_10.1, hb_10.2, ?_⟩
    obtain ⟨res_29, e_res_29, hm⟩ := bindS hm
    refine fold_w3 walk_range (by rw [hx_12]; exact rangeL_len _ _) e_res_29 (fun s1 σ1 H1 => ∃ o1_ : Option V, ∃ vs3_ : List V, ∃ G1, σ1 = [some (vS row_1), some (V.ref p_5), some (V.int s1.1), o1_] ∧ L2.Same G0 G1 ∧ W H G0 [] G1 [(p_5, .lst vs3_)] H1 ∧ All2 (pT2 pI pI) G1 s1.2 vs3_ ∧ s1.2.length ≤ sizeLine) ⟨_, _, _, rfl, (L2.Same.refl _), w_7, ha_6, (lenle rfl)⟩ (fun _ _ _ _ => True.intro) ?_ ?_
    · intro i_13 x_14 s_15 c_16 v_17 sg_18 H_19 H_20 hx_21 hm hP_24 hy_25 N_26 kn_27
      obtain ⟨o_30, vs_32, G_34, rfl, s_35, w_36, ha_33, hl_31⟩ := hP_24
      rw [hx_12] at hx_21
      obtain ⟨rfl, rfl⟩ := rng_item hx_21 hy_25
      refine for_nm (τ := [some (vS row_1), some (V.ref p_5), some (V.int s_15.1), some (V.int x_14)]) rfl ?_
      refine s_if0 ?_
      refine cps_not ?_
      refine cps_b ?_
      refine cps_call ?_
      refine cps_cons ?_
      refine ev_use (ev_var rfl) ?_
      refine cps_cons ?_
      refine ev_use (ev_var rfl) ?_
      refine cps_cons ?_
      refine ev_use (ev_op (ev_var rfl) ev_c (k_add _ _)) ?_
      refine cps_nil ?_
      obtain ⟨r_37, e_r_37, hm⟩ := bindS hm
      refine ⟨row_1, (vS row_1), s_15.1, (V.int s_15.1), (x_14 + (1)), (V.int (x_14 + (1))), _, r_37, rfl, w_36.sub, ⟨rfl, ok_4⟩, rfl, rfl, e_r_37, fun v_43 G_38 H_40 q_39 r_44 => ?_⟩
      have w_41 := W.call w_36 q_39
      obtain rfl := r_44
      refine ⟨_, rfl, ?_⟩
      obtain ⟨j_45, hm_if, hm⟩ := bindS hm
      refine cut_if4 (P := (fun σ1 H1 => ∃ vs2_ : List V, ∃ G1, σ1 = [some (vS row_1), some (V.ref p_5), some (V.int j_45.1), some (V.int x_14)] ∧ L2.Same G_38 G1 ∧ W H G0 [] G1 [(p_5, .lst vs2_)] H1 ∧ All2 (pT2 pI pI) G1 j_45.2 vs2_ ∧ j_45.2.length ≤ sizeLine)) _ ?_ ?_ ?_
      · intro hb_46 N_47 kn_48
        have hm := iteT' hm_if hb_46
        refine cps_drop ?_
        refine cps_bm ?_
        refine ev_use (ev_var rfl) ?_
        refine ⟨tyL (W.at w_41 0), ?_⟩
        refine cps_cons ?_
        refine cps_tup ?_
        refine cps_cons ?_
        refine ev_use (ev_var rfl) ?_
        refine cps_cons ?_
        refine ev_use (ev_op (ev_var rfl) ev_c (k_add _ _)) ?_
        refine cps_nil ?_
        refine ⟨lenle rfl, fun p_49 hp_49 => ?_⟩
        have s_51 := same_lay (o := .tup [(V.int s_15.1), (V.int (x_14 + (1)))]) w_41 hp_49
        have r_52 := pT2_new (p := p_49) (W.freshG w_41 hp_49) (show pI s_15.1 (V.int s_15.1) G_38 from rfl) (show pI (x_14 + (1)) (V.int (x_14 + (1))) G_38 from rfl)
        have w_50 := W.lay w_41 hp_49 (.tup [(V.int s_15.1), (V.int (x_14 + (1)))])
        refine cps_nil ?_
        obtain ⟨xs_53, e_xs_53, hm⟩ := bindS hm
        refine app_hw (All2.mono ha_33 (L2.Same.trans (Post.base q_39) s_51)) e_xs_53 (W.at w_50 0) ?_
        have ha_54 := app_all (All2.mono ha_33 (L2.Same.trans (Post.base q_39) s_51)) r_52 e_xs_53
        have w_57 : W H G0 [] _ [(p_5, .lst (vs_32 ++ [(V.ref p_49)]))] _ := W.write w_50 0 rfl (.lst (vs_32 ++ [(V.ref p_49)]))
        refine cps_asg (fun x => [some (vS row_1), some (V.ref p_5), some x, some (V.int x_14)]) (fun _ => rfl) ?_
        obtain ⟨begin_58, e_begin_58, hm⟩ := bindS hm
        refine ev_use (castI e_begin_58 (ev_op (ev_var rfl) ev_c (k_add _ _))) ?_
        refine cps_next ?_
        obtain rfl := someI hm
        exact kn_48 _ _ ⟨_, _, rfl, s_51, w_57, ha_54, (appM_ok e_xs_53).2.2⟩
      · intro hb_46 N_47 kn_48
        have hm := iteF' hm_if hb_46
        refine cps_next ?_
        obtain rfl := someI hm
        exact kn_48 _ _ ⟨_, _, rfl, (L2.Same.refl _), w_41, (All2.mono ha_33 (Post.base q_39)), hl_31⟩
      rintro _ H_59 ⟨vs_61, G_63, rfl, s_64, w_65, ha_62, hl_60⟩
      refine cps_next ?_
      obtain rfl := someI hm
      exact kn_27 _ _ ⟨_, _, _, rfl, (L2.Same.trans s_35 (L2.Same.trans (Post.base q_39) s_64)), w_65, ha_62, hl_60⟩
    rintro _ H_66 ⟨o_67, vs_69, G_71, rfl, s_72, w_73, ha_70, hl_68⟩
    refine cps_ret ?_
    refine ev_use (ev_var rfl) ?_
    have er := (someI hm).symm
    subst er
    exact hq _ _ _ _ (W.post w_73) hE_8 (W.out w_73 _ (List.Mem.head _)) (W.at w_73 0) ha_70 hl_68 

theorem sc_first_cutting : FnScope ["row", "begin", "behind"] ["row"] (defScope s7) := ⟨rfl, rfl, rfl, by decide +kernel, rfl, by decide +kernel, by decide +kernel⟩
def sp_first_cutting (K : PySem.W.Frag) : Sp := fun vs H Q E => ∃ (row_1 : (List Nat)) (v_2 : V) (G : Hp) (r : (List Int)), vs = [v_2] ∧ L2.Same G H ∧ pS row_1 v_2 G ∧ m_first_cutting row_1 = some r ∧ (∀ p vs G1 H1, Post [] G H G1 H1 → H p = none → G1 p = none → H1 p = some (.lst vs) → All2 pI G1 r vs → r.length ≤ sizeLine → Q (.ref p) H1)
theorem ok_first_cutting (T : Txt K mg fa fd) : FnOk P w K mg base CX0 3 (fa 7) (fd 7) ["row"] (sp_first_cutting K) := by
  refine T.f7.ok sc_first_cutting (fun vs H Q E h => ?_) (fun cdv A outer s H vs Q E hr h => ?_)
  · obtain ⟨_, _, _, _, rfl, _⟩ := h; rfl
  · obtain ⟨row_1, v_2, G0, r0, rfl, hs0, h_3, hm, hq⟩ := h
    obtain ⟨rfl, ok_4⟩ := h_3
    refine ⟨_, (pss_cons (ps_ret (pe_lc (own := [("begin", 1), ("behind", 2)]) rfl sc_first_cutting.nd (pi_listK (K := K) rfl (pe_call (ok_new_stretches T) (hr.mono (by decide)) (by rfl) T.g6 T.f6.kp T.b6 .nil pass0 (pa_cons (pv 0) pa_nil))) (blkOk_by (N := ["row", "begin", "behind"]) (sc := (defScope s7)) (by decide +kernel)) (fun _ _ _ _ _ => (pg_K (K := K) rfl (pg_tup (n := 2) rfl (pgs_cons (pg_name (i := 1) sc_first_cutting.nd rfl (Or.inl rfl)) (pgs_cons (pg_name (i := 2) sc_first_cutting.nd rfl (Or.inl rfl)) pgs_nil))))) (fun _ _ _ _ _ => pts_nil) (fun _ _ _ _ _ => (pe_op op_sub (pv 2) pe_int))))
      pss_nil), ?_⟩
    have w0 : W H G0 [] G0 [] H := W.init hs0
    refine st_conv (σ' := [some (vS row_1), none, none]) rfl ?_
    refine cps_ret ?_
    refine cps_lc ?_
    refine cps_list ?_
    refine cps_call ?_
    refine cps_cons ?_
    refine ev_use (ev_var rfl) ?_
    refine cps_nil ?_
    obtain ⟨r_5, e_r_5, hm⟩ := bindS hm
    refine ⟨row_1, (vS row_1), _, r_5, rfl, w0.sub, ⟨rfl, ok_4⟩, e_r_5, fun p_11 vs_12 G_6 H_8 q_7 hp_15 hg_16 hh_17 ha_13 hl_14 => ?_⟩
    have hE_18 := W.freshE w0 hp_15
    have w_9 := W.callLay w0 q_7 hp_15 hg_16 hh_17
    have r_19 := pL_new hg_16 ha_13 hl_14
    obtain ⟨a_20, vs_21, e_22, h_23, ha_24, hl_25⟩ := r_19
    refine ⟨_, e_22, ⟨_, SqL.of (w_9.sub _ _ h_23)⟩, ?_⟩
    intro D_26 hD_26
    have hE_27 := W.freshE w_9 hD_26
    obtain ⟨ys_58, e_ys_58, hm⟩ := bindS hm
    have w_59 := W.cell w_9 hD_26 (.lst [])
    refine lc_wM walk_list (All2.len ha_24) e_ys_58 ((All2.len ha_24) ▸ hl_25) (fun av acc H1 => ∃ G1, L2.Same (upd G_6 p_11 (.lst vs_12)) G1 ∧ W H G0 [] G1 [(D_26, .lst av)] H1 ∧ All2 pI G1 acc av) ⟨_, (L2.Same.refl _), w_59, .nil⟩ (fun _ _ _ ⟨_, s_, w_, _⟩ => SqL.of (w_.sub _ _ (s_ _ _ h_23))) ?_ ?_
    · intro i_28 x_29 r_45 v_30 av_31 acc_32 H_33 H_34 hx_35 hm hP_37 hlt_38 hy_39 N_40 ks_42
      obtain ⟨G_46, s_47, w_48, ha_49⟩ := hP_37
      obtain ⟨rfl, r_50⟩ := lst_item ha_24 hx_35 hy_39
      obtain ⟨a_51, v_52, v_53, rfl, h_56, r_54, r_55⟩ := (Mn.mono r_50 s_47)
      obtain rfl := r_54
      obtain rfl := r_55
      refine gt_open (w_48.sub _ _ h_56) rfl ?_
      refine gt_cons ?_
      refine for_nm (τ := [some (vS row_1), some (V.int x_29.1), none]) rfl ?_
      refine gt_cons ?_
      refine for_nm (τ := [some (vS row_1), some (V.int x_29.1), some (V.int x_29.2)]) rfl ?_
      refine gt_nil ?_
      refine ⟨rfl, ?_⟩
      refine iteT_yes ?_
      refine ev_use (ev_op (ev_var rfl) ev_c (k_sub _ _)) ?_
      have w_57 : W H G0 [] _ [(D_26, .lst (av_31 ++ [(V.int (x_29.2 - (1)))]))] _ := W.write w_48 0 rfl (.lst (av_31 ++ [(V.int (x_29.2 - (1)))]))
      obtain rfl := someI hm
      exact ⟨_, (W.at w_48 0), hlt_38, ks_42 _ _ ⟨_, s_47, w_57, (All2.app ha_49 (All2.one rfl))⟩⟩
    rintro av_60 H_61 ⟨G_62, s_63, w_64, ha_65⟩
    obtain rfl := All2.int ha_65
    have hl_66 : ys_58.length ≤ sizeLine := Nat.le_trans (mapP_len e_ys_58) (lenz (All2.len ha_24) ((All2.len ha_24) ▸ hl_25))
    have er := (someI hm).symm
    subst er
    exact hq _ _ _ _ (W.post w_64) hE_27 (W.out w_64 _ (List.Mem.head _)) (W.at w_64 0) ha_65 hl_66 

theorem sc_law_wholes : FnScope ["_law_found", "_law_one"] ["_law_found"] (defScope s8) := ⟨rfl, rfl, rfl, by decide +kernel, rfl, by decide +kernel, by decide +kernel⟩
def sp_law_wholes (K : PySem.W.Frag) : Sp := fun vs H Q E => ∃ (found_1 : (List Int)) (v_2 : V) (G : Hp) (r : Bool), vs = [v_2] ∧ L2.Same G H ∧ (pL pI) found_1 v_2 G ∧ m_law_wholes found_1 = some r ∧ (∀ v G1 H1, Post [] G H G1 H1 → pB r v G1 → Q v H1)
theorem ok_law_wholes (T : Txt K mg fa fd) : FnOk P w K mg base CX0 1 (fa 8) (fd 8) ["_law_found"] (sp_law_wholes K) := by
  refine T.f8.ok sc_law_wholes (fun vs H Q E h => ?_) (fun cdv A outer s H vs Q E hr h => ?_)
  · obtain ⟨_, _, _, _, rfl, _⟩ := h; rfl
  · obtain ⟨found_1, v_2, G0, r0, rfl, hs0, h_3, hm, hq⟩ := h
    refine ⟨_, (pss_cons (ps_if (pt_not (pt_val (pe_callB (call_isK (K := K) rfl) (by rfl) T.n_isinstance (by decide +kernel) (pa_cons (pv 0) (pa_cons (pe_bltn (v := .ty "list") (by rfl) T.n_list (by decide +kernel) rfl) pa_nil))))) (pss_cons (ps_ret pe_bl)
      pss_nil) pss_nil)
      (pss_cons (ps_ret (pe_callB (cr_allK (K := K) rfl rfl) (by rfl) T.n_all (by decide +kernel) (pa_cons (pe_lc (own := [("_law_one", 1)]) rfl sc_law_wholes.nd (pi_listK (K := K) rfl (pv 0)) (blkOk_by (N := ["_law_found", "_law_one"]) (sc := (defScope s8)) (by decide +kernel)) (fun _ _ _ _ _ => (pg_name (i := 1) sc_law_wholes.nd rfl (Or.inl rfl))) (fun _ _ _ _ _ => pts_nil) (fun _ _ _ _ _ => (pe_and (pe_callB (call_isK (K := K) rfl) (by rfl) T.n_isinstance (by decide +kernel) (pa_cons (pv 1) (pa_cons (pe_bltn (v := .ty "int") (by rfl) T.n_int (by decide +kernel) rfl) pa_nil))) (pe_one (pe_not (pe_callB (call_isK (K := K) rfl) (by rfl) T.n_isinstance (by decide +kernel) (pa_cons (pv 1) (pa_cons (pe_bltn (v := .ty "bool") (by rfl) T.n_bool (by decide +kernel) rfl) pa_nil)))))))) pa_nil)))
      pss_nil)), ?_⟩
    have w0 : W H G0 [] G0 [] H := W.init hs0
    refine st_conv (σ' := [some v_2, none]) rfl ?_
    refine s_if0 ?_
    refine et_use (et_not (et_b (ev_cb (ea_cons (ev_var rfl) (ea_cons ev_c ea_nil)) (isiT (K := K) (b := true) (tyLs (Mn.mono h_3 w0.sub)) (by decide +kernel))))) ?_
    refine if_cases _ (fun hb_4 => ?_) (fun hb_4 => ?_)
    · have hm := iteT' hm hb_4
      refine cps_ret ?_
      refine ev_use ev_c ?_
      have er := (someI hm).symm
      subst er
      exact hq _ _ _ (W.post w0) rfl 
    have hm := iteF' hm hb_4
    refine cps_nextR ?_
    refine cps_ret ?_
    refine cps_cb ?_
    refine cps_cons ?_
    refine cps_lc ?_
    refine cps_list ?_
    refine ev_use (ev_var rfl) ?_
    obtain ⟨a_5, vs_6, e_7, h_8, ha_9, hl_10⟩ := h_3
    refine ⟨_, e_7, ⟨_, SqL.of (w0.sub _ _ h_8)⟩, ?_⟩
    intro D_11 hD_11
    have hE_12 := W.freshE w0 hD_11
    obtain ⟨ys_37, e_ys_37, hm⟩ := bindS hm
    have w_38 := W.cell w0 hD_11 (.lst [])
    refine lc_wM walk_list (All2.len ha_9) e_ys_37 ((All2.len ha_9) ▸ hl_10) (fun av acc H1 => ∃ G1, L2.Same G0 G1 ∧ W H G0 [] G1 [(D_11, .lst av)] H1 ∧ All2 pB G1 acc av) ⟨_, (L2.Same.refl _), w_38, .nil⟩ (fun _ _ _ ⟨_, s_, w_, _⟩ => SqL.of (w_.sub _ _ (s_ _ _ h_8))) ?_ ?_
    · intro i_13 x_14 r_30 v_15 av_16 acc_17 H_18 H_19 hx_20 hm hP_22 hlt_23 hy_24 N_25 ks_27
      obtain ⟨G_31, s_32, w_33, ha_34⟩ := hP_22
      obtain ⟨rfl, r_35⟩ := lst_item ha_9 hx_20 hy_24
      obtain rfl := r_35
      refine lc_nm (τ := [some v_2, some (V.int x_14)]) rfl rfl ?_
      refine iteT_yes ?_
      refine ev_use (ev_and (ev_cb (ea_cons (ev_var rfl) (ea_cons ev_c ea_nil)) (isiT (K := K) (b := true) (tyI _) (by decide +kernel))) (fun _ => (ev_not (ev_cb (ea_cons (ev_var rfl) (ea_cons ev_c ea_nil)) (isiT (K := K) (b := false) (tyI _) (by decide +kernel)))))) ?_
      have w_36 : W H G0 [] _ [(D_11, .lst (av_16 ++ [(V.bl (true && (!false)))]))] _ := W.write w_33 0 rfl (.lst (av_16 ++ [(V.bl (true && (!false)))]))
      obtain rfl := someI hm
      exact ⟨_, (W.at w_33 0), hlt_23, ks_27 _ _ ⟨_, s_32, w_36, (All2.app ha_34 (All2.one rfl))⟩⟩
    rintro av_39 H_40 ⟨G_41, s_42, w_43, ha_44⟩
    obtain rfl := All2.bool ha_44
    have hl_45 : ys_37.length ≤ sizeLine := Nat.le_trans (mapP_len e_ys_37) (lenz (All2.len ha_9) ((All2.len ha_9) ▸ hl_10))
    have s_47 := same_freeze w_43 0 rfl
    have w_46 : W H G0 [] _ [] _ := W.freeze w_43 0 rfl hE_12
    have r_48 := (pL_new (W.out w_43 _ (List.Mem.head _)) ha_44 hl_45)
    refine cps_nil ?_
    refine k_all (K := K) (Mn.mono r_48 w_46.sub) _ ?_
    have er := (someI hm).symm
    subst er
    exact hq _ _ _ (W.post w_46) rfl 

theorem sc_law_first : FnScope ["_law_row_here", "_law_cuts", "_law_begin", "_law_place"] ["_law_row_here"] (defScope s9) := ⟨rfl, rfl, rfl, by decide +kernel, rfl, by decide +kernel, by decide +kernel⟩
def sp_law_first (K : PySem.W.Frag) : Sp := fun vs H Q E => ∃ (row_1 : (List Nat)) (v_2 : V) (G : Hp) (r : (List Int)), vs = [v_2] ∧ L2.Same G H ∧ pS row_1 v_2 G ∧ m_law_first row_1 = some r ∧ (∀ p vs G1 H1, Post [] G H G1 H1 → H p = none → G1 p = none → H1 p = some (.lst vs) → All2 pI G1 r vs → r.length ≤ sizeLine → Q (.ref p) H1)
theorem ok_law_first (T : Txt K mg fa fd) : FnOk P w K mg base CX0 1 (fa 9) (fd 9) ["_law_row_here"] (sp_law_first K) := by
  refine T.f9.ok sc_law_first (fun vs H Q E h => ?_) (fun cdv A outer s H vs Q E hr h => ?_)
  · obtain ⟨_, _, _, _, rfl, _⟩ := h; rfl
  · obtain ⟨row_1, v_2, G0, r0, rfl, hs0, h_3, hm, hq⟩ := h
    obtain ⟨rfl, ok_4⟩ := h_3
    refine ⟨_, (pss_cons (ps_set (i := 1) sc_law_first.nd rfl (Or.inl rfl) (pe_lst pa_nil))
      (pss_cons (ps_set (i := 2) sc_law_first.nd rfl (Or.inl rfl) pe_int)
      (pss_cons (ps_for PassesOwn.never rfl (pi_range1 (by rfl) T.n_range (pa_cons (pe_callB call_lenS (by rfl) T.n_len PySem.boot_len (pa_cons (pv 0) pa_nil)) pa_nil)) (pg_name (i := 3) sc_law_first.nd rfl (Or.inl rfl)) (pss_cons (ps_if (pt_cmpR op_ninStr (pe_slice sl_str (pv 0) (po_some (pv 2)) (po_some (pe_op op_add (pv 3) pe_int))) (pe_slice sl_str (pv 0) po_none (po_some (pv 3))) rfl) (pss_cons (ps_expr (pe_bmK (K := K) rfl (pe_bm PySem.F.plainAttrs_list PySem.F.slot_list_append PySem.F.type_list_append mt_append (pv 1) (pa_cons (pv 3) pa_nil))))
      (pss_cons (ps_set (i := 2) sc_law_first.nd rfl (Or.inl rfl) (pe_op op_add (pv 3) pe_int))
      pss_nil)) pss_nil)
      pss_nil))
      (pss_cons (ps_ret (pv 1))
      pss_nil)))), ?_⟩
    have w0 : W H G0 [] G0 [] H := W.init hs0
    refine st_conv (σ' := [some (vS row_1), none, none, none]) rfl ?_
    refine cps_asg (fun x => [some (vS row_1), some x, none, none]) (fun _ => rfl) ?_
    refine cps_lst ?_
    refine cps_nil ?_
    refine ⟨lenle rfl, fun p_5 hp_5 => ?_⟩
    have ha_6 : All2 pI G0 ([] : List Int) [] := .nil
    have hE_8 := W.freshE w0 hp_5
    have w_7 := W.cell w0 hp_5 (.lst [])
    refine cps_asg (fun x => [some (vS row_1), some (V.ref p_5), some x, none]) (fun _ => rfl) ?_
    refine ev_use ev_c ?_
    refine cps_forG ?_
    refine cps_rng1 ?_
    refine cps_cons ?_
    refine ev_use (ev_cb (ea_cons (ev_var rfl) ea_nil) (kk_lenS ok_4)) ?_
    refine cps_nil ?_
    obtain ⟨xs_9, e_xs_9, hm⟩ := bindS hm
    obtain ⟨hb_10, hx_12, hl_11⟩ := rng1_ok e_xs_9
    refine ⟨_, rfl, hb_10.1, hb_10.2, ?_⟩
    obtain ⟨res_29, e_res_29, hm⟩ := bindS hm
    have q_53 := All2.int ha_6
    have w_52 : W H G0 [] _ [(p_5, .lst (([] : List Int).map V.int))] _ := W.recell w_7 (by rw [← q_53])
    refine fold_w3 walk_range (by rw [hx_12]; exact rangeL_len _ _) e_res_29 (fun s1 σ1 H1 => ∃ o1_ : Option V, ∃ G1, σ1 = [some (vS row_1), some (V.ref p_5), some (V.int s1.1), o1_] ∧ L2.Same G0 G1 ∧ W H G0 [] G1 [(p_5, .lst (s1.2.map V.int))] H1 ∧ s1.2.length ≤ sizeLine) ⟨_, _, rfl, (L2.Same.refl _), w_52, (lenle rfl)⟩ (fun _ _ _ _ => True.intro) ?_ ?_
    · intro i_13 x_14 s_15 c_16 v_17 sg_18 H_19 H_20 hx_21 hm hP_24 hy_25 N_26 kn_27
      obtain ⟨o_30, G_32, rfl, s_33, w_34, hl_31⟩ := hP_24
      rw [hx_12] at hx_21
      obtain ⟨rfl, rfl⟩ := rng_item hx_21 hy_25
      refine for_nm (τ := [some (vS row_1), some (V.ref p_5), some (V.int s_15.1), some (V.int x_14)]) rfl ?_
      refine s_if0 ?_
      refine et_use (et_test (ev_op (ev_sl (ev_var rfl) (eo_some (ev_var rfl)) (eo_some (ev_op (ev_var rfl) ev_c (k_add _ _))) (k_cutS ok_4)) (ev_sl (ev_var rfl) eo_none (eo_some (ev_var rfl)) (k_cutS ok_4)) (kk_nin _ _))) ?_
      obtain ⟨j_35, hm_if, hm⟩ := bindS hm
      refine cut_if4 (P := (fun σ1 H1 => ∃ G1, σ1 = [some (vS row_1), some (V.ref p_5), some (V.int j_35.1), some (V.int x_14)] ∧ L2.Same G_32 G1 ∧ W H G0 [] G1 [(p_5, .lst (j_35.2.map V.int))] H1 ∧ j_35.2.length ≤ sizeLine)) _ ?_ ?_ ?_
      · intro hb_36 N_37 kn_38
        have hm := iteT' hm_if hb_36
        refine cps_drop ?_
        refine cps_bm ?_
        refine ev_use (ev_var rfl) ?_
        refine ⟨tyL (W.at w_34 0), ?_⟩
        refine cps_cons ?_
        refine ev_use (ev_var rfl) ?_
        refine cps_nil ?_
        obtain ⟨xs_39, e_xs_39, hm⟩ := bindS hm
        refine app_hw (All2.ofInt _ G_32) e_xs_39 (W.at w_34 0) ?_
        have ha_40 := app_all (All2.ofInt _ G_32) rfl e_xs_39
        have w_43 : W H G0 [] _ [(p_5, .lst ((s_15.2.map V.int) ++ [(V.int x_14)]))] _ := W.write w_34 0 rfl (.lst ((s_15.2.map V.int) ++ [(V.int x_14)]))
        refine cps_asg (fun x => [some (vS row_1), some (V.ref p_5), some x, some (V.int x_14)]) (fun _ => rfl) ?_
        obtain ⟨begin_44, e_begin_44, hm⟩ := bindS hm
        refine ev_use (castI e_begin_44 (ev_op (ev_var rfl) ev_c (k_add _ _))) ?_
        refine cps_next ?_
        obtain rfl := someI hm
        have q_46 := All2.int ha_40
        have w_45 : W H G0 [] _ [(p_5, .lst (xs_39.map V.int))] _ := W.recell w_43 (by rw [← q_46])
        exact kn_38 _ _ ⟨_, rfl, (L2.Same.refl _), w_45, (appM_ok e_xs_39).2.2⟩
      · intro hb_36 N_37 kn_38
        have hm := iteF' hm_if hb_36
        refine cps_next ?_
        obtain rfl := someI hm
        exact kn_38 _ _ ⟨_, rfl, (L2.Same.refl _), w_34, hl_31⟩
      rintro _ H_47 ⟨G_49, rfl, s_50, w_51, hl_48⟩
      refine cps_next ?_
      obtain rfl := someI hm
      exact kn_27 _ _ ⟨_, _, rfl, (L2.Same.trans s_33 s_50), w_51, hl_48⟩
    rintro _ H_54 ⟨o_55, G_57, rfl, s_58, w_59, hl_56⟩
    refine cps_ret ?_
    refine ev_use (ev_var rfl) ?_
    have er := (someI hm).symm
    subst er
    exact hq _ _ _ _ (W.post w_59) hE_8 (W.out w_59 _ (List.Mem.head _)) (W.at w_59 0) (All2.ofInt _ G_57) hl_56 

theorem sc_law : FnScope ["_law_script", "_law_k", "_law_pot_here", "_law_row_here", "_law_turn", "_law_found"] ["_law_script"] (defScope s10) := ⟨rfl, rfl, rfl, by decide +kernel, rfl, by decide +kernel, by decide +kernel⟩
def sp_law (K : PySem.W.Frag) : Sp := fun vs H Q E => ∃ (script_1 : (List Int)) (v_2 : V) (G : Hp) (r : Bool), vs = [v_2] ∧ L2.Same G H ∧ (pScr K) script_1 v_2 G ∧ m_law script_1 = some r ∧ (∀ v G1 H1, Post [] G H G1 H1 → pB r v G1 → Q v H1)
theorem ok_law (T : Txt K mg fa fd) : FnOk P w K mg base CX0 4 (fa 10) (fd 10) ["_law_script"] (sp_law K) := by
  refine T.f10.ok sc_law (fun vs H Q E h => ?_) (fun cdv A outer s H vs Q E hr h => ?_)
  · obtain ⟨_, _, _, _, rfl, _⟩ := h; rfl
  · obtain ⟨script_1, v_2, G0, r0, rfl, hs0, h_3, hm, hq⟩ := h
    refine ⟨_, (pss_cons (ps_for PassesOwn.never rfl (pi_range1 (by rfl) T.n_range (pa_cons (pe_callB (call_max2I rfl) (by rfl) T.n_max (by decide +kernel) (pa_cons pe_int (pa_cons (pe_callB (call_min2I rfl) (by rfl) T.n_min (by decide +kernel) (pa_cons pe_int (pa_cons (pe_callB (call_lenQ (K := K) rfl) (by rfl) T.n_len PySem.boot_len (pa_cons (pv 0) pa_nil)) pa_nil))) pa_nil))) pa_nil)) (pg_name (i := 1) sc_law.nd rfl (Or.inl rfl)) (pss_cons (ps_set (i := 2) sc_law.nd rfl (Or.inl rfl) (pe_call (ok_law_pot T) (hr.mono (by decide)) (by rfl) T.g0 T.f0.kp T.b0 .nil pass0 (pa_cons (pv 0) (pa_cons (pv 1) pa_nil))))
      (pss_cons (ps_set (i := 3) sc_law.nd rfl (Or.inl rfl) (pe_call (ok_law_row T) (hr.mono (by decide)) (by rfl) T.g4 T.f4.kp T.b4 .nil pass0 (pa_cons (pv 2) (pa_cons pe_int pa_nil))))
      (pss_cons (ps_for PassesOwn.never rfl (pi_range1 (by rfl) T.n_range (pa_cons pe_int pa_nil)) (pg_name (i := 4) sc_law.nd rfl (Or.inl rfl)) (pss_cons (ps_set (i := 5) sc_law.nd rfl (Or.inl rfl) (pe_call (ok_first_cutting T) (hr.mono (by decide)) (by rfl) T.g7 T.f7.kp T.b7 .nil pass0 (pa_cons (pv 3) pa_nil)))
      (pss_cons (ps_if (PW.pt (pw_or (pt_not (pt_val (pe_call (ok_law_wholes T) (hr.mono (by decide)) (by rfl) T.g8 T.f8.kp T.b8 .nil pass0 (pa_cons (pv 5) pa_nil)))) (pw_or1 (pt_cmpR (op_neDK (K := K) rfl hr.units) (pv 5) (pe_call (ok_law_first T) (hr.mono (by decide)) (by rfl) T.g9 T.f9.kp T.b9 .nil pass0 (pa_cons (pv 3) pa_nil)) (nomark _))))) (pss_cons (ps_ret pe_bl)
      pss_nil) pss_nil)
      (pss_cons (ps_expr (pe_bmK (K := K) rfl (pe_bm PySem.F.plainAttrs_list PySem.F.slot_list_append PySem.F.type_list_append mt_append (pv 5) (pa_cons pe_int pa_nil))))
      pss_nil))))
      pss_nil))))
      (pss_cons (ps_ret (pe_and (pe_cmpR (op_eqDK (K := K) rfl hr.units) (pe_call (ok_first_cutting T) (hr.mono (by decide)) (by rfl) T.g7 T.f7.kp T.b7 .nil pass0 (pa_cons pe_str pa_nil)) (pe_lst pa_nil) (nomark _)) (pe_and (pe_cmpR (op_eqDK (K := K) rfl hr.units) (pe_call (ok_first_cutting T) (hr.mono (by decide)) (by rfl) T.g7 T.f7.kp T.b7 .nil pass0 (pa_cons pe_str pa_nil)) (pe_lst (pa_cons pe_int pa_nil)) (nomark _)) (pe_one (pe_cmpR (op_eqDK (K := K) rfl hr.units) (pe_call (ok_first_cutting T) (hr.mono (by decide)) (by rfl) T.g7 T.f7.kp T.b7 .nil pass0 (pa_cons pe_str pa_nil)) (pe_lst (pa_cons pe_int pa_nil)) (nomark _))))))
      pss_nil)), ?_⟩
    have w0 : W H G0 [] G0 [] H := W.init hs0
    refine st_conv (σ' := [some v_2, none, none, none, none, none]) rfl ?_
    refine cps_forG ?_
    refine cps_rng1 ?_
    refine cps_cons ?_
    refine ev_use (ev_cb (ea_cons ev_c (ea_cons (ev_cb (ea_cons ev_c (ea_cons (ev_cb (ea_cons (ev_var rfl) ea_nil) (kk_lenScr (Mn.mono h_3 w0.sub))) ea_nil)) (kk_min2 _ _)) ea_nil)) (kk_max2 _ _)) ?_
    refine cps_nil ?_
    obtain ⟨xs_4, e_xs_4, hm⟩ := bindS hm
    obtain ⟨hb_5, hx_7, hl_6⟩ := rng1_ok e_xs_4
    refine ⟨_, rfl, hb_5.1, hb_5.2, ?_⟩
    obtain ⟨res_24, e_res_24, hm⟩ := bindS hm
    have hR_res_24 : ∀ r, res_24 = .rt r → r0 = r := fun r e => (ctlK_rt hm e)
    refine loop_w3 walk_range (by rw [hx_7]; exact rangeL_len _ _) e_res_24 (fun s1 σ1 H1 => ∃ o1_ : Option V, ∃ o2_ : Option V, ∃ o3_ : Option V, ∃ o4_ : Option V, ∃ o5_ : Option V, ∃ G1, σ1 = [some v_2, o5_, o1_, o2_, o3_, o4_] ∧ L2.Same G0 G1 ∧ W H G0 [] G1 [] H1) ⟨_, _, _, _, _, _, rfl, (L2.Same.refl _), w0⟩ (fun _ _ _ _ => True.intro) ?_ ?_
    · intro i_8 x_9 s_10 c_11 v_12 sg_13 H_14 H_15 hx_16 hm hR_18 hP_19 hy_20 N_21 kn_22 kb_23
      obtain ⟨o_25, o_26, o_27, o_28, o_29, G_30, rfl, s_31, w_32⟩ := hP_19
      rw [hx_7] at hx_16
      obtain ⟨rfl, rfl⟩ := rng_item hx_16 hy_20
      refine for_nm (τ := [some v_2, some (V.int x_9), o_25, o_26, o_27, o_28]) rfl ?_
      refine cps_asg (fun x => [some v_2, some (V.int x_9), some x, o_26, o_27, o_28]) (fun _ => rfl) ?_
      refine cps_call ?_
      refine cps_cons ?_
      refine ev_use (ev_var rfl) ?_
      refine cps_cons ?_
      refine ev_use (ev_var rfl) ?_
      refine cps_nil ?_
      obtain ⟨r_33, e_r_33, hm⟩ := bindS hm
      refine ⟨script_1, v_2, x_9, (V.int x_9), _, r_33, rfl, w_32.sub, (Mn.mono h_3 s_31), rfl, e_r_33, fun p_39 vs_40 G_34 H_36 q_35 hp_43 hg_44 hh_45 ha_41 hl_42 => ?_⟩
      have hE_46 := W.freshE w_32 hp_43
      obtain rfl := All2.int ha_41
      have w_37 := W.callOwn w_32 q_35 hp_43 hg_44 hh_45
      refine cps_asg (fun x => [some v_2, some (V.int x_9), some (V.ref p_39), some x, o_27, o_28]) (fun _ => rfl) ?_
      refine cps_call ?_
      refine cps_cons ?_
      refine ev_use (ev_var rfl) ?_
      refine cps_cons ?_
      refine ev_use ev_c ?_
      refine cps_nil ?_
      obtain ⟨r_47, e_r_47, hm⟩ := bindS hm
      refine ⟨p_39, r_33, (60), (V.int (60)), _, r_47, rfl, w_37.sub, (W.out w_37 _ (List.Mem.head _)), (W.at w_37 0), hl_42, rfl, e_r_47, fun v_53 G_48 H_50 q_49 r_54 hc_55 hcl_56 => ?_⟩
      have w_51 : W H G0 [] G_48 [(p_39, .lst (r_47.2.map V.int))] H_50 := W.callM w_37 0 rfl q_49 hc_55
      obtain ⟨rfl, ok_57⟩ := r_54
      refine cps_forG ?_
      refine cps_rng1 ?_
      refine cps_cons ?_
      refine ev_use ev_c ?_
      refine cps_nil ?_
      obtain ⟨xs_58, e_xs_58, hm⟩ := bindS hm
      obtain ⟨hb_59, hx_61, hl_60⟩ := rng1_ok e_xs_58
      refine ⟨_, rfl, hb_59.1, hb_59.2, ?_⟩
      obtain ⟨res_78, e_res_78, hm⟩ := bindS hm
      have hR_res_78 : ∀ r, res_78 = .rt (.rt r) → r0 = r := fun r e => (hR_res_24 _ (hR_18 _ (ctlK_rt hm e)))
      refine loop_w3 walk_range (by rw [hx_61]; exact rangeL_len _ _) e_res_78 (fun s1 σ1 H1 => ∃ o1_ : Option V, ∃ o2_ : Option V, ∃ G1, σ1 = [some v_2, some (V.int x_9), some (V.ref p_39), some (vS r_47.1), o2_, o1_] ∧ L2.Same G_48 G1 ∧ W H G0 [] G1 [(p_39, .lst (r_47.2.map V.int))] H1) ⟨_, _, _, rfl, (L2.Same.refl _), w_51⟩ (fun _ _ _ _ => True.intro) ?_ ?_
      · intro i_62 x_63 s_64 c_65 v_66 sg_67 H_68 H_69 hx_70 hm hR_72 hP_73 hy_74 N_75 kn_76 kb_77
        obtain ⟨o_79, o_80, G_81, rfl, s_82, w_83⟩ := hP_73
        rw [hx_61] at hx_70
        obtain ⟨rfl, rfl⟩ := rng_item hx_70 hy_74
        refine for_nm (τ := [some v_2, some (V.int x_9), some (V.ref p_39), some (vS r_47.1), some (V.int x_63), o_79]) rfl ?_
        refine cps_asg (fun x => [some v_2, some (V.int x_9), some (V.ref p_39), some (vS r_47.1), some (V.int x_63), some x]) (fun _ => rfl) ?_
        refine cps_call ?_
        refine cps_cons ?_
        refine ev_use (ev_var rfl) ?_
        refine cps_nil ?_
        obtain ⟨r_84, e_r_84, hm⟩ := bindS hm
        refine ⟨r_47.1, (vS r_47.1), _, r_84, rfl, w_83.sub, ⟨rfl, ok_57⟩, e_r_84, fun p_90 vs_91 G_85 H_87 q_86 hp_94 hg_95 hh_96 ha_92 hl_93 => ?_⟩
        have hE_97 := W.freshE w_83 hp_94
        obtain rfl := All2.int ha_92
        have w_88 := W.callOwn w_83 q_86 hp_94 hg_95 hh_96
        refine s_if0 ?_
        obtain ⟨b_98, hm_123, hm⟩ := bindS hm
        refine cut_et2 (P := fun b H1 => b = b_98 ∧ ∃ G1, L2.Same G_85 G1 ∧ W H G0 [] G1 [(p_90, .lst (r_84.map V.int)), (p_39, .lst (r_47.2.map V.int))] H1) ?_ ?_
        · intro Q' kQ
          have hm := hm_123
          refine cps_or ?_
          refine cps_not ?_
          refine cps_b ?_
          refine cps_call ?_
          refine cps_cons ?_
          refine ev_use (ev_var rfl) ?_
          refine cps_nil ?_
          obtain ⟨r_99, e_r_99, hm⟩ := bindS hm
          refine ⟨r_84, (V.ref p_90), _, r_99, rfl, (L2.Same.refl _), (pL_cell (W.at w_88 0) ha_92 w_88.sub hl_93), e_r_99, fun v_105 G_100 H_102 q_101 r_106 => ?_⟩
          have w_103 := W.callK w_88 q_101
          obtain rfl := r_106
          refine ⟨_, rfl, ?_⟩
          refine if_cases _ (fun hb_107 => ?_) (fun hb_107 => ?_)
          · have hm := iteT' hm hb_107
            obtain rfl := someI hm
            exact kQ _ _ ⟨rfl, _, (L2.Same.refl _), w_103⟩
          · have hm := iteF' hm hb_107
            refine cps_test ?_
            refine cps_op ?_
            refine ev_use (ev_var rfl) ?_
            refine cps_call ?_
            refine cps_cons ?_
            refine ev_use (ev_var rfl) ?_
            refine cps_nil ?_
            obtain ⟨r_108, e_r_108, hm⟩ := bindS hm
            refine ⟨r_47.1, (vS r_47.1), _, r_108, rfl, w_103.sub, ⟨rfl, ok_57⟩, e_r_108, fun p_114 vs_115 G_109 H_111 q_110 hp_118 hg_119 hh_120 ha_116 hl_117 => ?_⟩
            have hE_121 := W.freshE w_103 hp_118
            obtain rfl := All2.int ha_116
            have w_112 := W.callLay w_103 q_110 hp_118 hg_119 hh_120
            have r_122 := pL_new hg_119 ha_116 hl_117
            refine (k_neD (K := K) (R := (pL pI)) (pL_cell (W.at w_112 0) (All2.mono ha_92 (L2.Same.trans (Post.base q_110) (same_new hg_119))) w_112.sub hl_93) (Mn.mono r_122 w_112.sub)) _ ?_
            refine ⟨_, rfl, ?_⟩
            obtain rfl := someI hm
            exact kQ _ _ ⟨rfl, _, (L2.Same.trans (Post.base q_110) (same_new hg_119)), w_112⟩
        rintro _ H_124 ⟨rfl, G_125, s_126, w_127⟩
        refine if_cases _ (fun hb_128 => ?_) (fun hb_128 => ?_)
        · have hm := iteT' hm hb_128
          refine cps_ret ?_
          refine ev_use ev_c ?_
          have er := (hR_res_78 _ (hR_72 _ (someI hm).symm))
          subst er
          exact hq _ _ _ (W.post w_127) rfl 
        have hm := iteF' hm hb_128
        refine cps_nextR ?_
        refine cps_drop ?_
        refine cps_bm ?_
        refine ev_use (ev_var rfl) ?_
        refine ⟨tyL (W.at w_127 0), ?_⟩
        refine cps_cons ?_
        refine ev_use ev_c ?_
        refine cps_nil ?_
        obtain ⟨xs_129, e_xs_129, hm⟩ := bindS hm
        refine app_hw (All2.mono ha_92 s_126) e_xs_129 (W.at w_127 0) ?_
        have ha_130 := app_all (All2.mono ha_92 s_126) rfl e_xs_129
        have w_133 : W H G0 [] _ [(p_90, .lst ((r_84.map V.int) ++ [(V.int (7))])), (p_39, .lst (r_47.2.map V.int))] _ := W.write w_127 0 rfl (.lst ((r_84.map V.int) ++ [(V.int (7))]))
        refine cps_next ?_
        have w_134 : W H G0 [] _ [(p_39, .lst (r_47.2.map V.int))] _ := W.dropN w_133 1
        exact kn_76 _ _ _ (someI hm).symm ⟨_, _, _, rfl, (L2.Same.trans s_82 (L2.Same.trans (Post.base q_86) s_126)), w_134⟩
      rintro s_135 _ H_137 he_136 ⟨o_138, o_139, G_140, rfl, s_141, w_142⟩
      have hm := ctlK_nx hm he_136
      refine cps_next ?_
      have w_143 : W H G0 [] _ [] _ := W.dropN w_142 1
      exact kn_22 _ _ _ (someI hm).symm ⟨_, _, _, _, _, _, rfl, (L2.Same.trans s_31 (L2.Same.trans (Post.base q_35) (L2.Same.trans (Post.base q_49) s_141))), w_143⟩
    rintro s_144 _ H_146 he_145 ⟨o_147, o_148, o_149, o_150, o_151, G_152, rfl, s_153, w_154⟩
    have hm := ctlK_nx hm he_145
    refine cps_ret ?_
    obtain ⟨b_155, hm_224, hm⟩ := bindS hm
    refine cut_ev2 (P := fun b H1 => b = (V.bl b_155) ∧ ∃ G1, L2.Same G_152 G1 ∧ W H G0 [] G1 [] H1) ?_ ?_
    · intro Q' kQ
      have hm := hm_224
      refine cps_andV ?_
      refine cps_op ?_
      refine cps_call ?_
      refine cps_cons ?_
      refine ev_use (ev_str lit0) ?_
      refine cps_nil ?_
      obtain ⟨r_156, e_r_156, hm⟩ := bindS hm
      refine ⟨Lit0, (vS Lit0), _, r_156, rfl, w_154.sub, ⟨rfl, lit0_ok⟩, e_r_156, fun p_162 vs_163 G_157 H_159 q_158 hp_166 hg_167 hh_168 ha_164 hl_165 => ?_⟩
      have hE_169 := W.freshE w_154 hp_166
      obtain rfl := All2.int ha_164
      have w_160 := W.callLay w_154 q_158 hp_166 hg_167 hh_168
      have r_170 := pL_new hg_167 ha_164 hl_165
      refine cps_lst ?_
      refine cps_nil ?_
      refine ⟨lenle rfl, fun p_171 hp_171 => ?_⟩
      have ha_172 : All2 pI (upd G_157 p_162 (.lst (r_156.map V.int))) ([] : List Int) [] := .nil
      have s_174 := same_lay (o := .lst []) w_160 hp_171
      have r_175 := pL_new (W.freshG w_160 hp_171) ha_172 (lenle rfl)
      have w_173 := W.lay w_160 hp_171 (.lst [])
      refine (k_eqD (K := K) (R := (pL pI)) (Mn.mono (Mn.mono r_170 s_174) w_173.sub) (Mn.mono r_175 w_173.sub)) _ ?_
      refine ⟨_, rfl, ?_⟩
      refine if_cases _ (fun hb_176 => ?_) (fun hb_176 => ?_)
      · have hm := iteT' hm hb_176
        obtain ⟨b_177, hm_219, hm⟩ := bindS hm
        refine cut_ev2 (P := fun b H1 => b = (V.bl b_177) ∧ ∃ G1, L2.Same (upd (upd G_157 p_162 (.lst (r_156.map V.int))) p_171 (.lst [])) G1 ∧ W H G0 [] G1 [] H1) ?_ ?_
        · intro Q' kQ
          have hm := hm_219
          refine cps_andV ?_
          refine cps_op ?_
          refine cps_call ?_
          refine cps_cons ?_
          refine ev_use (ev_str lit2) ?_
          refine cps_nil ?_
          obtain ⟨r_178, e_r_178, hm⟩ := bindS hm
          refine ⟨Lit2, (vS Lit2), _, r_178, rfl, w_173.sub, ⟨rfl, lit2_ok⟩, e_r_178, fun p_184 vs_185 G_179 H_181 q_180 hp_188 hg_189 hh_190 ha_186 hl_187 => ?_⟩
          have hE_191 := W.freshE w_173 hp_188
          obtain rfl := All2.int ha_186
          have w_182 := W.callLay w_173 q_180 hp_188 hg_189 hh_190
          have r_192 := pL_new hg_189 ha_186 hl_187
          refine cps_lst ?_
          refine cps_cons ?_
          refine ev_use ev_c ?_
          refine cps_nil ?_
          refine ⟨lenle rfl, fun p_193 hp_193 => ?_⟩
          have ha_194 : All2 pI (upd G_179 p_184 (.lst (r_178.map V.int))) [(0)] [(V.int (0))] := (All2.cons rfl .nil)
          have s_196 := same_lay (o := .lst [(V.int (0))]) w_182 hp_193
          have r_197 := pL_new (W.freshG w_182 hp_193) ha_194 (lenle rfl)
          have w_195 := W.lay w_182 hp_193 (.lst [(V.int (0))])
          refine (k_eqD (K := K) (R := (pL pI)) (Mn.mono (Mn.mono r_192 s_196) w_195.sub) (Mn.mono r_197 w_195.sub)) _ ?_
          refine ⟨_, rfl, ?_⟩
          refine if_cases _ (fun hb_198 => ?_) (fun hb_198 => ?_)
          · have hm := iteT' hm hb_198
            refine cps_op ?_
            refine cps_call ?_
            refine cps_cons ?_
            refine ev_use (ev_str lit3) ?_
            refine cps_nil ?_
            obtain ⟨r_199, e_r_199, hm⟩ := bindS hm
            refine ⟨Lit3, (vS Lit3), _, r_199, rfl, w_195.sub, ⟨rfl, lit3_ok⟩, e_r_199, fun p_205 vs_206 G_200 H_202 q_201 hp_209 hg_210 hh_211 ha_207 hl_208 => ?_⟩
            have hE_212 := W.freshE w_195 hp_209
            obtain rfl := All2.int ha_207
            have w_203 := W.callLay w_195 q_201 hp_209 hg_210 hh_211
            have r_213 := pL_new hg_210 ha_207 hl_208
            refine cps_lst ?_
            refine cps_cons ?_
            refine ev_use ev_c ?_
            refine cps_nil ?_
            refine ⟨lenle rfl, fun p_214 hp_214 => ?_⟩
            have ha_215 : All2 pI (upd G_200 p_205 (.lst (r_199.map V.int))) [(0)] [(V.int (0))] := (All2.cons rfl .nil)
            have s_217 := same_lay (o := .lst [(V.int (0))]) w_203 hp_214
            have r_218 := pL_new (W.freshG w_203 hp_214) ha_215 (lenle rfl)
            have w_216 := W.lay w_203 hp_214 (.lst [(V.int (0))])
            refine (k_eqD (K := K) (R := (pL pI)) (Mn.mono (Mn.mono r_213 s_217) w_216.sub) (Mn.mono r_218 w_216.sub)) _ ?_
            obtain rfl := someI hm
            exact kQ _ _ ⟨rfl, _, (L2.Same.trans (L2.Same.trans (Post.base q_180) (same_new hg_189)) (L2.Same.trans s_196 (L2.Same.trans (L2.Same.trans (Post.base q_201) (same_new hg_210)) s_217))), w_216⟩
          · have hm := iteF' hm hb_198
            obtain rfl := someI hm
            exact kQ _ _ ⟨rfl, _, (L2.Same.trans (L2.Same.trans (Post.base q_180) (same_new hg_189)) s_196), w_195⟩
        rintro _ H_220 ⟨rfl, G_221, s_222, w_223⟩
        obtain rfl := someI hm
        exact kQ _ _ ⟨rfl, _, (L2.Same.trans (L2.Same.trans (Post.base q_158) (same_new hg_167)) (L2.Same.trans s_174 s_222)), w_223⟩
      · have hm := iteF' hm hb_176
        obtain rfl := someI hm
        exact kQ _ _ ⟨rfl, _, (L2.Same.trans (L2.Same.trans (Post.base q_158) (same_new hg_167)) s_174), w_173⟩
    rintro _ H_225 ⟨rfl, G_226, s_227, w_228⟩
    have er := (someI hm).symm
    subst er
    exact hq _ _ _ (W.post w_228) rfl 

end
set_option maxHeartbeats 4000000 in
theorem all_mk {P : Program} {w : World} {K : PySem.W.Frag} {h : Heap} {mg : Str → Option Value} {fl : Addr} (X : K.In h) (G : h.Ns mainGlobals mg) (hfa : mg "law" = some (.ref fl)) {f0 : Addr} {od0 an0 : Option Addr} {sl0 : Array (Option Value)} {oc0 kV0 dc0 pm0 cd0 ct0 : Value} {f1 : Addr} {od1 an1 : Option Addr} {sl1 : Array (Option Value)} {oc1 kV1 dc1 pm1 cd1 ct1 : Value} {f2 : Addr} {od2 an2 : Option Addr} {sl2 : Array (Option Value)} {oc2 kV2 dc2 pm2 cd2 ct2 : Value} {f3 : Addr} {od3 an3 : Option Addr} {sl3 : Array (Option Value)} {oc3 kV3 dc3 pm3 cd3 ct3 : Value} {f4 : Addr} {od4 an4 : Option Addr} {sl4 : Array (Option Value)} {oc4 kV4 dc4 pm4 cd4 ct4 : Value} {f5 : Addr} {od5 an5 : Option Addr} {sl5 : Array (Option Value)} {oc5 kV5 dc5 pm5 cd5 ct5 : Value} {f6 : Addr} {od6 an6 : Option Addr} {sl6 : Array (Option Value)} {oc6 kV6 dc6 pm6 cd6 ct6 : Value} {f7 : Addr} {od7 an7 : Option Addr} {sl7 : Array (Option Value)} {oc7 kV7 dc7 pm7 cd7 ct7 : Value} {f8 : Addr} {od8 an8 : Option Addr} {sl8 : Array (Option Value)} {oc8 kV8 dc8 pm8 cd8 ct8 : Value} {f9 : Addr} {od9 an9 : Option Addr} {sl9 : Array (Option Value)} {oc9 kV9 dc9 pm9 cd9 ct9 : Value} {f10 : Addr} {od10 an10 : Option Addr} {sl10 : Array (Option Value)} {oc10 kV10 dc10 pm10 cd10 ct10 : Value}
    (a0 : PySem.W.nsIn K mainGlobals "_law_pot" = some (some (.ref f0))) (l0 : K.lookup f0 = some ⟨oc0, od0, .func (PySem.W.fnOf "_law_pot" "_law_pot" (defArgs s0) (defBody s0) (defScope s0) .none kV0 dc0 pm0 an0 cd0 ct0), sl0⟩) (c0 : PySem.W.codeIn K cd0 "_law_pot" = true) (k0 : PySem.W.keepIn K (.ref f0) = true)
    (a1 : PySem.W.nsIn K mainGlobals "_law_take" = some (some (.ref f1))) (l1 : K.lookup f1 = some ⟨oc1, od1, .func (PySem.W.fnOf "_law_take" "_law_take" (defArgs s1) (defBody s1) (defScope s1) .none kV1 dc1 pm1 an1 cd1 ct1), sl1⟩) (c1 : PySem.W.codeIn K cd1 "_law_take" = true) (k1 : PySem.W.keepIn K (.ref f1) = true)
    (a2 : PySem.W.nsIn K mainGlobals "_law_grown" = some (some (.ref f2))) (l2 : K.lookup f2 = some ⟨oc2, od2, .func (PySem.W.fnOf "_law_grown" "_law_grown" (defArgs s2) (defBody s2) (defScope s2) .none kV2 dc2 pm2 an2 cd2 ct2), sl2⟩) (c2 : PySem.W.codeIn K cd2 "_law_grown" = true) (k2 : PySem.W.keepIn K (.ref f2) = true)
    (a3 : PySem.W.nsIn K mainGlobals "_law_copies" = some (some (.ref f3))) (l3 : K.lookup f3 = some ⟨oc3, od3, .func (PySem.W.fnOf "_law_copies" "_law_copies" (defArgs s3) (defBody s3) (defScope s3) .none kV3 dc3 pm3 an3 cd3 ct3), sl3⟩) (c3 : PySem.W.codeIn K cd3 "_law_copies" = true) (k3 : PySem.W.keepIn K (.ref f3) = true)
    (a4 : PySem.W.nsIn K mainGlobals "_law_row" = some (some (.ref f4))) (l4 : K.lookup f4 = some ⟨oc4, od4, .func (PySem.W.fnOf "_law_row" "_law_row" (defArgs s4) (defBody s4) (defScope s4) .none kV4 dc4 pm4 an4 cd4 ct4), sl4⟩) (c4 : PySem.W.codeIn K cd4 "_law_row" = true) (k4 : PySem.W.keepIn K (.ref f4) = true)
    (a5 : PySem.W.nsIn K mainGlobals "stands_earlier" = some (some (.ref f5))) (l5 : K.lookup f5 = some ⟨oc5, od5, .func (PySem.W.fnOf "stands_earlier" "stands_earlier" (defArgs s5) (defBody s5) (defScope s5) .none kV5 dc5 pm5 an5 cd5 ct5), sl5⟩) (c5 : PySem.W.codeIn K cd5 "stands_earlier" = true) (k5 : PySem.W.keepIn K (.ref f5) = true)
    (a6 : PySem.W.nsIn K mainGlobals "new_stretches" = some (some (.ref f6))) (l6 : K.lookup f6 = some ⟨oc6, od6, .func (PySem.W.fnOf "new_stretches" "new_stretches" (defArgs s6) (defBody s6) (defScope s6) .none kV6 dc6 pm6 an6 cd6 ct6), sl6⟩) (c6 : PySem.W.codeIn K cd6 "new_stretches" = true) (k6 : PySem.W.keepIn K (.ref f6) = true)
    (a7 : PySem.W.nsIn K mainGlobals "first_cutting" = some (some (.ref f7))) (l7 : K.lookup f7 = some ⟨oc7, od7, .func (PySem.W.fnOf "first_cutting" "first_cutting" (defArgs s7) (defBody s7) (defScope s7) .none kV7 dc7 pm7 an7 cd7 ct7), sl7⟩) (c7 : PySem.W.codeIn K cd7 "first_cutting" = true) (k7 : PySem.W.keepIn K (.ref f7) = true)
    (a8 : PySem.W.nsIn K mainGlobals "_law_wholes" = some (some (.ref f8))) (l8 : K.lookup f8 = some ⟨oc8, od8, .func (PySem.W.fnOf "_law_wholes" "_law_wholes" (defArgs s8) (defBody s8) (defScope s8) .none kV8 dc8 pm8 an8 cd8 ct8), sl8⟩) (c8 : PySem.W.codeIn K cd8 "_law_wholes" = true) (k8 : PySem.W.keepIn K (.ref f8) = true)
    (a9 : PySem.W.nsIn K mainGlobals "_law_first" = some (some (.ref f9))) (l9 : K.lookup f9 = some ⟨oc9, od9, .func (PySem.W.fnOf "_law_first" "_law_first" (defArgs s9) (defBody s9) (defScope s9) .none kV9 dc9 pm9 an9 cd9 ct9), sl9⟩) (c9 : PySem.W.codeIn K cd9 "_law_first" = true) (k9 : PySem.W.keepIn K (.ref f9) = true)
    (a10 : PySem.W.nsIn K mainGlobals "law" = some (some (.ref f10))) (l10 : K.lookup f10 = some ⟨oc10, od10, .func (PySem.W.fnOf "law" "law" (defArgs s10) (defBody s10) (defScope s10) .none kV10 dc10 pm10 an10 cd10 ct10), sl10⟩) (c10 : PySem.W.codeIn K cd10 "law" = true) (k10 : PySem.W.keepIn K (.ref f10) = true)
    (z_abs : PySem.W.nsIn K mainGlobals "abs" = some none) (z_all : PySem.W.nsIn K mainGlobals "all" = some none) (z_any : PySem.W.nsIn K mainGlobals "any" = some none) (z_bool : PySem.W.nsIn K mainGlobals "bool" = some none) (z_int : PySem.W.nsIn K mainGlobals "int" = some none) (z_isinstance : PySem.W.nsIn K mainGlobals "isinstance" = some none) (z_len : PySem.W.nsIn K mainGlobals "len" = some none) (z_list : PySem.W.nsIn K mainGlobals "list" = some none) (z_max : PySem.W.nsIn K mainGlobals "max" = some none) (z_min : PySem.W.nsIn K mainGlobals "min" = some none) (z_range : PySem.W.nsIn K mainGlobals "range" = some none)  :
    ∃ fd : FuncData, (∀ (s : Shared) (v : Value), BindsTo s fd ⟨[v], []⟩ [("_law_script", v)]) ∧ ∀ base : Heap, K.In base → base.Ns mainGlobals mg → FnOk P w K mg base CX0 4 fl fd ["_law_script"] (sp_law K) := by
  have e := hfa.symm.trans (PySem.W.mg_of X G a10)
  cases e
  have F0 := fun_mk (st := s0) l0 c0 k0
  have B0 := F0.binds (ps := ["_law_script", "_law_k"]) fun _ _ _ _ _ _ us hl => match us, hl with | [_, _], _ => rfl
  have F1 := fun_mk (st := s1) l1 c1 k1
  have B1 := F1.binds (ps := ["_law_pot_here", "_law_many"]) fun _ _ _ _ _ _ us hl => match us, hl with | [_, _], _ => rfl
  have F2 := fun_mk (st := s2) l2 c2 k2
  have B2 := F2.binds (ps := ["_law_pot_here", "_law_some", "_law_size"]) fun _ _ _ _ _ _ us hl => match us, hl with | [_, _, _], _ => rfl
  have F3 := fun_mk (st := s3) l3 c3 k3
  have B3 := F3.binds (ps := ["_law_pot_here", "_law_some", "_law_size"]) fun _ _ _ _ _ _ us hl => match us, hl with | [_, _, _], _ => rfl
  have F4 := fun_mk (st := s4) l4 c4 k4
  have B4 := F4.binds (ps := ["_law_pot_here", "_law_most"]) fun _ _ _ _ _ _ us hl => match us, hl with | [_, _], _ => rfl
  have F5 := fun_mk (st := s5) l5 c5 k5
  have B5 := F5.binds (ps := ["row", "begin", "behind"]) fun _ _ _ _ _ _ us hl => match us, hl with | [_, _, _], _ => rfl
  have F6 := fun_mk (st := s6) l6 c6 k6
  have B6 := F6.binds (ps := ["row"]) fun _ _ _ _ _ _ us hl => match us, hl with | [_], _ => rfl
  have F7 := fun_mk (st := s7) l7 c7 k7
  have B7 := F7.binds (ps := ["row"]) fun _ _ _ _ _ _ us hl => match us, hl with | [_], _ => rfl
  have F8 := fun_mk (st := s8) l8 c8 k8
  have B8 := F8.binds (ps := ["_law_found"]) fun _ _ _ _ _ _ us hl => match us, hl with | [_], _ => rfl
  have F9 := fun_mk (st := s9) l9 c9 k9
  have B9 := F9.binds (ps := ["_law_row_here"]) fun _ _ _ _ _ _ us hl => match us, hl with | [_], _ => rfl
  have F10 := fun_mk (st := s10) l10 c10 k10
  have B10 := F10.binds (ps := ["_law_script"]) fun _ _ _ _ _ _ us hl => match us, hl with | [_], _ => rfl
  have T : Txt K mg (fun n => match n with | 0 => f0 | 1 => f1 | 2 => f2 | 3 => f3 | 4 => f4 | 5 => f5 | 6 => f6 | 7 => f7 | 8 => f8 | 9 => f9 | 10 => fl | _ => fl) (fun n => match n with | 0 => (PySem.W.fnOf "_law_pot" "_law_pot" (defArgs s0) (defBody s0) (defScope s0) .none kV0 dc0 pm0 an0 cd0 ct0) | 1 => (PySem.W.fnOf "_law_take" "_law_take" (defArgs s1) (defBody s1) (defScope s1) .none kV1 dc1 pm1 an1 cd1 ct1) | 2 => (PySem.W.fnOf "_law_grown" "_law_grown" (defArgs s2) (defBody s2) (defScope s2) .none kV2 dc2 pm2 an2 cd2 ct2) | 3 => (PySem.W.fnOf "_law_copies" "_law_copies" (defArgs s3) (defBody s3) (defScope s3) .none kV3 dc3 pm3 an3 cd3 ct3) | 4 => (PySem.W.fnOf "_law_row" "_law_row" (defArgs s4) (defBody s4) (defScope s4) .none kV4 dc4 pm4 an4 cd4 ct4) | 5 => (PySem.W.fnOf "stands_earlier" "stands_earlier" (defArgs s5) (defBody s5) (defScope s5) .none kV5 dc5 pm5 an5 cd5 ct5) | 6 => (PySem.W.fnOf "new_stretches" "new_stretches" (defArgs s6) (defBody s6) (defScope s6) .none kV6 dc6 pm6 an6 cd6 ct6) | 7 => (PySem.W.fnOf "first_cutting" "first_cutting" (defArgs s7) (defBody s7) (defScope s7) .none kV7 dc7 pm7 an7 cd7 ct7) | 8 => (PySem.W.fnOf "_law_wholes" "_law_wholes" (defArgs s8) (defBody s8) (defScope s8) .none kV8 dc8 pm8 an8 cd8 ct8) | 9 => (PySem.W.fnOf "_law_first" "_law_first" (defArgs s9) (defBody s9) (defScope s9) .none kV9 dc9 pm9 an9 cd9 ct9) | 10 => (PySem.W.fnOf "law" "law" (defArgs s10) (defBody s10) (defScope s10) .none kV10 dc10 pm10 an10 cd10 ct10) | _ => (PySem.W.fnOf "law" "law" (defArgs s10) (defBody s10) (defScope s10) .none kV10 dc10 pm10 an10 cd10 ct10)) := { f0 := F0, g0 := PySem.W.mg_of X G a0, b0 := B0, f1 := F1, g1 := PySem.W.mg_of X G a1, b1 := B1, f2 := F2, g2 := PySem.W.mg_of X G a2, b2 := B2, f3 := F3, g3 := PySem.W.mg_of X G a3, b3 := B3, f4 := F4, g4 := PySem.W.mg_of X G a4, b4 := B4, f5 := F5, g5 := PySem.W.mg_of X G a5, b5 := B5, f6 := F6, g6 := PySem.W.mg_of X G a6, b6 := B6, f7 := F7, g7 := PySem.W.mg_of X G a7, b7 := B7, f8 := F8, g8 := PySem.W.mg_of X G a8, b8 := B8, f9 := F9, g9 := PySem.W.mg_of X G a9, b9 := B9, f10 := F10, g10 := PySem.W.mg_of X G a10, b10 := B10, n_abs := PySem.W.mg_none_of X G z_abs, n_all := PySem.W.mg_none_of X G z_all, n_any := PySem.W.mg_none_of X G z_any, n_bool := PySem.W.mg_none_of X G z_bool, n_int := PySem.W.mg_none_of X G z_int, n_isinstance := PySem.W.mg_none_of X G z_isinstance, n_len := PySem.W.mg_none_of X G z_len, n_list := PySem.W.mg_none_of X G z_list, n_max := PySem.W.mg_none_of X G z_max, n_min := PySem.W.mg_none_of X G z_min, n_range := PySem.W.mg_none_of X G z_range }
  exact ⟨(PySem.W.fnOf "law" "law" (defArgs s10) (defBody s10) (defScope s10) .none kV10 dc10 pm10 an10 cd10 ct10), fun s v => .of_eq rfl, fun base _ _ => ok_law T⟩
end Lk27

open PySem PySem.W PyProof.Rows
set_option maxRecDepth 100000 in
set_option maxHeartbeats 0 in
theorem PySem.Challenge.cw_likemarks_k27_first_cutting_told_holds : PySem.Challenge.rw_likemarks_k27_first_cutting_told.Holds := by
  w_on; o_law; k_head; (case hw => w_witness2)
  k_fill
  refine L2.walk_of (l := PySem.Challenge.rw_likemarks_k27_first_cutting_told) (n := 63) (k := 4) (x := "_law_script") (CX := fun _ => L2.CX0) (sp := fun w => Lk27.sp_law _) rfl (by decide) rfl ⟨rfl, by decide, by decide⟩ (fun w h Y => PySem.W.kIn_of Y) ?F (fun _ H a ns hl _ hS => ⟨ns, .ref a, H, true, rfl, L2.Same.refl _, ⟨a, rfl, hS⟩, Lk27.law_true ns hl, fun v _ _ _ hv => hv⟩) (fun _ _ _ _ _ h => h)
  case F =>
    intro w mg fl h KX G hmg
    refine' Lk27.all_mk KX G hmg ?a0 ?l0 ?c0 ?k0 ?a1 ?l1 ?c1 ?k1 ?a2 ?l2 ?c2 ?k2 ?a3 ?l3 ?c3 ?k3 ?a4 ?l4 ?c4 ?k4 ?a5 ?l5 ?c5 ?k5 ?a6 ?l6 ?c6 ?k6 ?a7 ?l7 ?c7 ?k7 ?a8 ?l8 ?c8 ?k8 ?a9 ?l9 ?c9 ?k9 ?a10 ?l10 ?c10 ?k10 ?z_abs ?z_all ?z_any ?z_bool ?z_int ?z_isinstance ?z_len ?z_list ?z_max ?z_min ?z_range
    (case a0 => k_is)
    (case l0 => k_is)
    (case c0 => k_is)
    (case k0 => k_is)
    (case a1 => k_is)
    (case l1 => k_is)
    (case c1 => k_is)
    (case k1 => k_is)
    (case a2 => k_is)
    (case l2 => k_is)
    (case c2 => k_is)
    (case k2 => k_is)
    (case a3 => k_is)
    (case l3 => k_is)
    (case c3 => k_is)
    (case k3 => k_is)
    (case a4 => k_is)
    (case l4 => k_is)
    (case c4 => k_is)
    (case k4 => k_is)
    (case a5 => k_is)
    (case l5 => k_is)
    (case c5 => k_is)
    (case k5 => k_is)
    (case a6 => k_is)
    (case l6 => k_is)
    (case c6 => k_is)
    (case k6 => k_is)
    (case a7 => k_is)
    (case l7 => k_is)
    (case c7 => k_is)
    (case k7 => k_is)
    (case a8 => k_is)
    (case l8 => k_is)
    (case c8 => k_is)
    (case k8 => k_is)
    (case a9 => k_is)
    (case l9 => k_is)
    (case c9 => k_is)
    (case k9 => k_is)
    (case a10 => k_is)
    (case l10 => k_is)
    (case c10 => k_is)
    (case k10 => k_is)
    (case z_abs => k_is)
    (case z_all => k_is)
    (case z_any => k_is)
    (case z_bool => k_is)
    (case z_int => k_is)
    (case z_isinstance => k_is)
    (case z_len => k_is)
    (case z_list => k_is)
    (case z_max => k_is)
    (case z_min => k_is)
    (case z_range => k_is)
