import PyProof.Rows.All
import Wide.All
import OpenK.AllK
import Wide.FinOn
import HandS.ForMost
import HandS.Walk
import HandS.StrMore
import HandS.Wide
import HandS.IsInst
import HandS.ListEq
import HandS.Style
import HandS.RevRange
import HandS.Rev
import HandS.Zip
import HandS.Strs
import HandS.Text
import HandS.More
import HandS.SortInts
import HandS.TupAny
import KE.DataMinMax
import HandS.SortKw
import PyProof.CollectStr
import PyProof.ListStr
import HandS.Conv
import PySem.Challenge.RW_likemarks_k05_words_over_marks
set_option Elab.async false
set_option linter.all false
set_option maxRecDepth 100000
set_option maxHeartbeats 4000000
namespace MK
open PySem PySem.Spec L2

/-! ### reps -/
def sS (l : List Nat) : Str := ⟨l.toArray⟩
theorem sS_len (l : List Nat) : (sS l).length = l.length := by simp [sS, Str.length]
theorem sS_list (l : List Nat) : (sS l).cps.toList = l := by simp [sS]
theorem sS_inj {l m : List Nat} (h : sS l = sS m) : l = m := by
  have := congrArg (fun s : Str => s.cps.toList) h
  simpa [sS] using this
def vS (l : List Nat) : V := .str (sS l)
abbrev Rep (α : Type) := α → V → Hp → Prop
def pI : Rep Int := fun n v _ => v = .int n
def pB : Rep Bool := fun b v _ => v = .bl b
def pU : Rep Unit := fun _ v _ => v = .non
structure OkS (l : List Nat) : Prop where
  len : l.length ≤ sizeLine
  cps : ∀ c ∈ l, c < 0x110000
def pS : Rep (List Nat) := fun l v _ => v = vS l ∧ OkS l
def pO {α} (R : Rep α) : Rep (Option α) := fun o v H => match o with | none => v = .non | some x => R x v H
inductive All2 {α : Type} (R : Rep α) (H : Hp) : List α → List V → Prop
  | nil : All2 R H [] []
  | cons {x : α} {v : V} {xs : List α} {vs : List V} : R x v H → All2 R H xs vs → All2 R H (x :: xs) (v :: vs)
def pL {α} (R : Rep α) : Rep (List α) := fun xs v H => ∃ a vs, v = .ref a ∧ H a = some (.lst vs) ∧ All2 R H xs vs ∧ xs.length ≤ sizeLine
def pT1 {α} (R : Rep α) : Rep α := fun p v H => ∃ a u, v = .ref a ∧ H a = some (.tup [u]) ∧ R p u H
def pT2 {α β} (R : Rep α) (S : Rep β) : Rep (α × β) := fun p v H => ∃ a u w, v = .ref a ∧ H a = some (.tup [u, w]) ∧ R p.1 u H ∧ S p.2 w H
def pT3 {α β γ} (R : Rep α) (S : Rep β) (T : Rep γ) : Rep (α × β × γ) := fun p v H => ∃ a u w x, v = .ref a ∧ H a = some (.tup [u, w, x]) ∧ R p.1 u H ∧ S p.2.1 w H ∧ T p.2.2 x H
def pT4 {α β γ δ} (R : Rep α) (S : Rep β) (T : Rep γ) (U : Rep δ) : Rep (α × β × γ × δ) := fun p v H => ∃ a u w x y, v = .ref a ∧ H a = some (.tup [u, w, x, y]) ∧ R p.1 u H ∧ S p.2.1 w H ∧ T p.2.2.1 x H ∧ U p.2.2.2 y H
/-- the script: read alone -/
def pScr (K : PySem.W.Frag) : Rep (List Int) := fun ns v H => ∃ a, v = .ref a ∧ SqL K H a (ns.map V.int)

class Mn {α : Type} (R : Rep α) : Prop where
  mono : ∀ {x v H H'}, R x v H → L2.Same H H' → R x v H'
instance : Mn pI := ⟨fun h _ => h⟩
instance : Mn pB := ⟨fun h _ => h⟩
instance : Mn pU := ⟨fun h _ => h⟩
instance : Mn pS := ⟨fun h _ => h⟩
instance {α} {R : Rep α} [Mn R] : Mn (pO R) := ⟨fun {x v H H'} h s => by
  cases x with
  | none => exact h
  | some x => exact Mn.mono (R := R) h s⟩
theorem All2.mono {α} {R : Rep α} [Mn R] {xs : List α} {vs : List V} {H H' : Hp} (h : All2 R H xs vs) (s : L2.Same H H') : All2 R H' xs vs := by
  induction h with
  | nil => exact .nil
  | cons r _ ih => exact .cons (Mn.mono r s) ih
instance {α} {R : Rep α} [Mn R] : Mn (pL R) := ⟨fun ⟨a, vs, e, h, p, l⟩ s => ⟨a, vs, e, s _ _ h, All2.mono p s, l⟩⟩
instance {α} {R : Rep α} [Mn R] : Mn (pT1 R) := ⟨fun ⟨a, u, e, h, p⟩ s => ⟨a, u, e, s _ _ h, Mn.mono p s⟩⟩
instance {α β} {R : Rep α} {S : Rep β} [Mn R] [Mn S] : Mn (pT2 R S) := ⟨fun ⟨a, u, w, e, h, p, q⟩ s => ⟨a, u, w, e, s _ _ h, Mn.mono p s, Mn.mono q s⟩⟩
instance {α β γ} {R : Rep α} {S : Rep β} {T : Rep γ} [Mn R] [Mn S] [Mn T] : Mn (pT3 R S T) := ⟨fun ⟨a, u, w, x, e, h, p, q, r⟩ s => ⟨a, u, w, x, e, s _ _ h, Mn.mono p s, Mn.mono q s, Mn.mono r s⟩⟩
instance {α β γ δ} {R : Rep α} {S : Rep β} {T : Rep γ} {U : Rep δ} [Mn R] [Mn S] [Mn T] [Mn U] : Mn (pT4 R S T U) := ⟨fun ⟨a, u, w, x, y, e, h, p, q, r, z⟩ s => ⟨a, u, w, x, y, e, s _ _ h, Mn.mono p s, Mn.mono q s, Mn.mono r s, Mn.mono z s⟩⟩
instance {K : PySem.W.Frag} : Mn (pScr K) := ⟨fun ⟨a, e, h⟩ s => ⟨a, e, L2.Same.seq s h⟩⟩

theorem All2.len {α} {R : Rep α} {xs : List α} {vs : List V} {H : Hp} (h : All2 R H xs vs) : xs.length = vs.length := by
  induction h with
  | nil => rfl
  | cons _ _ ih => simp [ih]
theorem All2.app {α} {R : Rep α} {H : Hp} : ∀ {xs ys : List α} {vs ws : List V}, All2 R H xs vs → All2 R H ys ws → All2 R H (xs ++ ys) (vs ++ ws)
  | _, _, _, _, .nil, h => h
  | _, _, _, _, .cons r t, h => .cons r (All2.app t h)
theorem All2.one {α} {R : Rep α} {H : Hp} {x : α} {v : V} (h : R x v H) : All2 R H [x] [v] := .cons h .nil
theorem All2.get {α} {R : Rep α} {H : Hp} : ∀ {xs : List α} {vs : List V} {i : Nat} {x : α}, All2 R H xs vs → xs[i]? = some x → ∃ v, vs[i]? = some v ∧ R x v H
  | _, _, _, _, .nil, e => by simp at e
  | _, _, 0, _, .cons r _, e => by simp at e; subst e; exact ⟨_, rfl, r⟩
  | _, _, i + 1, x, .cons _ t, e => by
    obtain ⟨u, h1, h2⟩ := All2.get (i := i) (x := x) t (by simpa using e)
    exact ⟨u, by simpa using h1, h2⟩
theorem All2.getV {α} {R : Rep α} {H : Hp} : ∀ {xs : List α} {vs : List V} {i : Nat} {v : V}, All2 R H xs vs → vs[i]? = some v → ∃ x, xs[i]? = some x ∧ R x v H
  | _, _, _, _, .nil, e => by simp at e
  | _, _, 0, _, .cons r _, e => by simp at e; subst e; exact ⟨_, rfl, r⟩
  | _, _, i + 1, x, .cons _ t, e => by
    obtain ⟨u, h1, h2⟩ := All2.getV (i := i) (v := x) t (by simpa using e)
    exact ⟨u, by simpa using h1, h2⟩
theorem All2.take {α} {R : Rep α} {H : Hp} : ∀ {xs : List α} {vs : List V} (n : Nat), All2 R H xs vs → All2 R H (xs.take n) (vs.take n)
  | _, _, 0, _ => .nil
  | _, _, _ + 1, .nil => .nil
  | _, _, n + 1, .cons r t => .cons r (All2.take n t)
theorem All2.drop {α} {R : Rep α} {H : Hp} : ∀ {xs : List α} {vs : List V} (n : Nat), All2 R H xs vs → All2 R H (xs.drop n) (vs.drop n)
  | _, _, 0, h => h
  | _, _, _ + 1, .nil => .nil
  | _, _, n + 1, .cons _ t => All2.drop n t
theorem All2.set {α} {R : Rep α} {H : Hp} {x : α} {v : V} (r : R x v H) : ∀ {xs : List α} {vs : List V} (n : Nat), All2 R H xs vs → All2 R H (xs.set n x) (vs.set n v)
  | _, _, _, .nil => .nil
  | _, _, 0, .cons _ t => .cons r t
  | _, _, n + 1, .cons q t => .cons q (All2.set r n t)
theorem All2.rev {α} {R : Rep α} {H : Hp} : ∀ {xs : List α} {vs : List V}, All2 R H xs vs → All2 R H xs.reverse vs.reverse
  | _, _, .nil => .nil
  | x :: xs, v :: vs, .cons r t => by rw [List.reverse_cons, List.reverse_cons]; exact All2.app (All2.rev t) (All2.one r)
theorem All2.int {xs : List Int} {vs : List V} {H : Hp} (h : All2 pI H xs vs) : vs = xs.map V.int := by
  induction h with
  | nil => rfl
  | cons r _ ih => rw [List.map_cons, ih]; rw [show _ = _ from r]
theorem All2.ofInt : ∀ (xs : List Int) (H : Hp), All2 pI H xs (xs.map V.int)
  | [], _ => .nil
  | x :: xs, H => .cons rfl (All2.ofInt xs H)
theorem All2.bool {xs : List Bool} {vs : List V} {H : Hp} (h : All2 pB H xs vs) : vs = xs.map V.bl := by
  induction h with
  | nil => rfl
  | cons r _ ih => rw [List.map_cons, ih]; rw [show _ = _ from r]
theorem All2.ofBool : ∀ (xs : List Bool) (H : Hp), All2 pB H xs (xs.map V.bl)
  | [], _ => .nil
  | x :: xs, H => .cons rfl (All2.ofBool xs H)
theorem All2.str {xs : List (List Nat)} {vs : List V} {H : Hp} (h : All2 pS H xs vs) : vs = xs.map vS ∧ ∀ l ∈ xs, OkS l := by
  induction h with
  | nil => exact ⟨rfl, by simp⟩
  | cons r _ ih =>
    obtain ⟨r1, r2⟩ := r
    refine ⟨by rw [List.map_cons, ih.1, r1], fun l hl => ?_⟩
    rcases List.mem_cons.mp hl with rfl | hl
    · exact r2
    · exact ih.2 l hl
theorem All2.ofStr : ∀ (xs : List (List Nat)) (H : Hp), (∀ l ∈ xs, OkS l) → All2 pS H xs (xs.map vS)
  | [], _, _ => .nil
  | x :: xs, H, h => .cons ⟨rfl, h _ List.mem_cons_self⟩ (All2.ofStr xs H fun l hl => h l (List.mem_cons_of_mem _ hl))
theorem vS_map (xs : List (List Nat)) : xs.map vS = (xs.map sS).map V.str := by rw [List.map_map]; rfl

/-! ### the frame: G the base (never changed), cs the cells, H the heap; E the heap at the entry, G0 the base there, M the cells that were handed in to be changed -/
structure W (E G0 : Hp) (M : List Addr) (G : Hp) (cs : List (Addr × HO)) (H : Hp) : Prop where
  sub : L2.Same G H
  at_ : ∀ c ∈ cs, H c.1 = some c.2
  out : ∀ c ∈ cs, G c.1 = none
  nd : cs.Pairwise (fun c d => c.1 ≠ d.1)
  own : ∀ c ∈ cs, c.1 ∈ M ∨ E c.1 = none
  keep : ∀ b o, E b = some o → b ∉ M → H b = some o
  base : L2.Same G0 G
  sep : ∀ b, E b ≠ none → G0 b = none → G b = none
  live : ∀ a ∈ M, H a ≠ none
structure Post (M : List Addr) (G H G' H' : Hp) : Prop where
  base : L2.Same G G'
  sub : L2.Same G' H'
  keep : ∀ b o, H b = some o → b ∉ M → H' b = some o
  sep : ∀ b, H b ≠ none → G b = none → G' b = none
section
variable {E G0 G G' H H' : Hp} {M : List Addr} {cs : List (Addr × HO)} {p : Addr} {o o' : HO}
theorem W.post (w : W E G0 M G cs H) : Post M G0 E G H := ⟨w.base, w.sub, w.keep, w.sep⟩
theorem W.init (h : L2.Same G H) : W H G [] G [] H := ⟨h, (fun _ z => nomatch z), (fun _ z => nomatch z), .nil, (fun _ z => nomatch z), fun _ _ e _ => e, fun _ _ e => e, fun _ _ e => e, (fun _ z => nomatch z)⟩
theorem W.init1 (h : L2.Same G H) (e : H p = some o) (n : G p = none) : W H G [p] G [(p, o)] H := ⟨h, fun c z => by cases List.mem_singleton.mp z; exact e, fun c z => by cases List.mem_singleton.mp z; exact n, .cons (fun _ z => nomatch z) .nil, fun c z => by cases List.mem_singleton.mp z; exact .inl (List.mem_singleton.mpr rfl), fun _ _ e _ => e, fun _ _ e => e, fun _ _ e => e, fun a z => by cases List.mem_singleton.mp z; rw [e]; simp⟩
theorem W.freshE (w : W E G0 M G cs H) (h : H p = none) : E p = none := by
  cases q : E p with
  | none => rfl
  | some u =>
    by_cases hm : p ∈ M
    · exact absurd h (w.live p hm)
    · rw [w.keep p u q hm] at h; cases h
theorem W.freshG (w : W E G0 M G cs H) (h : H p = none) : G p = none := w.sub.free h
theorem W.ne (w : W E G0 M G cs H) (h : H p = none) : ∀ c ∈ cs, c.1 ≠ p := fun c hc e => by
  have := w.at_ c hc
  rw [e, h] at this; cases this
/-- a new object that is never changed -/
theorem W.lay (w : W E G0 M G cs H) (h : H p = none) (o : HO) : W E G0 M (upd G p o) cs (upd H p o) where
  sub := fun b u e => by
    by_cases hb : b = p
    · subst hb; rw [upd_same] at e; rw [upd_same]; exact e
    · rw [upd_ne hb] at e; rw [upd_ne hb]; exact w.sub b u e
  at_ := fun c hc => by rw [upd_ne (w.ne h c hc)]; exact w.at_ c hc
  out := fun c hc => by rw [upd_ne (w.ne h c hc)]; exact w.out c hc
  nd := w.nd
  own := w.own
  keep := fun b u e hm => by rw [upd_ne (ne_of_none (w.keep b u e hm) h)]; exact w.keep b u e hm
  base := fun b u e => by rw [upd_ne (ne_of_none (w.sub b u (w.base b u e)) h)]; exact w.base b u e
  sep := fun b e1 e2 => by
    have hb : b ≠ p := fun z => by subst z; exact e1 (w.freshE h)
    rw [upd_ne hb]; exact w.sep b e1 e2
  live := fun a ha => by
    by_cases hb : a = p
    · subst hb; rw [upd_same]; simp
    · rw [upd_ne hb]; exact w.live a ha
theorem same_lay (w : W E G0 M G cs H) (h : H p = none) : L2.Same G (upd G p o) := fun b u e => by rw [upd_ne (ne_of_none (w.sub b u e) h)]; exact e
/-- a new cell -/
theorem W.cell (w : W E G0 M G cs H) (h : H p = none) (o : HO) : W E G0 M G ((p, o) :: cs) (upd H p o) where
  sub := fun b u e => by rw [upd_ne (ne_of_none (w.sub b u e) h)]; exact w.sub b u e
  at_ := fun c hc => by
    rcases List.mem_cons.mp hc with rfl | hc
    · exact upd_same
    · rw [upd_ne (w.ne h c hc)]; exact w.at_ c hc
  out := fun c hc => by
    rcases List.mem_cons.mp hc with rfl | hc
    · exact w.freshG h
    · exact w.out c hc
  nd := .cons (fun d hd => (w.ne h d hd).symm) w.nd
  own := fun c hc => by
    rcases List.mem_cons.mp hc with rfl | hc
    · exact .inr (w.freshE h)
    · exact w.own c hc
  keep := fun b u e hm => by rw [upd_ne (ne_of_none (w.keep b u e hm) h)]; exact w.keep b u e hm
  base := w.base
  sep := w.sep
  live := fun a ha => by
    by_cases hb : a = p
    · subst hb; rw [upd_same]; simp
    · rw [upd_ne hb]; exact w.live a ha
theorem mem_set_ne {cs : List (Addr × HO)} {k : Nat} (nd : cs.Pairwise (fun c d => c.1 ≠ d.1)) (hk : cs[k]? = some (p, o)) : ∀ c ∈ cs.set k (p, o'), c = (p, o') ∨ (c ∈ cs ∧ c.1 ≠ p) := by
  induction cs generalizing k with
  | nil => simp at hk
  | cons d ds ih =>
    intro c hc
    cases nd with
    | cons h1 h2 =>
      cases k with
      | zero =>
        simp at hk
        subst hk
        rw [List.set_cons_zero] at hc
        rcases List.mem_cons.mp hc with rfl | hc
        · exact .inl rfl
        · exact .inr ⟨List.mem_cons_of_mem _ hc, (h1 c hc).symm⟩
      | succ k =>
        rw [List.set_cons_succ] at hc
        have hk' : ds[k]? = some (p, o) := by simpa using hk
        rcases List.mem_cons.mp hc with rfl | hc
        · exact .inr ⟨List.mem_cons_self, h1 (p, o) (List.mem_of_getElem? hk')⟩
        · rcases ih h2 hk' c hc with e | ⟨e1, e2⟩
          · exact .inl e
          · exact .inr ⟨List.mem_cons_of_mem _ e1, e2⟩
theorem pairwise_set {cs : List (Addr × HO)} {k : Nat} (nd : cs.Pairwise (fun c d => c.1 ≠ d.1)) (hk : cs[k]? = some (p, o)) : (cs.set k (p, o')).Pairwise (fun c d => c.1 ≠ d.1) := by
  have e : (cs.set k (p, o')).map (·.1) = cs.map (·.1) := by
    apply List.ext_getElem?
    intro i
    rw [List.getElem?_map, List.getElem?_map, List.getElem?_set]
    by_cases hi : k = i
    · subst hi
      rw [if_pos rfl]
      have : k < cs.length := (List.getElem?_eq_some_iff.mp hk).1
      rw [if_pos this, hk]; rfl
    · rw [if_neg hi]
  have h1 : (cs.map (·.1)).Pairwise (· ≠ ·) := List.pairwise_map.mpr nd
  rw [← e] at h1
  exact List.pairwise_map.mp h1
/-- a cell is changed -/
theorem W.write (w : W E G0 M G cs H) (k : Nat) (hk : cs[k]? = some (p, o)) (o' : HO) : W E G0 M G (cs.set k (p, o')) (upd H p o') := by
  have hp : (p, o) ∈ cs := List.mem_of_getElem? hk
  have gp : G p = none := w.out _ hp
  refine ⟨fun b u e => ?_, fun c hc => ?_, fun c hc => ?_, pairwise_set w.nd hk, fun c hc => ?_, fun b u e hm => ?_, w.base, w.sep, fun a ha => ?_⟩
  · rw [upd_ne (ne_of_none e gp)]; exact w.sub b u e
  · rcases mem_set_ne w.nd hk c hc with rfl | ⟨h1, h2⟩
    · exact upd_same
    · rw [upd_ne h2]; exact w.at_ c h1
  · rcases mem_set_ne w.nd hk c hc with rfl | ⟨h1, h2⟩
    · exact gp
    · exact w.out c h1
  · rcases mem_set_ne w.nd hk c hc with rfl | ⟨h1, h2⟩
    · have q := w.own (p, o) hp; exact q
    · exact w.own c h1
  · have hb : b ≠ p := fun z => by
      subst z
      rcases w.own _ hp with q | q
      · exact hm q
      · exact absurd (e.symm.trans q) (by simp)
    rw [upd_ne hb]; exact w.keep b u e hm
  · by_cases hb : a = p
    · subst hb; rw [upd_same]; simp
    · rw [upd_ne hb]; exact w.live a ha
theorem W.at (w : W E G0 M G cs H) (k : Nat) (hk : cs[k]? = some (p, o) := by rfl) : H p = some o := w.at_ _ (List.mem_of_getElem? hk)
/-- a cell is forgotten -/
theorem W.sub' {cs' : List (Addr × HO)} (w : W E G0 M G cs H) (h : cs'.Sublist cs) : W E G0 M G cs' H := ⟨w.sub, fun c hc => w.at_ c (h.subset hc), fun c hc => w.out c (h.subset hc), w.nd.sublist h, fun c hc => w.own c (h.subset hc), w.keep, w.base, w.sep, w.live⟩
theorem W.perm {cs' : List (Addr × HO)} (w : W E G0 M G cs H) (h : cs.Perm cs') : W E G0 M G cs' H := ⟨w.sub, fun c hc => w.at_ c (h.mem_iff.mpr hc), fun c hc => w.out c (h.mem_iff.mpr hc), (h.pairwise_iff (fun h => h.symm)).mp w.nd, fun c hc => w.own c (h.mem_iff.mpr hc), w.keep, w.base, w.sep, w.live⟩
/-- a cell of one's own (the k-th) is changed no more -/
theorem W.freeze (w : W E G0 M G cs H) (k : Nat) (hk : cs[k]? = some (p, o)) (hE : E p = none) : W E G0 M (upd G p o) (cs.eraseIdx k) H := by
  have hp : (p, o) ∈ cs := List.mem_of_getElem? hk
  have hs : (cs.eraseIdx k).Sublist cs := List.eraseIdx_sublist _ _
  have ne : ∀ c ∈ cs.eraseIdx k, c.1 ≠ p := by
    have hg := w.nd
    clear hs
    induction cs generalizing k with
    | nil => simp at hk
    | cons d ds ih =>
      intro c hc
      cases hg with
      | cons h1 h2 =>
        cases k with
        | zero =>
          simp at hk; subst hk
          rw [List.eraseIdx_cons_zero] at hc
          exact (h1 c hc).symm
        | succ k =>
          rw [List.eraseIdx_cons_succ] at hc
          have hk' : ds[k]? = some (p, o) := by simpa using hk
          rcases List.mem_cons.mp hc with rfl | hc
          · exact h1 (p, o) (List.mem_of_getElem? hk')
          · exact ih (w.sub' (List.sublist_cons_self _ _)) k hk' (List.mem_of_getElem? hk') h2 c hc
  refine ⟨fun b u e => ?_, fun c hc => w.at_ c (hs.subset hc), fun c hc => ?_, w.nd.sublist hs, fun c hc => w.own c (hs.subset hc), w.keep, fun b u e => ?_, fun b e1 e2 => ?_, w.live⟩
  · by_cases hb : b = p
    · subst hb; rw [upd_same] at e; cases e; exact w.at_ _ hp
    · rw [upd_ne hb] at e; exact w.sub b u e
  · rw [upd_ne (ne c hc)]; exact w.out c (hs.subset hc)
  · rw [upd_ne (ne_of_none (w.base b u e) (w.out _ hp))]; exact w.base b u e
  · have hb : b ≠ p := fun z => by subst z; exact e1 hE
    rw [upd_ne hb]; exact w.sep b e1 e2
theorem same_freeze (w : W E G0 M G cs H) (k : Nat) (hk : cs[k]? = some (p, o)) : L2.Same G (upd G p o) := fun b u e => by rw [upd_ne (ne_of_none e (w.out _ (List.mem_of_getElem? hk)))]; exact e
/-- behind a call that changes nothing -/
theorem W.call (w : W E G0 M G cs H) (q : Post [] G H G' H') : W E G0 M G' cs H' := by
  have k : ∀ b u, H b = some u → H' b = some u := fun b u e => q.keep b u e (fun z => nomatch z)
  have hE : ∀ b, E b ≠ none → H b ≠ none := fun b e => by
    by_cases hm : b ∈ M
    · exact w.live b hm
    · cases z : E b with
      | none => exact absurd z e
      | some u => rw [w.keep b u z hm]; simp
  refine ⟨q.sub, fun c hc => k _ _ (w.at_ c hc), fun c hc => q.sep _ (by rw [w.at_ c hc]; simp) (w.out c hc), w.nd, w.own, fun b u e hm => k b u (w.keep b u e hm), w.base.trans q.base, fun b e1 e2 => q.sep b (hE b e1) (w.sep b e1 e2), fun a ha => ?_⟩
  cases z : H a with
  | none => exact absurd z (w.live a ha)
  | some u => rw [k a u z]; simp
/-- .. the base stays as it was -/
theorem W.callK (w : W E G0 M G cs H) {GH : Hp} (q : Post [] GH H G' H') : W E G0 M G cs H' := by
  have k : ∀ b u, H b = some u → H' b = some u := fun b u e => q.keep b u e (fun z => nomatch z)
  refine ⟨fun b u e => k b u (w.sub b u e), fun c hc => k _ _ (w.at_ c hc), w.out, w.nd, w.own, fun b u e hm => k b u (w.keep b u e hm), w.base, w.sep, fun a ha => ?_⟩
  cases z : H a with
  | none => exact absurd z (w.live a ha)
  | some u => rw [k a u z]; simp
/-- behind a call that changes the k-th cell -/
theorem W.callM (w : W E G0 M G cs H) (k : Nat) (hk : cs[k]? = some (p, o)) (q : Post [p] G H G' H') (hp' : H' p = some o') : W E G0 M G' (cs.set k (p, o')) H' := by
  have hp : (p, o) ∈ cs := List.mem_of_getElem? hk
  have kk : ∀ b u, b ≠ p → H b = some u → H' b = some u := fun b u n e => q.keep b u e (fun z => n (List.mem_singleton.mp z))
  have hE : ∀ b, E b ≠ none → H b ≠ none := fun b e => by
    by_cases hm : b ∈ M
    · exact w.live b hm
    · cases z : E b with
      | none => exact absurd z e
      | some u => rw [w.keep b u z hm]; simp
  refine ⟨q.sub, fun c hc => ?_, fun c hc => ?_, pairwise_set w.nd hk, fun c hc => ?_, fun b u e hm => ?_, w.base.trans q.base, fun b e1 e2 => q.sep b (hE b e1) (w.sep b e1 e2), fun a ha => ?_⟩
  · rcases mem_set_ne w.nd hk c hc with rfl | ⟨h1, h2⟩
    · exact hp'
    · exact kk _ _ h2 (w.at_ c h1)
  · rcases mem_set_ne w.nd hk c hc with rfl | ⟨h1, h2⟩
    · exact q.sep p (by rw [w.at_ _ hp]; simp) (w.out _ hp)
    · exact q.sep _ (by rw [w.at_ c h1]; simp) (w.out c h1)
  · rcases mem_set_ne w.nd hk c hc with rfl | ⟨h1, h2⟩
    · have q := w.own (p, o) hp; exact q
    · exact w.own c h1
  · have hb : b ≠ p := fun z => by
      subst z
      rcases w.own _ hp with q | q
      · exact hm q
      · exact absurd (e.symm.trans q) (by simp)
    exact kk b u hb (w.keep b u e hm)
  · by_cases hb : a = p
    · subst hb; rw [hp']; simp
    · cases z : H a with
      | none => exact absurd z (w.live a ha)
      | some u => rw [kk a u hb z]; simp
/-- behind a call that hands back a new cell -/
theorem W.own' (w : W E G0 M G cs H') (hE : E p = none) (hp : H' p = some o) (hG : G p = none) (hc : ∀ c ∈ cs, c.1 ≠ p) : W E G0 M G ((p, o) :: cs) H' := by
  refine ⟨w.sub, fun c z => ?_, fun c z => ?_, .cons (fun d hd => (hc d hd).symm) w.nd, fun c z => ?_, w.keep, w.base, w.sep, w.live⟩
  · rcases List.mem_cons.mp z with rfl | z
    · exact hp
    · exact w.at_ c z
  · rcases List.mem_cons.mp z with rfl | z
    · exact hG
    · exact w.out c z
  · rcases List.mem_cons.mp z with rfl | z
    · exact .inr hE
    · exact w.own c z
end
end MK

namespace MK
open PySem PySem.Spec L2

/-! ### the mirror's words -/
theorem bindS {α β : Type} {a : Option α} {f : α → Option β} {r : β} (h : a.bind f = some r) : ∃ x, a = some x ∧ f x = some r := by
  cases a with
  | none => cases h
  | some x => exact ⟨x, rfl, h⟩
theorem iteT' {α : Type} {b : Bool} {A B : Option α} {r : α} (h : (if b = true then A else B) = some r) (hb : b = true) : A = some r := by rw [if_pos hb] at h; exact h
theorem iteF' {α : Type} {b : Bool} {A B : Option α} {r : α} (h : (if b = true then A else B) = some r) (hb : b = false) : B = some r := by rw [hb, if_neg Bool.false_ne_true] at h; exact h
theorem someI {α : Type} {a b : α} (h : some a = some b) : a = b := Option.some.inj h
/-- a way out of a loop's turn -/
inductive Ctl (ρ σ : Type) where
  | nx (s : σ) | bk (s : σ) | rt (r : ρ)
def loopM {α ρ σ : Type} (f : α → σ → Option (Ctl ρ σ)) : List α → σ → Option (Ctl ρ σ)
  | [], s => some (.nx s)
  | x :: xs, s => (f x s).bind fun c => match c with
    | .nx s' => loopM f xs s'
    | .bk s' => some (.nx s')
    | .rt r => some (.rt r)
def foldO {α σ : Type} (f : α → σ → Option σ) : List α → σ → Option σ
  | [], s => some s
  | x :: xs, s => (f x s).bind (foldO f xs)
def whileM {ρ σ : Type} (c : σ → Option Bool) (f : σ → Option (Ctl ρ σ)) : Nat → σ → Option (Ctl ρ σ)
  | 0, _ => none
  | n + 1, s => (c s).bind fun b => if b = true then (f s).bind fun r => match r with
    | .nx s' => whileM c f n s'
    | .bk s' => some (.nx s')
    | .rt r => some (.rt r)
    else some (.nx s)
/-- a comprehension: the item kept or not, the state behind it -/
def lcS {α β σ : Type} (f : α → σ → Option (Option β × σ)) : List α → σ → Option (List β × σ)
  | [], s => some ([], s)
  | x :: xs, s => (f x s).bind fun r => (lcS f xs r.2).bind fun q => some (match r.1 with | some y => (y :: q.1, q.2) | none => q)
def lcP {α β : Type} (f : α → Option (Option β)) : List α → Option (List β)
  | [] => some []
  | x :: xs => (f x).bind fun r => (lcP f xs).bind fun q => some (match r with | some y => y :: q | none => q)
def mapP {α β : Type} (f : α → Option β) : List α → Option (List β)
  | [] => some []
  | x :: xs => (f x).bind fun y => (mapP f xs).bind fun q => some (y :: q)

/-! ### expressions that make nothing -/
def EV (te : TE) (σ : St) (H : Hp) (v : V) : Prop := ∀ Q : VK, Q v H → te σ H Q
def ET (t : TT) (σ : St) (H : Hp) (b : Bool) : Prop := ∀ Q : Bool → Hp → Prop, Q b H → t σ H Q
def EA (t : TA) (σ : St) (H : Hp) (vs : List V) : Prop := ∀ Q : List V → Hp → Prop, Q vs H → t σ H Q
def EO (t : TO) (σ : St) (H : Hp) (o : Option Int) : Prop := ∀ Q : Option Int → Hp → Prop, Q o H → t σ H Q
section
variable {σ σ' : St} {H H' : Hp} {Q : VK} {v x y z : V} {te ta tb tc : TE} {tt tu : TT} {rr : R2} {b c : Bool} {D : Ends} {i : Nat} {rest ts tsu : TS}
theorem ev_use (h : EV te σ H v) (k : Q v H) : te σ H Q := h Q k
theorem et_use {Q : Bool → Hp → Prop} (h : ET tt σ H b) (k : Q b H) : tt σ H Q := h Q k
theorem ea_use {t : TA} {vs : List V} {Q : List V → Hp → Prop} (h : EA t σ H vs) (k : Q vs H) : t σ H Q := h Q k
theorem ev_var (h : σ[i]? = some (some v)) : EV (tVar i) σ H v := fun _ q => ⟨v, h, q⟩
theorem ev_c : EV (tC v) σ H v := fun _ q => q
theorem ev_op (h1 : EV ta σ H x) (h2 : EV tb σ H y) (k : ∀ Q : VK, Q z H → rr x y H Q) : EV (tOp rr ta tb) σ H z := fun Q q => h1 _ (h2 _ (k Q q))
theorem ev_un {r : V → Hp → VK → Prop} (h1 : EV ta σ H x) (k : ∀ Q : VK, Q z H → r x H Q) : EV (tUn r ta) σ H z := fun Q q => h1 _ (k Q q)
theorem ev_cb {r : List V → Hp → VK → Prop} {t : TA} {vs : List V} (h1 : EA t σ H vs) (k : ∀ Q : VK, Q z H → r vs H Q) : EV (tCB r t) σ H z := fun Q q => h1 _ (k Q q)
theorem ea_nil : EA tNil σ H [] := fun _ q => q
theorem ea_cons {t : TA} {vs : List V} (h : EV ta σ H x) (h2 : EA t σ H vs) : EA (tCons ta t) σ H (x :: vs) := fun _ q => h _ (h2 _ q)
theorem eo_none : EO tNoPart σ H none := fun _ q => q
theorem eo_some {n : Int} (h : EV ta σ H (.int n)) : EO (tPart ta) σ H (some n) := fun _ q => h _ ⟨n, rfl, q⟩
theorem et_test (h : EV ta σ H (.bl b)) : ET (tTest ta) σ H b := fun _ q => h _ ⟨b, rfl, q⟩
theorem et_b (h : EV ta σ H (.bl b)) : ET (tB ta) σ H b := fun _ q => h _ ⟨b, rfl, q⟩
theorem et_not (h : ET tt σ H b) : ET (tNot tt) σ H (!b) := fun _ q => h _ q
theorem et_and (h : ET tt σ H b) (h2 : b = true → ET tu σ H c) : ET (tAnd tt tu) σ H (b && c) := fun Q q => h _ (by
  cases b with
  | true => exact h2 rfl Q q
  | false => exact q)
theorem et_or (h : ET tt σ H b) (h2 : b = false → ET tu σ H c) : ET (tOr tt tu) σ H (b || c) := fun Q q => h _ (by
  cases b with
  | true => exact q
  | false => exact h2 rfl Q q)
theorem ev_and (h : EV ta σ H (.bl b)) (h2 : b = true → EV tb σ H (.bl c)) : EV (tAndV ta tb) σ H (.bl (b && c)) := fun Q q => h _ ⟨b, rfl, by
  cases b with
  | true => exact h2 rfl Q q
  | false => exact q⟩
theorem ev_or (h : EV ta σ H (.bl b)) (h2 : b = false → EV tb σ H (.bl c)) : EV (tOrV ta tb) σ H (.bl (b || c)) := fun Q q => h _ ⟨b, rfl, by
  cases b with
  | true => exact q
  | false => exact h2 rfl Q q⟩
theorem ev_not (h : EV ta σ H (.bl b)) : EV (tNotV ta) σ H (.bl (!b)) := fun _ q => h _ ⟨b, rfl, q⟩
theorem ev_if (h : ET tt σ H b) (h1 : b = true → EV ta σ H x) (h2 : b = false → EV tb σ H x) : EV (tIf tt ta tb) σ H x := fun Q q => h _ (by
  cases b with
  | true => exact h1 rfl Q q
  | false => exact h2 rfl Q q)
/-! operators on values -/
theorem k_I0 {g : Int → Int → V} (i j : Int) : ∀ Q : VK, Q (g i j) H → rI0 g (.int i) (.int j) H Q := fun _ q => ⟨i, j, rfl, rfl, q⟩
theorem k_I {C : Int → Int → Prop} {g : Int → Int → V} (i j : Int) (h : C i j) : ∀ Q : VK, Q (g i j) H → rI C g (.int i) (.int j) H Q := fun _ q => ⟨i, j, rfl, rfl, h, q⟩
theorem k_neg (i : Int) : ∀ Q : VK, Q (.int (-i)) H → rU (fun i => .int (-i)) (.int i) H Q := fun _ q => ⟨i, rfl, q⟩
theorem k_eqI (i j : Int) : ∀ Q : VK, Q (.bl (decide (i = j))) H → rEq (.int i) (.int j) H Q := fun Q q => ⟨rfl, by
  have e : decide (V.int i = V.int j) = decide (i = j) := by by_cases h : i = j <;> simp [h]
  rw [e]; exact q⟩
theorem k_neI (i j : Int) : ∀ Q : VK, Q (.bl (!decide (i = j))) H → rNe (.int i) (.int j) H Q := fun Q q => ⟨rfl, by
  have e : decide (V.int i = V.int j) = decide (i = j) := by by_cases h : i = j <;> simp [h]
  rw [e]; exact q⟩
theorem vS_eq (l m : List Nat) : decide (vS l = vS m) = decide (l = m) := by
  by_cases h : l = m
  · subst h; simp
  · rw [decide_eq_false h, decide_eq_false]
    intro e
    exact h (sS_inj (V.str.inj e))
theorem k_eqS (l m : List Nat) : ∀ Q : VK, Q (.bl (decide (l = m))) H → rEq (vS l) (vS m) H Q := fun Q q => ⟨rfl, by rw [vS_eq]; exact q⟩
theorem k_neS (l m : List Nat) : ∀ Q : VK, Q (.bl (!decide (l = m))) H → rNe (vS l) (vS m) H Q := fun Q q => ⟨rfl, by rw [vS_eq]; exact q⟩
theorem k_eqB (l m : Bool) : ∀ Q : VK, Q (.bl (decide (l = m))) H → rEq (.bl l) (.bl m) H Q := fun Q q => ⟨rfl, by
  have e : decide (V.bl l = V.bl m) = decide (l = m) := by cases l <;> cases m <;> rfl
  rw [e]; exact q⟩
theorem k_neB (l m : Bool) : ∀ Q : VK, Q (.bl (!decide (l = m))) H → rNe (.bl l) (.bl m) H Q := fun Q q => ⟨rfl, by
  have e : decide (V.bl l = V.bl m) = decide (l = m) := by cases l <;> cases m <;> rfl
  rw [e]; exact q⟩
/-! ### statements -/
theorem cps_op (h : ta σ H fun x H1 => tb σ H1 fun y H2 => rr x y H2 Q) : tOp rr ta tb σ H Q := h
theorem cps_un {r : V → Hp → VK → Prop} (h : ta σ H fun x H1 => r x H1 Q) : tUn r ta σ H Q := h
theorem cps_cons {t : TA} {Q : List V → Hp → Prop} (h : ta σ H fun x H1 => t σ H1 fun xs H2 => Q (x :: xs) H2) : tCons ta t σ H Q := h
theorem cps_nil {Q : List V → Hp → Prop} (h : Q [] H) : tNil σ H Q := h
theorem cps_cb {r : List V → Hp → VK → Prop} {t : TA} (h : t σ H fun vs H1 => r vs H1 Q) : tCB r t σ H Q := h
theorem cps_test {Q : Bool → Hp → Prop} (h : te σ H fun x H1 => ∃ k, x = .bl k ∧ Q k H1) : tTest te σ H Q := h
theorem cps_b {Q : Bool → Hp → Prop} (h : te σ H fun x H1 => ∃ k, x = .bl k ∧ Q k H1) : tB te σ H Q := h
theorem cps_not {Q : Bool → Hp → Prop} (h : tt σ H fun b H1 => Q (!b) H1) : tNot tt σ H Q := h
theorem cps_asg (τ : V → St) (e : ∀ x, σ.set i (some x) = τ x) (h : te σ H fun x H1 => rest D (τ x) H1) : tSeq (tAsg te (gName i)) rest D σ H := by
  have e' : τ = fun x => σ.set i (some x) := funext fun x => (e x).symm
  subst e'
  exact h
theorem cps_drop (h : te σ H fun _ H1 => rest D σ H1) : tSeq (tDrop te) rest D σ H := h
theorem cps_ret (h : te σ H D.rt) : tSeq (tRet te) rest D σ H := h
theorem cps_for {wi : TI} {g : TG} {tb : TS} (h : wi σ H fun J H1 => ∃ W : Nat → Nat → St → Hp → Prop, (∃ m, W 0 m σ H1) ∧ ∀ i m σ H, W i m σ H →
  (J.stop i H ∧ rest D σ H) ∨ (J.go i H ∧ ∃ N : St → Hp → Prop, (∀ σ' H', N σ' H' → ∃ m', m' < m ∧ W (i + 1) m' σ' H') ∧ ∀ x H', J.yld i H x H' → g x σ H' fun σ2 H2 => tb { D with nx := N, ct := N, bk := rest D } σ2 H2)) :
  tSeq (tFor wi g tb) rest D σ H := h
/-- an if behind which the rest goes on: P holds at the end of either way -/
theorem s_if (P : St → Hp → Prop) (k : ∀ σ' H', P σ' H' → rest D σ' H') (h : tt σ H fun b H1 => if b = true then ts { D with nx := rest D } σ H1 else tsu { D with nx := rest D } σ H1) : tSeq (tIfS tt ts tsu) rest D σ H := h
/-- by cases, the end of either way cut -/
theorem cut_if {P : St → Hp → Prop} {N : St → Hp → Prop} (b : Bool) (k : ∀ σ' H', P σ' H' → N σ' H')
    (h1 : b = true → ∀ N' : St → Hp → Prop, (∀ σ' H', P σ' H' → N' σ' H') → ts { D with nx := N' } σ H) (h2 : b = false → ∀ N' : St → Hp → Prop, (∀ σ' H', P σ' H' → N' σ' H') → tsu { D with nx := N' } σ H) :
    if b = true then ts { D with nx := N } σ H else tsu { D with nx := N } σ H := by
  cases b with
  | true => exact h1 rfl N k
  | false => exact h2 rfl N k
theorem if_cases {A B : Prop} (b : Bool) (h1 : b = true → A) (h2 : b = false → B) : if b = true then A else B := by
  cases b with
  | true => exact h1 rfl
  | false => exact h2 rfl
/-- the end of an expression cut -/
theorem cut_ev {P : V → Hp → Prop} (k : ∀ v H', P v H' → Q v H') (h : ∀ Q' : VK, (∀ v H', P v H' → Q' v H') → te σ H Q') : te σ H Q := h Q k
theorem cut_et {Q : Bool → Hp → Prop} {P : Bool → Hp → Prop} (k : ∀ v H', P v H' → Q v H') (h : ∀ Q' : Bool → Hp → Prop, (∀ v H', P v H' → Q' v H') → tt σ H Q') : tt σ H Q := h Q k
end
end MK

namespace MK
open PySem PySem.Spec L2
section
variable {J : It} {n : Nat} {G : Hp → Prop} {Y : Nat → Hp → V → Hp → Prop} {α β ρ S : Type}
theorem drop_at {xs : List α} {i : Nat} (h : i < xs.length) : xs.drop i = xs[i] :: xs.drop (i + 1) := by
  exact List.drop_eq_getElem_cons h
theorem loop_w (w : Walk J n G Y) {f : α → S → Option (Ctl ρ S)} {xs : List α} (hn : xs.length = n) {s0 : S} {res : Ctl ρ S} (hm : loopM f xs s0 = some res)
    {g : TG} {tb : TS} {D : Ends} {σ : St} {H : Hp} (P : S → St → Hp → Prop) (h0 : P s0 σ H) (hG : ∀ s σ H, P s σ H → G H)
    (turn : ∀ (i : Nat) x s c v σ H H', xs[i]? = some x → f x s = some c → (∀ s', c = .bk s' → res = .nx s') → (∀ r, c = .rt r → res = .rt r) → P s σ H → Y i H v H' →
      ∀ N : St → Hp → Prop, (∀ s' σ' H', c = .nx s' → P s' σ' H' → N σ' H') → g v σ H' fun σ2 H2 => tb { D with nx := N, ct := N, bk := D.nx } σ2 H2)
    (done : ∀ s' σ H, res = .nx s' → P s' σ H → D.nx σ H) :
    ∃ W : Nat → Nat → St → Hp → Prop, (∃ m, W 0 m σ H) ∧ ∀ i m σ H, W i m σ H →
      (J.stop i H ∧ D.nx σ H) ∨ (J.go i H ∧ ∃ N : St → Hp → Prop, (∀ σ' H', N σ' H' → ∃ m', m' < m ∧ W (i + 1) m' σ' H') ∧ ∀ x H', J.yld i H x H' → g x σ H' fun σ2 H2 => tb { D with nx := N, ct := N, bk := D.nx } σ2 H2) := by
  subst hn
  refine for_it w (fun i σ H => ∃ s, loopM f (xs.drop i) s = some res ∧ P s σ H) ⟨s0, by simpa using hm, h0⟩ (fun i σ H _ ⟨s, _, p⟩ => hG s σ H p) ?_ ?_
  · rintro i v σ H H' hi ⟨s, hl, p⟩ y
    rw [drop_at hi] at hl
    obtain ⟨c, e1, e2⟩ := bindS hl
    refine turn i xs[i] s c v σ H H' (by simp [hi]) e1 ?_ ?_ p y _ ?_
    · intro s' e; subst e; exact (someI e2).symm
    · intro r e; subst e; exact (someI e2).symm
    · intro s' σ' H' e p'; subst e; exact ⟨s', e2, p'⟩
  · rintro σ H ⟨s, hl, p⟩
    rw [List.drop_length] at hl
    exact done s σ H (someI hl).symm p
theorem fold_w (w : Walk J n G Y) {f : α → S → Option S} {xs : List α} (hn : xs.length = n) {s0 res : S} (hm : foldO f xs s0 = some res)
    {g : TG} {tb : TS} {D : Ends} {σ : St} {H : Hp} (P : S → St → Hp → Prop) (h0 : P s0 σ H) (hG : ∀ s σ H, P s σ H → G H)
    (turn : ∀ (i : Nat) x s s' v σ H H', xs[i]? = some x → f x s = some s' → P s σ H → Y i H v H' →
      ∀ N : St → Hp → Prop, (∀ σ' H', P s' σ' H' → N σ' H') → g v σ H' fun σ2 H2 => tb { D with nx := N, ct := N, bk := D.nx } σ2 H2)
    (done : ∀ σ H, P res σ H → D.nx σ H) :
    ∃ W : Nat → Nat → St → Hp → Prop, (∃ m, W 0 m σ H) ∧ ∀ i m σ H, W i m σ H →
      (J.stop i H ∧ D.nx σ H) ∨ (J.go i H ∧ ∃ N : St → Hp → Prop, (∀ σ' H', N σ' H' → ∃ m', m' < m ∧ W (i + 1) m' σ' H') ∧ ∀ x H', J.yld i H x H' → g x σ H' fun σ2 H2 => tb { D with nx := N, ct := N, bk := D.nx } σ2 H2) := by
  subst hn
  refine for_it w (fun i σ H => ∃ s, foldO f (xs.drop i) s = some res ∧ P s σ H) ⟨s0, by simpa using hm, h0⟩ (fun i σ H _ ⟨s, _, p⟩ => hG s σ H p) ?_ ?_
  · rintro i v σ H H' hi ⟨s, hl, p⟩ y
    rw [drop_at hi] at hl
    obtain ⟨c, e1, e2⟩ := bindS hl
    exact turn i xs[i] s c v σ H H' (by simp [hi]) e1 p y _ fun σ' H' p' => ⟨c, e2, p'⟩
  · rintro σ H ⟨s, hl, p⟩
    rw [List.drop_length] at hl
    cases someI hl
    exact done σ H p
theorem lc_w (w : Walk J n G Y) {f : α → S → Option (Option β × S)} {xs : List α} (hn : xs.length = n) {s0 s1 : S} {ys : List β} (hm : lcS f xs s0 = some (ys, s1)) (hz : n ≤ sizeLine)
    {g : TG} {tt : TT} {te : TE} {vs : List Nat} {σ : St} {H1 : Hp} {D : Addr} {Qd : Hp → Prop} (P : List V → List β → S → Hp → Prop) (h0 : P [] [] s0 (upd H1 D (.lst []))) (hG : ∀ av acc s H, P av acc s H → G H)
    (turn : ∀ (i : Nat) x s r s' v av acc H H', xs[i]? = some x → f x s = some (r, s') → P av acc s H → av.length < sizeLine → Y i H v H' →
      ∀ N : Hp → Prop, (r = none → ∀ H3, P av acc s' H3 → N H3) → (∀ y u H4, r = some y → P (av ++ [u]) (acc ++ [y]) s' H4 → N H4) → g v (wipe σ vs) H' fun σ2 H2 => wipe σ2 vs = wipe σ vs ∧ tt σ2 H2 fun b H3 =>
      if b = true then te σ2 H3 fun y H4 => ∃ acc, H4 D = some (.lst acc) ∧ acc.length < sizeLine ∧ N (upd H4 D (.lst (acc ++ [y]))) else N H3)
    (done : ∀ av H, P av ys s1 H → Qd H) :
    ∃ W : Nat → Nat → Hp → Prop, (∃ m, W 0 m (upd H1 D (.lst []))) ∧ ∀ i m H, W i m H →
      (J.stop i H ∧ Qd H) ∨ (J.go i H ∧ ∃ Nx : Hp → Prop, (∀ H', Nx H' → ∃ m', m' < m ∧ W (i + 1) m' H') ∧ ∀ x H', J.yld i H x H' → g x (wipe σ vs) H' fun σ2 H2 => wipe σ2 vs = wipe σ vs ∧ tt σ2 H2 fun b H3 =>
        if b = true then te σ2 H3 fun y H4 => ∃ acc, H4 D = some (.lst acc) ∧ acc.length < sizeLine ∧ Nx (upd H4 D (.lst (acc ++ [y]))) else Nx H3) := by
  subst hn
  refine lc_it w (fun i H => ∃ s av acc q, av.length ≤ i ∧ lcS f (xs.drop i) s = some q ∧ acc ++ q.1 = ys ∧ q.2 = s1 ∧ P av acc s H) ⟨s0, [], [], _, Nat.le_refl _, by simpa using hm, rfl, rfl, h0⟩ (fun i H _ ⟨s, av, acc, _, _, _, _, _, p⟩ => hG av acc s H p) ?_ ?_
  · rintro i v H H' hi ⟨s, av, acc, q, hl, hq, ha, hs, p⟩ y
    rw [drop_at hi] at hq
    obtain ⟨⟨r, s'⟩, e1, e2⟩ := bindS hq
    obtain ⟨q', e3, e4⟩ := bindS e2
    have e5 := someI e4
    refine turn i xs[i] s r s' v av acc H H' (by simp [hi]) e1 p (by omega) y _ ?_ ?_
    · intro e H3 p'
      subst e
      have e6 : q' = q := e5
      subst e6
      exact ⟨s', av, acc, q', by omega, e3, ha, hs, p'⟩
    · intro y' u H4 e p'
      subst e
      have e6 : (y' :: q'.1, q'.2) = q := e5
      subst e6
      refine ⟨s', av ++ [u], acc ++ [y'], q', by simp; omega, e3, by simpa using ha, hs, p'⟩
  · rintro H ⟨s, av, acc, q, hl, hq, ha, hs, p⟩
    rw [List.drop_length] at hq
    cases someI hq
    simp only [List.append_nil] at ha
    subst ha; subst hs
    exact done av H p
theorem lcS_of_P {f : α → Option (Option β)} : ∀ {xs : List α} {ys : List β}, lcP f xs = some ys → lcS (fun x (_ : Unit) => (f x).bind fun r => some (r, ())) xs () = some (ys, ())
  | [], ys, h => by cases h; rfl
  | x :: xs, ys, h => by
    obtain ⟨r, e1, h⟩ := bindS h
    obtain ⟨q, e2, h⟩ := bindS h
    have ih := lcS_of_P e2
    simp only [lcS, e1, Option.bind_some]
    rw [ih]
    cases r with
    | none => cases h; rfl
    | some y => cases h; rfl
theorem lcP_of_map {f : α → Option β} : ∀ {xs : List α} {ys : List β}, mapP f xs = some ys → lcP (fun x => (f x).bind fun r => some (some r)) xs = some ys
  | [], ys, h => by cases h; rfl
  | x :: xs, ys, h => by
    obtain ⟨r, e1, h⟩ := bindS h
    obtain ⟨q, e2, h⟩ := bindS h
    have ih := lcP_of_map e2
    simp only [lcP, e1, Option.bind_some]
    rw [ih]
    cases h; rfl
/-- no state -/
theorem lc_wP (w : Walk J n G Y) {f : α → Option (Option β)} {xs : List α} (hn : xs.length = n) {ys : List β} (hm : lcP f xs = some ys) (hz : n ≤ sizeLine)
    {g : TG} {tt : TT} {te : TE} {vs : List Nat} {σ : St} {H1 : Hp} {D : Addr} {Qd : Hp → Prop} (P : List V → List β → Hp → Prop) (h0 : P [] [] (upd H1 D (.lst []))) (hG : ∀ av acc H, P av acc H → G H)
    (turn : ∀ (i : Nat) x r v av acc H H', xs[i]? = some x → f x = some r → P av acc H → av.length < sizeLine → Y i H v H' →
      ∀ N : Hp → Prop, (r = none → ∀ H3, P av acc H3 → N H3) → (∀ y u H4, r = some y → P (av ++ [u]) (acc ++ [y]) H4 → N H4) → g v (wipe σ vs) H' fun σ2 H2 => wipe σ2 vs = wipe σ vs ∧ tt σ2 H2 fun b H3 =>
      if b = true then te σ2 H3 fun y H4 => ∃ acc, H4 D = some (.lst acc) ∧ acc.length < sizeLine ∧ N (upd H4 D (.lst (acc ++ [y]))) else N H3)
    (done : ∀ av H, P av ys H → Qd H) :
    ∃ W : Nat → Nat → Hp → Prop, (∃ m, W 0 m (upd H1 D (.lst []))) ∧ ∀ i m H, W i m H →
      (J.stop i H ∧ Qd H) ∨ (J.go i H ∧ ∃ Nx : Hp → Prop, (∀ H', Nx H' → ∃ m', m' < m ∧ W (i + 1) m' H') ∧ ∀ x H', J.yld i H x H' → g x (wipe σ vs) H' fun σ2 H2 => wipe σ2 vs = wipe σ vs ∧ tt σ2 H2 fun b H3 =>
        if b = true then te σ2 H3 fun y H4 => ∃ acc, H4 D = some (.lst acc) ∧ acc.length < sizeLine ∧ Nx (upd H4 D (.lst (acc ++ [y]))) else Nx H3) :=
  lc_w w hn (lcS_of_P hm) hz (fun av acc _ H => P av acc H) h0 (fun av acc _ H p => hG av acc H p) (fun i x _ r _ v av acc H H' h1 h2 h3 h4 h5 N k1 k2 => by
    obtain ⟨r', e1, e2⟩ := bindS h2
    have e3 : r' = r := congrArg Prod.fst (someI e2)
    subst e3
    exact turn i x r' v av acc H H' h1 e1 h3 h4 h5 N k1 k2) done
theorem lc_wM (w : Walk J n G Y) {f : α → Option β} {xs : List α} (hn : xs.length = n) {ys : List β} (hm : mapP f xs = some ys) (hz : n ≤ sizeLine)
    {g : TG} {tt : TT} {te : TE} {vs : List Nat} {σ : St} {H1 : Hp} {D : Addr} {Qd : Hp → Prop} (P : List V → List β → Hp → Prop) (h0 : P [] [] (upd H1 D (.lst []))) (hG : ∀ av acc H, P av acc H → G H)
    (turn : ∀ (i : Nat) x y v av acc H H', xs[i]? = some x → f x = some y → P av acc H → av.length < sizeLine → Y i H v H' →
      ∀ N : Hp → Prop, (∀ u H4, P (av ++ [u]) (acc ++ [y]) H4 → N H4) → g v (wipe σ vs) H' fun σ2 H2 => wipe σ2 vs = wipe σ vs ∧ tt σ2 H2 fun b H3 =>
      if b = true then te σ2 H3 fun y H4 => ∃ acc, H4 D = some (.lst acc) ∧ acc.length < sizeLine ∧ N (upd H4 D (.lst (acc ++ [y]))) else N H3)
    (done : ∀ av H, P av ys H → Qd H) :
    ∃ W : Nat → Nat → Hp → Prop, (∃ m, W 0 m (upd H1 D (.lst []))) ∧ ∀ i m H, W i m H →
      (J.stop i H ∧ Qd H) ∨ (J.go i H ∧ ∃ Nx : Hp → Prop, (∀ H', Nx H' → ∃ m', m' < m ∧ W (i + 1) m' H') ∧ ∀ x H', J.yld i H x H' → g x (wipe σ vs) H' fun σ2 H2 => wipe σ2 vs = wipe σ vs ∧ tt σ2 H2 fun b H3 =>
        if b = true then te σ2 H3 fun y H4 => ∃ acc, H4 D = some (.lst acc) ∧ acc.length < sizeLine ∧ Nx (upd H4 D (.lst (acc ++ [y]))) else Nx H3) :=
  lc_wP w hn (lcP_of_map hm) hz P h0 hG (fun i x r v av acc H H' h1 h2 h3 h4 h5 N k1 k2 => by
    obtain ⟨y, e1, e2⟩ := bindS h2
    have e3 : some y = r := someI e2
    subst e3
    exact turn i x y v av acc H H' h1 e1 h3 h4 h5 N (fun u H4 p => k2 y u H4 rfl p)) done
theorem lc_nm {K : St → Hp → Prop} {σ τ : St} {vs : List Nat} {i : Nat} {v : V} {H' : Hp} (e1 : (wipe σ vs).set i (some v) = τ) (e2 : wipe τ vs = wipe σ vs) (h : K τ H') :
    gName i v (wipe σ vs) H' fun σ2 H2 => wipe σ2 vs = wipe σ vs ∧ K σ2 H2 := by
  subst e1
  exact ⟨e2, h⟩
/-- while -/
theorem while_w {c : S → Option Bool} {f : S → Option (Ctl ρ S)} {fuel : Nat} {s0 : S} {res : Ctl ρ S} (hm : whileM c f fuel s0 = some res)
    {tc : TT} {tb : TS} {D : Ends} {rest : TS} {σ : St} {H : Hp} (P : S → St → Hp → Prop) (h0 : P s0 σ H)
    (test : ∀ s b σ H, c s = some b → P s σ H → ∀ Q : Bool → Hp → Prop, (∀ H1, P s σ H1 → Q b H1) → tc σ H Q)
    (body : ∀ s cc σ H, c s = some true → f s = some cc → (∀ s', cc = .bk s' → res = .nx s') → (∀ r, cc = .rt r → res = .rt r) → P s σ H →
      ∀ N : St → Hp → Prop, (∀ s' σ' H', cc = .nx s' → P s' σ' H' → N σ' H') → tb { D with nx := N, ct := N, bk := rest D } σ H)
    (done : ∀ s' σ H, res = .nx s' → P s' σ H → rest D σ H) : tSeq (tWhile tc tb) rest D σ H := by
  refine ⟨fun m σ H => ∃ s, whileM c f m s = some res ∧ P s σ H, ⟨fuel, s0, hm, h0⟩, ?_⟩
  rintro m σ H ⟨s, hl, p⟩
  cases m with
  | zero => cases hl
  | succ m =>
    obtain ⟨b, e1, e2⟩ := bindS hl
    refine test s b σ H e1 p _ fun H1 p1 => ?_
    cases b with
    | false =>
      rw [if_neg Bool.false_ne_true]
      rw [if_neg Bool.false_ne_true] at e2
      exact done s σ H1 (someI e2).symm p1
    | true =>
      rw [if_pos rfl]
      rw [if_pos rfl] at e2
      obtain ⟨cc, ec, e3⟩ := bindS e2
      refine ⟨fun σ' H' => ∃ s', cc = .nx s' ∧ P s' σ' H', fun σ' H' ⟨s', hs, p'⟩ => ⟨m, Nat.lt_succ_self _, s', ?_, p'⟩, body s cc σ H1 e1 ec ?_ ?_ p1 _ fun s' σ' H' e p' => ⟨s', e, p'⟩⟩
      · subst hs; exact e3
      · intro s' e; subst e; exact (someI e3).symm
      · intro r e; subst e; exact (someI e3).symm
/-- a while without break and return -/
def whileF {σ : Type} (c : σ → Option Bool) (f : σ → Option σ) : Nat → σ → Option σ
  | 0, _ => none
  | n + 1, s => (c s).bind fun b => if b = true then (f s).bind (whileF c f n) else some s
theorem while_f {c : S → Option Bool} {f : S → Option S} {fuel : Nat} {s0 res : S} (hm : whileF c f fuel s0 = some res)
    {tc : TT} {tb : TS} {D : Ends} {rest : TS} {σ : St} {H : Hp} (P : S → St → Hp → Prop) (h0 : P s0 σ H)
    (test : ∀ s b σ H, c s = some b → P s σ H → ∀ Q : Bool → Hp → Prop, (∀ H1, P s σ H1 → Q b H1) → tc σ H Q)
    (body : ∀ s s' σ H, c s = some true → f s = some s' → P s σ H →
      ∀ N : St → Hp → Prop, (∀ σ' H', P s' σ' H' → N σ' H') → tb { D with nx := N, ct := N, bk := rest D } σ H)
    (done : ∀ σ H, P res σ H → rest D σ H) : tSeq (tWhile tc tb) rest D σ H := by
  refine ⟨fun m σ H => ∃ s, whileF c f m s = some res ∧ P s σ H, ⟨fuel, s0, hm, h0⟩, ?_⟩
  rintro m σ H ⟨s, hl, p⟩
  cases m with
  | zero => cases hl
  | succ m =>
    obtain ⟨b, e1, e2⟩ := bindS hl
    refine test s b σ H e1 p _ fun H1 p1 => ?_
    cases b with
    | false =>
      rw [if_neg Bool.false_ne_true]
      rw [if_neg Bool.false_ne_true] at e2
      cases someI e2
      exact done σ H1 p1
    | true =>
      rw [if_pos rfl]
      rw [if_pos rfl] at e2
      obtain ⟨s', ec, e3⟩ := bindS e2
      exact ⟨fun σ' H' => P s' σ' H', fun σ' H' p' => ⟨m, Nat.lt_succ_self _, s', e3, p'⟩, body s s' σ H1 e1 ec p1 _ fun σ' H' p' => p'⟩
end
end MK

namespace MK
open PySem PySem.Spec L2

/-! ### mirrors of operations -/
def fdivM (i j : Int) : Option Int := if decide (0 < j ∧ j < 1073741824) = true then some (i / j) else none
def modM (i j : Int) : Option Int := if decide (0 < j) = true then some (i % j) else none
def mulM (i j : Int) : Option Int := if decide (i.natAbs.log2 + j.natAbs.log2 < 1000000) = true then some (i * j) else none
def powM (i j : Int) : Option Int := if decide (0 ≤ j ∧ (Builtin.Int.intBits i : Int) * j ≤ 2 ^ 27) = true then some (i ^ j.toNat) else none
def shlM (i j : Int) : Option Int := if decide (0 ≤ j ∧ j ≤ 1000000 ∧ i.natAbs < 2 ^ 64) = true then some (i * 2 ^ j.toNat) else none
def shrM (i j : Int) : Option Int := if decide (0 ≤ j) = true then some (i / 2 ^ j.toNat) else none
def catM (a b : List Nat) : Option (List Nat) := if decide (a.length + b.length ≤ sizeLine) = true then some (a ++ b) else none
def repM (l : List Nat) (n : Int) : Option (List Nat) := if decide (-(2 ^ 63) ≤ n ∧ n < 2 ^ 63 ∧ l.length * n.toNat ≤ sizeLine) = true then some (List.replicate n.toNat l).flatten else none
def cutL {α : Type} (xs : List α) (lo hi : Option Int) : List α := (xs.drop (HT.sIx xs.length 0 lo)).take (HT.sIx xs.length xs.length hi - HT.sIx xs.length 0 lo)
def idxM {α : Type} (xs : List α) (i : Int) : Option α := L2.atI xs i
def sidxM (l : List Nat) (i : Int) : Option (List Nat) := (L2.atI l i).bind fun c => some [c]
def setM {α : Type} (xs : List α) (i : Int) (x : α) : Option (List α) := (L2.ixN xs.length i).bind fun j => some (xs.set j x)
def appM {α : Type} (xs : List α) (y : α) : Option (List α) := if decide (xs.length < sizeLine) = true then some (xs ++ [y]) else none
def catLM {α : Type} (xs ys : List α) : Option (List α) := if decide (xs.length + ys.length ≤ sizeLine) = true then some (xs ++ ys) else none
def repLM {α : Type} (xs : List α) (n : Int) : Option (List α) := if decide (-(2 ^ 63) ≤ n ∧ n < 2 ^ 63 ∧ xs.length * n.toNat ≤ sizeLine) = true then some (List.replicate n.toNat xs).flatten else none
def rangeL (lo : Int) (n : Nat) : List Int := (List.range n).map fun i => lo + (i : Nat)
def rngM (lo hi : Int) : Option (List Int) := if decide (-(2 ^ 62) ≤ lo ∧ lo < 2 ^ 62 ∧ -(2 ^ 62) ≤ hi ∧ hi < 2 ^ 62 ∧ hi - lo ≤ sizeLine) = true then some (rangeL lo (hi - lo).toNat) else none
def joinM (s : List Nat) (ys : List (List Nat)) : Option (List Nat) := if decide ((ys.map List.length).sum + ys.length * s.length ≤ 16777216) = true then some (TL.joinL s ys) else none
theorem guardS {α : Type} {c : Prop} [Decidable c] {a r : α} (h : (if decide c = true then some a else none) = some r) : c ∧ a = r := by
  by_cases hc : c
  · rw [if_pos (decide_eq_true hc)] at h
    exact ⟨hc, someI h⟩
  · rw [if_neg (by simpa using hc)] at h
    cases h
theorem sizeLine_16 : sizeLine = 16777216 := by decide
theorem rangeL_len (lo : Int) (n : Nat) : (rangeL lo n).length = n := by simp [rangeL]
theorem rangeL_at {lo : Int} {n i : Nat} {x : Int} (h : (rangeL lo n)[i]? = some x) : x = lo + (i : Nat) ∧ i < n := by
  unfold rangeL at h
  rw [List.getElem?_map] at h
  by_cases hi : i < n
  · rw [List.getElem?_range hi] at h
    exact ⟨(someI h).symm, hi⟩
  · rw [List.getElem?_eq_none (by simp; omega)] at h
    cases h
/-! texts stay good -/
theorem OkS.nil : OkS [] := ⟨by simp, by simp⟩
theorem OkS.lit {l : List Nat} (h : (decide (l.length ≤ 16777216) && l.all (· < 0x110000)) = true) : OkS l := by
  simp only [Bool.and_eq_true, decide_eq_true_eq, List.all_eq_true] at h
  exact ⟨by rw [sizeLine_16]; exact h.1, fun c hc => h.2 c hc⟩
theorem OkS.cut {l : List Nat} (h : OkS l) (lo hi : Option Int) : OkS (cutL l lo hi) := ⟨by
  refine Nat.le_trans ?_ h.len
  unfold cutL
  rw [List.length_take, List.length_drop]; omega, fun c hc => h.cps c (List.mem_of_mem_drop (List.mem_of_mem_take hc))⟩
theorem OkS.cat {a b r : List Nat} (h : OkS a) (h2 : OkS b) (e : catM a b = some r) : OkS r := by
  obtain ⟨c, rfl⟩ := guardS e
  exact ⟨by rw [List.length_append]; exact c, fun x hx => (List.mem_append.mp hx).elim (h.cps x) (h2.cps x)⟩
theorem OkS.rep {a r : List Nat} {n : Int} (h : OkS a) (e : repM a n = some r) : OkS r := by
  obtain ⟨c, rfl⟩ := guardS e
  refine ⟨?_, fun x hx => ?_⟩
  · rw [List.length_flatten, List.map_replicate, List.sum_replicate_nat, Nat.mul_comm]; exact c.2.2
  · obtain ⟨l, hl, hx⟩ := List.mem_flatten.mp hx
    rw [(List.mem_replicate.mp hl).2] at hx
    exact h.cps x hx
theorem OkS.one {a : List Nat} (h : OkS a) {c : Nat} (hc : c ∈ a) : OkS [c] := ⟨by rw [sizeLine_16]; simp, fun x hx => by rw [List.mem_singleton.mp hx]; exact h.cps c hc⟩
theorem atI_mem {α : Type} {xs : List α} {i : Int} {x : α} (h : L2.atI xs i = some x) : x ∈ xs := by
  unfold L2.atI at h
  cases e : L2.ixN xs.length i with
  | none => rw [e] at h; cases h
  | some j => rw [e] at h; exact List.mem_of_getElem? h
theorem OkS.idx {a r : List Nat} {i : Int} (h : OkS a) (e : sidxM a i = some r) : OkS r := by
  obtain ⟨c, e1, e2⟩ := bindS e
  cases someI e2
  exact h.one (atI_mem e1)
theorem OkS.rev {a : List Nat} (h : OkS a) : OkS a.reverse := ⟨by rw [List.length_reverse]; exact h.len, fun x hx => h.cps x (List.mem_reverse.mp hx)⟩
theorem joinL_len (s : List Nat) : ∀ ys : List (List Nat), (TL.joinL s ys).length ≤ (ys.map List.length).sum + ys.length * s.length
  | [] => by simp [TL.joinL]
  | [p] => by simp [TL.joinL]
  | p :: q :: r => by
    have ih := joinL_len s (q :: r)
    simp only [TL.joinL, List.length_append, List.map_cons, List.sum_cons, List.length_cons] at ih ⊢
    have e : (r.length + 1 + 1) * s.length = (r.length + 1) * s.length + s.length := by rw [Nat.succ_mul]
    omega
theorem joinL_mem {s : List Nat} {x : Nat} : ∀ {ys : List (List Nat)}, x ∈ TL.joinL s ys → x ∈ s ∨ ∃ y ∈ ys, x ∈ y
  | [], h => by simp [TL.joinL] at h
  | [p], h => .inr ⟨p, by simp, by simpa [TL.joinL] using h⟩
  | p :: q :: r, h => by
    simp only [TL.joinL, List.mem_append] at h
    rcases h with h | h | h
    · exact .inr ⟨p, by simp, h⟩
    · exact .inl h
    · rcases joinL_mem h with h | ⟨y, hy, hx⟩
      · exact .inl h
      · exact .inr ⟨y, List.mem_cons_of_mem _ hy, hx⟩
theorem OkS.join {s r : List Nat} {ys : List (List Nat)} (h : OkS s) (hy : ∀ y ∈ ys, OkS y) (e : joinM s ys = some r) : OkS r := by
  obtain ⟨c, rfl⟩ := guardS e
  refine ⟨by rw [sizeLine_16]; exact Nat.le_trans (joinL_len s ys) c, fun x hx => ?_⟩
  rcases joinL_mem hx with hx | ⟨y, h1, h2⟩
  · exact h.cps x hx
  · exact (hy y h1).cps x h2
theorem cutS_L (l : List Nat) (lo hi : Option Int) : cutS (sS l) lo hi = sS (cutL l lo hi) := by
  unfold cutS cutL
  rw [sS_list, sS_len]
  rfl
theorem app_L (a b : List Nat) : sS a ++ sS b = sS (a ++ b) := by
  show (⟨(sS a).cps ++ (sS b).cps⟩ : Str) = _
  simp [sS]
theorem join_L (s : List Nat) (ys : List (List Nat)) : Txt.join (sS s) (ys.map sS) = sS (TL.joinL s ys) := by
  rw [TL.join_eq]
  have h := TL.tl_join (sS s) (ys.map sS)
  have e : (ys.map sS).map TL.tl = ys := by
    rw [List.map_map]
    have h2 : ys.map (TL.tl ∘ sS) = ys.map id := List.map_congr_left fun x _ => sS_list x
    rw [h2, List.map_id]
  rw [e] at h
  have e2 : TL.tl (sS s) = s := sS_list s
  rw [e2] at h
  have e3 : (Str.join (sS s) (ys.map sS)) = sS (TL.tl (Str.join (sS s) (ys.map sS))) := by
    show _ = (⟨(Str.join (sS s) (ys.map sS)).cps.toList.toArray⟩ : Str)
    rw [Array.toArray_toList]
  rw [e3, h]

section
variable {X : Cx} {σ : St} {H : Hp} {K : PySem.W.Frag}
/-! ### rules the kit lacks -/
def CPowX (i j : Int) : Prop := 0 ≤ j ∧ (Builtin.Int.intBits i : Int) * j ≤ 2 ^ 27
theorem op_powX : OpR X (binaryOp .Pow) (rI CPowX fun i j => .int (i ^ j.toNat)) := opI fun _ _ _ _ _ _ _ hc q => PyProof.Rows.pow_int hc.1 hc.2 q
theorem foldl_rep (x : Array Nat) : ∀ (n : Nat) (acc : Array Nat), (List.replicate n x).foldl (· ++ ·) acc = (acc.toList ++ (List.replicate n x.toList).flatten).toArray
  | 0, acc => by simp
  | n + 1, acc => by
    rw [List.replicate_succ, List.foldl_cons, foldl_rep x n (acc ++ x)]
    simp [List.replicate_succ]
/-- text * int -/
def rRepS : R2 := fun x y H Q => ∃ l n, x = vS l ∧ y = .int n ∧ -(2 ^ 63) ≤ n ∧ n < 2 ^ 63 ∧ l.length ≤ sizeLine ∧ l.length * n.toNat ≤ sizeLine ∧ Q (vS (List.replicate n.toNat l).flatten) H
theorem op_repS : OpR X (binaryOp .Mult) rRepS := by
  intro pins s σ H x y v u Q I rx ry h
  obtain ⟨l, n, rfl, rfl, h1, h2, h3, h4, q⟩ := h
  obtain ⟨t, rfl⟩ := rx
  obtain ⟨t', rfl⟩ := ry
  refine P.mul_str ?_ (fun hn _ => ?_) (fun hn _ => ?_) ?_
  · rw [decide_eq_false (by omega), decide_eq_false (by omega)]; rfl
  · rw [sS_len]
    have hn' : 0 < n := by omega
    rw [show ((l.length : Int) > (2 ^ 63 - 1) / n ↔ (2 ^ 63 - 1) / n < (l.length : Int)) from Iff.rfl, Int.ediv_lt_iff_lt_mul hn']
    have e : ((l.length * n.toNat : Nat) : Int) = (l.length : Int) * n := by rw [Int.natCast_mul, Int.toNat_of_nonneg (by omega)]
    have : ((l.length * n.toNat : Nat) : Int) ≤ (sizeLine : Int) := by exact_mod_cast h4
    rw [e, sizeLine_16] at this
    omega
  · rw [sS_len]
    unfold PySem.Builtin.Str.tooLong
    exact decide_eq_false (Nat.not_lt.mpr h4)
  · by_cases c1 : n < 1
    · rw [if_pos c1]
      have e : n.toNat = 0 := by omega
      rw [e] at q
      exact ⟨by decide, V.str _, H, I.tok _, ⟨_, rfl⟩, q⟩
    · rw [if_neg c1]
      by_cases c2 : (n == 1 || (sS l).length == 0) = true
      · rw [if_pos c2]
        refine ⟨V.str (sS l), H, I, ⟨t, rfl⟩, ?_⟩
        have e : (List.replicate n.toNat l).flatten = l := by
          rcases Bool.or_eq_true_iff.mp c2 with c | c
          · have : n = 1 := by simpa using c
            subst this; simp
          · have : l = [] := by
              have : l.length = 0 := by rw [← sS_len]; simpa using c
              exact List.length_eq_zero_iff.mp this
            subst this; simp
        rw [e] at q
        exact q
      · rw [if_neg c2]
        have e : (⟨(List.replicate n.toNat (sS l).cps).foldl (· ++ ·) #[]⟩ : Str) = sS (List.replicate n.toNat l).flatten := by
          rw [foldl_rep]
          simp [sS]
        rw [e]
        refine ⟨?_, V.str _, H, I.tok _, ⟨_, rfl⟩, q⟩
        rw [sS_len, List.length_flatten, List.map_replicate, List.sum_replicate_nat, Nat.mul_comm]
        exact h4
end
end MK

namespace MK
open PySem PySem.Spec L2
section
variable {X : Cx} {σ : St} {H G G' H' : Hp} {K : PySem.W.Frag} {te tf tg : TE} {tl th : TO} {v w x y z : V} {α β γ δ : Type} {R : Rep α} {S : Rep β} {T : Rep γ} {U : Rep δ}
theorem pe_globI {n : Str} {i : Int} {pos : Pos} (hm : ∃ t, X.mg n = some (.int i t)) (hg : Gl X n := by rfl) (hd : (n == ("__debug__" : Str)) = false := by decide) : PE X (.Name n pos) (tC (.int i)) := by
  obtain ⟨t, h⟩ := hm
  exact pe_glob hg h ⟨t, rfl⟩ hd
theorem pe_globS {n x : Str} {pos : Pos} (hm : ∃ t, X.mg n = some (.str x t)) (hg : Gl X n := by rfl) (hd : (n == ("__debug__" : Str)) = false := by decide) : PE X (.Name n pos) (tC (.str x)) := by
  obtain ⟨t, h⟩ := hm
  exact pe_glob hg h ⟨t, rfl⟩ hd
theorem ev_str {s : Str} {l : List Nat} (h : s = sS l) : EV (tC (.str s)) σ H (vS l) := fun Q q => by rw [h]; exact q
theorem castI {a b : Int} (e : some a = some b) (h : EV te σ H (.int a)) : EV te σ H (.int b) := by cases e; exact h
theorem castB {a b : Bool} (e : some a = some b) (h : EV te σ H (.bl a)) : EV te σ H (.bl b) := by cases e; exact h
theorem castS {a b : List Nat} (e : some a = some b) (h : EV te σ H (vS a)) : EV te σ H (vS b) := by cases e; exact h
theorem castOk {a b : List Nat} (e : some a = some b) (h : OkS a) : OkS b := by cases e; exact h
theorem castET {tt : TT} {a b : Bool} (e : some a = some b) (h : ET tt σ H a) : ET tt σ H b := by cases e; exact h
theorem et_andM {tt tu : TT} {a b : Bool} {m : Option Bool} (h : ET tt σ H a) (e : (if a = true then m else some false) = some b) (h2 : a = true → m = some b → ET tu σ H b) : ET (tAnd tt tu) σ H b := fun Q q => h _ (by
  cases a with
  | true => exact h2 rfl (by simpa using e) Q q
  | false => rw [if_neg Bool.false_ne_true] at e ⊢; cases someI e; exact q)
theorem et_orM {tt tu : TT} {a b : Bool} {m : Option Bool} (h : ET tt σ H a) (e : (if a = true then some true else m) = some b) (h2 : a = false → m = some b → ET tu σ H b) : ET (tOr tt tu) σ H b := fun Q q => h _ (by
  cases a with
  | true => rw [if_pos rfl] at e ⊢; cases someI e; exact q
  | false => exact h2 rfl (by simpa using e) Q q)
theorem ev_andM {a b : Bool} {m : Option Bool} (h : EV te σ H (.bl a)) (e : (if a = true then m else some false) = some b) (h2 : a = true → m = some b → EV tf σ H (.bl b)) : EV (tAndV te tf) σ H (.bl b) := fun Q q => h _ ⟨a, rfl, by
  cases a with
  | true => exact h2 rfl (by simpa using e) Q q
  | false => rw [if_neg Bool.false_ne_true] at e ⊢; cases someI e; exact q⟩
theorem ev_orM {a b : Bool} {m : Option Bool} (h : EV te σ H (.bl a)) (e : (if a = true then some true else m) = some b) (h2 : a = false → m = some b → EV tf σ H (.bl b)) : EV (tOrV te tf) σ H (.bl b) := fun Q q => h _ ⟨a, rfl, by
  cases a with
  | true => rw [if_pos rfl] at e ⊢; cases someI e; exact q
  | false => exact h2 rfl (by simpa using e) Q q⟩
/-- a if c else b, of values -/
theorem ev_ifI {tt : TT} {c : Bool} {a b : Int} (h : ET tt σ H c) (h1 : c = true → EV te σ H (.int a)) (h2 : c = false → EV tf σ H (.int b)) : EV (tIf tt te tf) σ H (.int (if c = true then a else b)) := ev_if h (fun e => by rw [if_pos e]; exact h1 e) (fun e => by rw [e, if_neg Bool.false_ne_true]; exact h2 e)
theorem ev_ifM {tt : TT} {c : Bool} {m n : Option α} {r : α} {v : V} (h : ET tt σ H c) (e : (if c = true then m else n) = some r) (h1 : c = true → m = some r → EV te σ H v) (h2 : c = false → n = some r → EV tf σ H v) : EV (tIf tt te tf) σ H v := ev_if h (fun q => h1 q (iteT' e q)) (fun q => h2 q (iteF' e q))
/-- a < b < c -/
theorem ev_chain {r r' : R2} {b c : Bool} (h1 : EV te σ H x) (h2 : EV tf σ H y) (k1 : ∀ Q : VK, Q (.bl b) H → r x y H Q) (h3 : EV tg σ H z) (k2 : ∀ Q : VK, Q (.bl c) H → r' y z H Q) : EV (tChain r r' te tf tg) σ H (.bl (b && c)) := fun Q q => h1 _ (h2 _ (k1 _ ⟨b, rfl, by
  cases b with
  | true => exact h3 _ (k2 _ q)
  | false => exact q⟩))
theorem ev_sl {r : V → Option Int → Option Int → Hp → VK → Prop} {lo hi : Option Int} (h1 : EV te σ H x) (h2 : EO tl σ H lo) (h3 : EO th σ H hi) (k : ∀ Q : VK, Q z H → r x lo hi H Q) : EV (tSl r te tl th) σ H z := fun Q q => h1 _ (h2 _ (h3 _ (k Q q)))
theorem cps_sl {r : V → Option Int → Option Int → Hp → VK → Prop} {Q : VK} (h : te σ H fun x H1 => tl σ H1 fun l H2 => th σ H2 fun u H3 => r x l u H3 Q) : tSl r te tl th σ H Q := h
theorem cps_part {Q : Option Int → Hp → Prop} (h : te σ H fun x H1 => ∃ i, x = .int i ∧ Q (some i) H1) : tPart te σ H Q := h
theorem cps_nopart {Q : Option Int → Hp → Prop} (h : Q none H) : tNoPart σ H Q := h
/-! numbers with a check -/
theorem k_fdiv {i j r : Int} (h : fdivM i j = some r) : ∀ Q : VK, Q (.int r) H → rI CDiv (fun i j => .int (i / j)) (.int i) (.int j) H Q := by
  obtain ⟨c, rfl⟩ := guardS h
  exact fun Q q => ⟨i, j, rfl, rfl, c, q⟩
theorem k_mod {i j r : Int} (h : modM i j = some r) : ∀ Q : VK, Q (.int r) H → rI (fun _ j => 0 < j) (fun i j => .int (i % j)) (.int i) (.int j) H Q := by
  obtain ⟨c, rfl⟩ := guardS h
  exact fun Q q => ⟨i, j, rfl, rfl, c, q⟩
theorem k_mul {i j r : Int} (h : mulM i j = some r) : ∀ Q : VK, Q (.int r) H → rI CMulW (fun i j => .int (i * j)) (.int i) (.int j) H Q := by
  obtain ⟨c, rfl⟩ := guardS h
  exact fun Q q => ⟨i, j, rfl, rfl, c, q⟩
theorem k_pow {i j r : Int} (h : powM i j = some r) : ∀ Q : VK, Q (.int r) H → rI CPowX (fun i j => .int (i ^ j.toNat)) (.int i) (.int j) H Q := by
  obtain ⟨c, rfl⟩ := guardS h
  exact fun Q q => ⟨i, j, rfl, rfl, c, q⟩
theorem k_shl {i j r : Int} (h : shlM i j = some r) : ∀ Q : VK, Q (.int r) H → rI CPow (fun i j => .int (i * 2 ^ j.toNat)) (.int i) (.int j) H Q := by
  obtain ⟨c, rfl⟩ := guardS h
  exact fun Q q => ⟨i, j, rfl, rfl, c, q⟩
theorem k_shr {i j r : Int} (h : shrM i j = some r) : ∀ Q : VK, Q (.int r) H → rI (fun _ j => 0 ≤ j) (fun i j => .int (i / 2 ^ j.toNat)) (.int i) (.int j) H Q := by
  obtain ⟨c, rfl⟩ := guardS h
  exact fun Q q => ⟨i, j, rfl, rfl, c, q⟩
/-! texts -/
theorem k_cat {a b r : List Nat} (h : catM a b = some r) : ∀ Q : VK, Q (vS r) H → (∃ i j, vS a = .str i ∧ vS b = .str j ∧ i.length + j.length ≤ sizeLine ∧ Q (.str (i ++ j)) H) := by
  obtain ⟨c, rfl⟩ := guardS h
  exact fun Q q => ⟨sS a, sS b, rfl, rfl, by rw [sS_len, sS_len]; exact c, by rw [app_L]; exact q⟩
theorem k_rep {a r : List Nat} {n : Int} (ha : OkS a) (h : repM a n = some r) : ∀ Q : VK, Q (vS r) H → rRepS (vS a) (.int n) H Q := by
  obtain ⟨c, rfl⟩ := guardS h
  exact fun Q q => ⟨a, n, rfl, rfl, c.1, c.2.1, ha.len, c.2.2, q⟩
theorem k_cutS {l : List Nat} {lo hi : Option Int} (h : OkS l) : ∀ Q : VK, Q (vS (cutL l lo hi)) H → rSlS (vS l) lo hi H Q := fun Q q => ⟨sS l, rfl, by rw [sS_len]; exact h.len, by rw [cutS_L]; exact q⟩
theorem k_idxS {l r : List Nat} {i : Int} (h : OkS l) (e : sidxM l i = some r) : ∀ Q : VK, Q (vS r) H → rIxS (vS l) (.int i) H Q := by
  obtain ⟨c, e1, e2⟩ := bindS e
  cases someI e2
  exact fun Q q => ⟨sS l, i, c, rfl, rfl, by rw [sS_len]; exact h.len, by rw [sS_list]; exact e1, q⟩
theorem k_lenS {l : List Nat} (h : OkS l) : ∀ Q : VK, Q (.int (l.length : Int)) H → (∃ z, [vS l] = [V.str z] ∧ z.length ≤ sizeLine ∧ Q (.int z.length) H) := fun Q q => ⟨sS l, rfl, by rw [sS_len]; exact h.len, by rw [sS_len]; exact q⟩
theorem k_ltS (a b : List Nat) : ∀ Q : VK, Q (.bl (decide (a < b))) H → (∃ i j, vS a = .str i ∧ vS b = .str j ∧ Q (.bl (decide (i.cps.toList < j.cps.toList))) H) := fun Q q => ⟨sS a, sS b, rfl, rfl, by rw [sS_list, sS_list]; exact q⟩
theorem k_leS (a b : List Nat) : ∀ Q : VK, Q (.bl (!decide (b < a))) H → (∃ i j, vS a = .str i ∧ vS b = .str j ∧ Q (.bl (!decide (j.cps.toList < i.cps.toList))) H) := fun Q q => ⟨sS a, sS b, rfl, rfl, by rw [sS_list, sS_list]; exact q⟩
theorem k_join {s r : List Nat} {ys : List (List Nat)} (h : pL pS ys v H) (e : joinM s ys = some r) : ∀ Q : VK, Q (vS r) H → (∃ a p, ∃ ys : List Str, vS s = .str a ∧ [v] = [.ref p] ∧ (SqL K H p (ys.map V.str) ∨ SqT K H p (ys.map V.str)) ∧ (ys.map (·.length)).sum + ys.length * a.length ≤ 16777216 ∧ Q (.str (Txt.join a ys)) H) := by
  obtain ⟨c, rfl⟩ := guardS e
  obtain ⟨p, vs, rfl, hp, ha, _⟩ := h
  obtain ⟨rfl, _⟩ := ha.str
  refine fun Q q => ⟨sS s, p, ys.map sS, rfl, rfl, .inl (SqL.of (by rw [← vS_map]; exact hp)), ?_, by rw [join_L]; exact q⟩
  rw [List.map_map, List.length_map, sS_len]
  have e2 : ys.map ((fun x : Str => x.length) ∘ sS) = ys.map List.length := List.map_congr_left fun x _ => sS_len x
  rw [e2]
  exact c
theorem ok_join {s r : List Nat} {ys : List (List Nat)} (hs : OkS s) (h : pL pS ys v H) (e : joinM s ys = some r) : OkS r := by
  obtain ⟨p, vs, rfl, hp, ha, _⟩ := h
  exact hs.join ha.str.2 e
/-! lists -/
theorem k_lenL {xs : List α} (h : pL R xs v H) : ∀ Q : VK, Q (.int (xs.length : Int)) H → (∃ p ys, [v] = [.ref p] ∧ (SqL K H p ys ∨ SqT K H p ys) ∧ Q (.int ys.length) H) := by
  obtain ⟨a, vs, rfl, ha, hx, _⟩ := h
  exact fun Q q => ⟨a, vs, rfl, .inl (SqL.of ha), by rw [← hx.len]; exact q⟩
theorem k_lenScr {ns : List Int} (h : pScr K ns v H) : ∀ Q : VK, Q (.int (ns.length : Int)) H → (∃ p ys, [v] = [.ref p] ∧ (SqL K H p ys ∨ SqT K H p ys) ∧ Q (.int ys.length) H) := by
  obtain ⟨a, rfl, ha⟩ := h
  exact fun Q q => ⟨a, _, rfl, .inl ha, by rw [List.length_map]; exact q⟩
theorem atI_some {α : Type} {xs : List α} {i : Int} {x : α} (h : L2.atI xs i = some x) : ∃ j, L2.ixN xs.length i = some j ∧ xs[j]? = some x := bindS h
theorem All2.atI {xs : List α} {vs : List V} {i : Int} {x : α} (h : All2 R H xs vs) (e : L2.atI xs i = some x) : ∃ w, L2.atI vs i = some w ∧ R x w H := by
  obtain ⟨j, h1, h2⟩ := atI_some e
  obtain ⟨w, h3, h4⟩ := h.get h2
  exact ⟨w, by unfold L2.atI; rw [← h.len, h1]; exact h3, h4⟩
theorem k_idxL {xs : List α} {i : Int} {x : α} (h : pL R xs v H) (e : idxM xs i = some x) : ∃ w, R x w H ∧ ∀ Q : VK, Q w H → rIxL K v (.int i) H Q := by
  obtain ⟨a, vs, rfl, ha, hx, _⟩ := h
  obtain ⟨w, h1, h2⟩ := hx.atI e
  exact ⟨w, h2, fun Q q => ⟨a, vs, i, w, rfl, rfl, SqL.of ha, h1, q⟩⟩
theorem k_idxScr {ns : List Int} {i : Int} {x : Int} (h : pScr K ns v H) (e : idxM ns i = some x) : ∀ Q : VK, Q (.int x) H → rIxL K v (.int i) H Q := by
  obtain ⟨a, rfl, ha⟩ := h
  obtain ⟨j, h1, h2⟩ := atI_some e
  exact fun Q q => ⟨a, _, i, _, rfl, rfl, ha, by unfold L2.atI; rw [List.length_map, h1]; show (ns.map V.int)[j]? = _; rw [List.getElem?_map, h2]; rfl, q⟩
/-- a place of a tuple whose items are of one kind -/
theorem k_idxT {xs : List α} {vs : List V} {a : Addr} {i : Int} {x : α} (ha : H a = some (.tup vs)) (h : All2 R H xs vs) (e : idxM xs i = some x) : ∃ w, R x w H ∧ ∀ Q : VK, Q w H → rIxT K (.ref a) (.int i) H Q := by
  obtain ⟨w, h1, h2⟩ := h.atI e
  exact ⟨w, h2, fun Q q => ⟨a, vs, i, w, rfl, rfl, SqT.of ha, h1, q⟩⟩
theorem k_idxLl {xs : List α} {vs : List V} {a : Addr} {i : Int} {x : α} (ha : H a = some (.lst vs)) (h : All2 R H xs vs) (e : idxM xs i = some x) : ∃ w, R x w H ∧ ∀ Q : VK, Q w H → rIxL K (.ref a) (.int i) H Q := by
  obtain ⟨w, h1, h2⟩ := h.atI e
  exact ⟨w, h2, fun Q q => ⟨a, vs, i, w, rfl, rfl, SqL.of ha, h1, q⟩⟩
theorem cutV_L {xs : List α} {vs : List V} (h : All2 R H xs vs) (lo hi : Option Int) : All2 R H (cutL xs lo hi) (cutV vs lo hi) := by
  unfold cutL cutV
  rw [← h.len]
  exact (h.drop _).take _
theorem cutL_len {xs : List α} (lo hi : Option Int) : (cutL xs lo hi).length ≤ xs.length := by
  unfold cutL
  rw [List.length_take, List.length_drop]; omega
theorem setM_some {xs ys : List α} {i : Int} {x : α} (e : setM xs i x = some ys) : ∃ j, L2.ixN xs.length i = some j ∧ ys = xs.set j x := by
  obtain ⟨j, h1, h2⟩ := bindS e
  exact ⟨j, h1, (someI h2).symm⟩
end
/-! ### == of data -/
class Dt {α : Type} (R : Rep α) where
  toD : α → PyData
  dep : Nat
  dp : ∀ {K : PySem.W.Frag} {x : α} {v : V} {H : Hp}, R x v H → Dp K H v (toD x)
  can : ∀ {x : α} {v : V} {H : Hp}, R x v H → (toD x).canLay0 = true
  depth : ∀ x, (toD x).depth ≤ dep
  eqv : ∀ x y, PyData.eqv (toD x) (toD y) = true ↔ x = y
class Nn {α : Type} (R : Rep α) [Dt R] : Prop where
  nn : ∀ x : α, PyData.eqv (.none) (Dt.toD R x) = false ∧ PyData.eqv (Dt.toD R x) (.none) = false
instance : Dt pI where
  toD := .int
  dep := 0
  dp := fun h => by rw [show _ = _ from h]; exact .int _
  can := fun _ => rfl
  depth := fun _ => Nat.le_refl _
  eqv := fun x y => by simp [PyData.eqv]
instance : Dt pB where
  toD := .bool
  dep := 0
  dp := fun h => by rw [show _ = _ from h]; exact .bl _
  can := fun _ => rfl
  depth := fun _ => Nat.le_refl _
  eqv := fun x y => by simp [PyData.eqv]
instance : Dt pS where
  toD := fun l => .str (sS l)
  dep := 0
  dp := fun h => by rw [show _ = _ from h.1]; exact .str _
  can := fun {x} {v} {H} h => by
    simp only [PyData.canLay0, PyData.strOk, Array.all_eq_true']
    intro c hc
    have : c ∈ x := by rw [← sS_list x]; exact Array.mem_toList_iff.mpr hc
    exact decide_eq_true (h.2.cps c this)
  depth := fun _ => Nat.le_refl _
  eqv := fun x y => by
    simp only [PyData.eqv, beq_iff_eq]
    exact ⟨sS_inj, fun e => by rw [e]⟩
instance : Nn pI := ⟨fun _ => by simp [Dt.toD, PyData.eqv]⟩
instance : Nn pB := ⟨fun _ => by simp [Dt.toD, PyData.eqv]⟩
instance : Nn pS := ⟨fun _ => by simp [Dt.toD, PyData.eqv]⟩
theorem canAll_map {α : Type} {R : Rep α} [Dt R] {H : Hp} : ∀ {xs : List α} {vs : List V}, All2 R H xs vs → PyData.canLayAll0 (xs.map (Dt.toD R)) = true
  | _, _, .nil => rfl
  | _, _, .cons r t => by simp only [List.map_cons, PyData.canLayAll0, Dt.can r, canAll_map t, Bool.and_self]
theorem depAll_map {α : Type} {R : Rep α} [Dt R] : ∀ xs : List α, PyData.depthAll (xs.map (Dt.toD R)) ≤ Dt.dep R
  | [] => Nat.zero_le _
  | x :: xs => by simp only [List.map_cons, PyData.depthAll]; exact Nat.max_le.mpr ⟨Dt.depth x, depAll_map xs⟩
theorem eqvAll_map {α : Type} {R : Rep α} [Dt R] : ∀ xs ys : List α, PyData.eqvAll (xs.map (Dt.toD R)) (ys.map (Dt.toD R)) = true ↔ xs = ys
  | [], [] => by simp [PyData.eqvAll]
  | [], y :: ys => by simp [PyData.eqvAll]
  | x :: xs, [] => by simp [PyData.eqvAll]
  | x :: xs, y :: ys => by simp only [List.map_cons, PyData.eqvAll, Bool.and_eq_true, Dt.eqv, eqvAll_map xs ys, List.cons.injEq]
theorem dpAll_map {α : Type} {R : Rep α} [Dt R] {K : PySem.W.Frag} {H : Hp} : ∀ {xs : List α} {vs : List V}, All2 R H xs vs → DpAll K H vs (xs.map (Dt.toD R))
  | _, _, .nil => .nil
  | _, _, .cons r t => .cons (Dt.dp r) (dpAll_map t)
instance {α : Type} {R : Rep α} [Dt R] : Dt (pL R) where
  toD := fun xs => .list (xs.map (Dt.toD R))
  dep := Dt.dep R + 1
  dp := fun ⟨a, vs, e, h, p, _⟩ => by rw [e]; exact .lst (SqL.of h) (dpAll_map p)
  can := fun ⟨a, vs, e, h, p, _⟩ => by simp only [PyData.canLay0]; exact canAll_map p
  depth := fun xs => by simp only [PyData.depth]; exact Nat.succ_le_succ (depAll_map xs)
  eqv := fun x y => by simp only [PyData.eqv]; exact eqvAll_map x y
instance {α : Type} {R : Rep α} [Dt R] : Nn (pL R) := ⟨fun _ => by simp [Dt.toD, PyData.eqv]⟩
instance {α : Type} {R : Rep α} [Dt R] [Nn R] : Dt (pO R) where
  toD := fun o => match o with | none => .none | some x => Dt.toD R x
  dep := Dt.dep R
  dp := fun {K x v H} h => by
    cases x with
    | none => rw [show v = .non from h]; exact .non
    | some x => exact Dt.dp (R := R) h
  can := fun {x v H} h => by
    cases x with
    | none => rfl
    | some x => exact Dt.can (R := R) h
  depth := fun x => by
    cases x with
    | none => exact Nat.zero_le _
    | some x => exact Dt.depth x
  eqv := fun x y => by
    cases x with
    | none => cases y with
      | none => simp [PyData.eqv]
      | some y => simp [(Nn.nn (R := R) y).1]
    | some x => cases y with
      | none => simp [(Nn.nn (R := R) x).2]
      | some y => simp [Dt.eqv]
instance {α β : Type} {R : Rep α} {S : Rep β} [Dt R] [Dt S] : Dt (pT2 R S) where
  toD := fun p => .tuple [Dt.toD R p.1, Dt.toD S p.2]
  dep := max (Dt.dep R) (Dt.dep S) + 1
  dp := fun ⟨a, u, w, e, h, p, q⟩ => by rw [e]; exact .tup (SqT.of h) (.cons (Dt.dp p) (.cons (Dt.dp q) .nil))
  can := fun ⟨a, u, w, e, h, p, q⟩ => by simp only [PyData.canLay0, PyData.canLayAll0, Dt.can p, Dt.can q, Bool.and_self]
  depth := fun p => by
    have h1 := Dt.depth (R := R) p.1
    have h2 := Dt.depth (R := S) p.2
    simp only [PyData.depth, PyData.depthAll]; omega
  eqv := fun x y => by
    obtain ⟨a, b⟩ := x
    obtain ⟨c, d⟩ := y
    simp [PyData.eqv, PyData.eqvAll, Dt.eqv]
instance {α β γ : Type} {R : Rep α} {S : Rep β} {T : Rep γ} [Dt R] [Dt S] [Dt T] : Dt (pT3 R S T) where
  toD := fun p => .tuple [Dt.toD R p.1, Dt.toD S p.2.1, Dt.toD T p.2.2]
  dep := max (max (Dt.dep R) (Dt.dep S)) (Dt.dep T) + 1
  dp := fun ⟨a, u, w, x, e, h, p, q, r⟩ => by rw [e]; exact .tup (SqT.of h) (.cons (Dt.dp p) (.cons (Dt.dp q) (.cons (Dt.dp r) .nil)))
  can := fun ⟨a, u, w, x, e, h, p, q, r⟩ => by simp only [PyData.canLay0, PyData.canLayAll0, Dt.can p, Dt.can q, Dt.can r, Bool.and_self]
  depth := fun p => by
    have h1 := Dt.depth (R := R) p.1
    have h2 := Dt.depth (R := S) p.2.1
    have h3 := Dt.depth (R := T) p.2.2
    simp only [PyData.depth, PyData.depthAll]; omega
  eqv := fun x y => by
    obtain ⟨a, b, c⟩ := x
    obtain ⟨d, e, f⟩ := y
    simp [PyData.eqv, PyData.eqvAll, Dt.eqv]
instance {α β : Type} {R : Rep α} {S : Rep β} [Dt R] [Dt S] : Nn (pT2 R S) := ⟨fun _ => by simp [Dt.toD, PyData.eqv]⟩
instance {α β γ : Type} {R : Rep α} {S : Rep β} {T : Rep γ} [Dt R] [Dt S] [Dt T] : Nn (pT3 R S T) := ⟨fun _ => by simp [Dt.toD, PyData.eqv]⟩
section
variable {σ : St} {H G : Hp} {K : PySem.W.Frag} {v w : V} {α : Type} [DecidableEq α] {R : Rep α} [Dt R]
theorem shapedD {x : α} (h : R x v H) (hd : Dt.dep R ≤ 64 := by decide) : SeqAt.shaped (Dt.toD R x) = true := by
  unfold SeqAt.shaped
  rw [Dt.can h, decide_eq_true (Nat.le_trans (Dt.depth x) hd)]
  rfl
theorem eqvD (x y : α) : PyData.eqv (Dt.toD R x) (Dt.toD R y) = decide (x = y) := by
  by_cases e : x = y
  · rw [decide_eq_true e]; exact (Dt.eqv x y).mpr e
  · rw [decide_eq_false e]
    cases q : PyData.eqv (Dt.toD R x) (Dt.toD R y) with
    | false => rfl
    | true => exact absurd ((Dt.eqv x y).mp q) e
theorem k_eqD {x y : α} (h1 : R x v H) (h2 : R y w H) (hd : Dt.dep R ≤ 64 := by decide) : ∀ Q : VK, Q (.bl (decide (x = y))) H → rEqD K v w H Q := fun Q q => ⟨Dt.toD R x, Dt.toD R y, Dt.dp h1, Dt.dp h2, shapedD h1 hd, shapedD h2 hd, by rw [eqvD]; exact q⟩
theorem k_neD {x y : α} (h1 : R x v H) (h2 : R y w H) (hd : Dt.dep R ≤ 64 := by decide) : ∀ Q : VK, Q (.bl (!decide (x = y))) H → rNeD K v w H Q := fun Q q => ⟨Dt.toD R x, Dt.toD R y, Dt.dp h1, Dt.dp h2, shapedD h1 hd, shapedD h2 hd, by rw [eqvD]; exact q⟩
end
end MK

namespace MK
open PySem PySem.Spec L2
section
variable {E G0 G G' G2 H H' : Hp} {M : List Addr} {cs : List (Addr × HO)} {p a : Addr} {o o' : HO} {α β γ δ : Type} {R : Rep α} {S : Rep β} {T : Rep γ} {U : Rep δ}
theorem W.dropN (w : W E G0 M G cs H) (k : Nat) : W E G0 M G (cs.drop k) H := w.sub' (List.drop_sublist k cs)
theorem W.callOwn (w : W E G0 M G cs H) (q : Post [] G H G' H') (hp : H p = none) (hG : G' p = none) (hH : H' p = some o) : W E G0 M G' ((p, o) :: cs) H' :=
  (w.call q).own' (w.freshE hp) hH hG (w.ne hp)
theorem W.callLay (w : W E G0 M G cs H) (q : Post [] G H G' H') (hp : H p = none) (hG : G' p = none) (hH : H' p = some o) : W E G0 M (upd G' p o) cs H' := by
  have h := (w.callOwn q hp hG hH).freeze 0 rfl (w.freshE hp)
  exact h
theorem W.callMOwn {r : Addr} {u : HO} (w : W E G0 M G cs H) (k : Nat) (hk : cs[k]? = some (p, o)) (q : Post [p] G H G' H') (hp' : H' p = some o') (hr : H r = none) (hG : G' r = none) (hH : H' r = some u) : W E G0 M G' ((r, u) :: cs.set k (p, o')) H' := by
  refine (w.callM k hk q hp').own' (w.freshE hr) hH hG fun c hc => ?_
  have hpp : (p, o) ∈ cs := List.mem_of_getElem? hk
  rcases mem_set_ne w.nd hk c hc with rfl | ⟨h1, h2⟩
  · have q2 := w.ne hr (p, o) hpp; exact q2
  · exact w.ne hr c h1
theorem W.callMLay {r : Addr} {u : HO} (w : W E G0 M G cs H) (k : Nat) (hk : cs[k]? = some (p, o)) (q : Post [p] G H G' H') (hp' : H' p = some o') (hr : H r = none) (hG : G' r = none) (hH : H' r = some u) : W E G0 M (upd G' r u) (cs.set k (p, o')) H' := by
  have h := (w.callMOwn k hk q hp' hr hG hH).freeze 0 rfl (w.freshE hr)
  exact h
theorem same_new (hG : G p = none) : L2.Same G (upd G p o) := fun b u e => by rw [upd_ne (ne_of_none e hG)]; exact e
theorem pL_new [Mn R] {xs : List α} {vs : List V} (hG : G p = none) (ha : All2 R G xs vs) (hl : xs.length ≤ sizeLine) : pL R xs (.ref p) (upd G p (.lst vs)) := ⟨p, vs, rfl, upd_same, All2.mono ha (same_new hG), hl⟩
theorem pL_cell [Mn R] {xs : List α} {vs : List V} (hH : H p = some (.lst vs)) (ha : All2 R G xs vs) (s : L2.Same G H) (hl : xs.length ≤ sizeLine) : pL R xs (.ref p) H := ⟨p, vs, rfl, hH, All2.mono ha s, hl⟩
theorem pT2_new [Mn R] [Mn S] {x : α} {y : β} {u v : V} (hG : G p = none) (h1 : R x u G) (h2 : S y v G) : pT2 R S (x, y) (.ref p) (upd G p (.tup [u, v])) := ⟨p, u, v, rfl, upd_same, Mn.mono h1 (same_new hG), Mn.mono h2 (same_new hG)⟩
theorem pT3_new [Mn R] [Mn S] [Mn T] {x : α} {y : β} {z : γ} {u v w : V} (hG : G p = none) (h1 : R x u G) (h2 : S y v G) (h3 : T z w G) : pT3 R S T (x, y, z) (.ref p) (upd G p (.tup [u, v, w])) := ⟨p, u, v, w, rfl, upd_same, Mn.mono h1 (same_new hG), Mn.mono h2 (same_new hG), Mn.mono h3 (same_new hG)⟩
theorem pT4_new [Mn R] [Mn S] [Mn T] [Mn U] {x : α} {y : β} {z : γ} {t : δ} {u v w q : V} (hG : G p = none) (h1 : R x u G) (h2 : S y v G) (h3 : T z w G) (h4 : U t q G) : pT4 R S T U (x, y, z, t) (.ref p) (upd G p (.tup [u, v, w, q])) := ⟨p, u, v, w, q, rfl, upd_same, Mn.mono h1 (same_new hG), Mn.mono h2 (same_new hG), Mn.mono h3 (same_new hG), Mn.mono h4 (same_new hG)⟩
theorem pT1_new [Mn R] {x : α} {u : V} (hG : G p = none) (h1 : R x u G) : pT1 R x (.ref p) (upd G p (.tup [u])) := ⟨p, u, rfl, upd_same, Mn.mono h1 (same_new hG)⟩
/-! ranges and items -/
def rng1M (n : Int) : Option (List Int) := if decide (-(2 ^ 62) ≤ n ∧ n < 2 ^ 62 ∧ n ≤ sizeLine) = true then some (rangeL 0 n.toNat) else none
theorem rng1_ok {n : Int} {xs : List Int} (h : rng1M n = some xs) : (-(2 ^ 62) ≤ n ∧ n < 2 ^ 62) ∧ xs = rangeL 0 n.toNat ∧ n.toNat ≤ sizeLine := by
  obtain ⟨c, rfl⟩ := guardS h
  exact ⟨⟨c.1, c.2.1⟩, rfl, by omega⟩
theorem rng_ok {lo hi : Int} {xs : List Int} (h : rngM lo hi = some xs) : (-(2 ^ 62) ≤ lo ∧ lo < 2 ^ 62 ∧ -(2 ^ 62) ≤ hi ∧ hi < 2 ^ 62) ∧ xs = rangeL lo (hi - lo).toNat ∧ (hi - lo).toNat ≤ sizeLine := by
  obtain ⟨c, rfl⟩ := guardS h
  exact ⟨⟨c.1, c.2.1, c.2.2.1, c.2.2.2.1⟩, rfl, by omega⟩
theorem rng_item {lo : Int} {n i : Nat} {x : Int} {v : V} (hx : (rangeL lo n)[i]? = some x) (hy : YFn (fun i => .int (lo + i)) i H v H') : H' = H ∧ v = .int x := by
  obtain ⟨rfl, _⟩ := rangeL_at hx
  exact hy
theorem lst_item {xs : List α} {vs : List V} {i : Nat} {x : α} {v : V} (ha : All2 R G xs vs) (hx : xs[i]? = some x) (hy : YAt vs i H v H') : H' = H ∧ R x v G := by
  obtain ⟨e, hv⟩ := hy
  obtain ⟨w, h1, h2⟩ := ha.get hx
  rw [hv] at h1
  cases h1
  exact ⟨e, h2⟩
theorem scr_item {xs : List Int} {i : Nat} {x : Int} {v : V} (hx : xs[i]? = some x) (hy : YAt (xs.map V.int) i H v H') : H' = H ∧ v = .int x := by
  obtain ⟨e, hv⟩ := hy
  rw [List.getElem?_map, hx] at hv
  exact ⟨e, (someI hv).symm⟩
def charsL (l : List Nat) : List (List Nat) := l.map fun c => [c]
theorem str_item {l : List Nat} {i : Nat} {x : List Nat} {v : V} (hx : (charsL l)[i]? = some x) (hy : H' = H ∧ ∃ c, (sS l).cps[i]? = some c ∧ v = .str ⟨#[c]⟩) : H' = H ∧ v = vS x := by
  obtain ⟨e, c, hc, hv⟩ := hy
  unfold charsL at hx
  rw [List.getElem?_map] at hx
  have h2 : l[i]? = some c := by rw [← hc]; simp [sS]
  rw [h2] at hx
  cases hx
  exact ⟨e, hv⟩
theorem str_ok {l : List Nat} {i : Nat} {x : List Nat} (h : OkS l) (hx : (charsL l)[i]? = some x) : OkS x := by
  unfold charsL at hx
  rw [List.getElem?_map] at hx
  cases e : l[i]? with
  | none => rw [e] at hx; cases hx
  | some c => rw [e] at hx; cases hx; exact h.one (List.mem_of_getElem? e)
theorem charsL_len (l : List Nat) : (charsL l).length = (sS l).cps.size := by simp [charsL, sS]
/-! ### control -/
def ctlK {X σ : Type} (c : Ctl X σ) (k : σ → Option X) : Option X := match c with
  | .rt x => some x
  | .nx s => k s
  | .bk s => k s
theorem ctlK_rt {X σ : Type} {c : Ctl X σ} {k : σ → Option X} {r x : X} (h : ctlK c k = some r) (e : c = .rt x) : r = x := by subst e; exact (someI h).symm
theorem ctlK_nx {X σ : Type} {c : Ctl X σ} {k : σ → Option X} {r : X} {s : σ} (h : ctlK c k = some r) (e : c = .nx s) : k s = some r := by subst e; exact h
end
section
variable {σ : St} {H : Hp} {Q : VK} {te : TE} {tt : TT} {D : Ends} {rest ts tsu t : TS} {sp : Sp} {E : XK} {ta : TA}
theorem cps_call (h : ta σ H fun vs H1 => sp (vs ++ []) H1 Q E) : tCall sp [] E ta σ H Q := h
theorem cps_tup (h : ta σ H fun xs H1 => xs.length ≤ sizeLine ∧ ∀ p, H1 p = none → Q (.ref p) (upd H1 p (.tup xs))) : tTup ta σ H Q := h
theorem cps_lst (h : ta σ H fun xs H1 => xs.length ≤ sizeLine ∧ ∀ p, H1 p = none → Q (.ref p) (upd H1 p (.lst xs))) : tLst ta σ H Q := h
theorem cps_rng1 {R : It → Hp → Prop} (h : ta σ H fun vs H1 => ∃ j : Int, vs = [.int j] ∧ -(2 ^ 62) ≤ j ∧ j < 2 ^ 62 ∧ R (Itr 0 j.toNat) H1) : iRng1 ta σ H R := h
theorem cps_rng2 {R : It → Hp → Prop} (h : ta σ H fun vs H1 => ∃ i j : Int, vs = [.int i, .int j] ∧ (-(2 ^ 62) ≤ i ∧ i < 2 ^ 62 ∧ -(2 ^ 62) ≤ j ∧ j < 2 ^ 62) ∧ R (Itr i (j - i).toNat) H1) : iRng2 ta σ H R := h
theorem cps_list {K : PySem.W.Frag} {R : It → Hp → Prop} (h : te σ H fun x H1 => ∃ a, x = .ref a ∧ (∃ xs, SqL K H1 a xs) ∧ R (Itl K a) H1) : iList K te σ H R := h
theorem cps_str {R : It → Hp → Prop} (h : te σ H fun v H1 => ∃ x, v = .str x ∧ R (Its x) H1) : iStr te σ H R := h
theorem cps_tupI {K : PySem.W.Frag} {R : It → Hp → Prop} (h : te σ H fun x H1 => ∃ a, x = .ref a ∧ (∃ xs, SqT K H1 a xs) ∧ R (Itt K a) H1) : iTup K te σ H R := h
theorem s_if0 (h : tt σ H fun b H1 => if b = true then ts { D with nx := rest D } σ H1 else tsu { D with nx := rest D } σ H1) : tSeq (tIfS tt ts tsu) rest D σ H := h
theorem cps_next (h : D.nx σ H) : tNext D σ H := h
theorem cps_nextS {N : St → Hp → Prop} (h : N σ H) : tNext { D with nx := N } σ H := h
theorem st_conv {σ' : St} (e : σ = σ') (h : t D σ' H) : t D σ H := by subst e; exact h
theorem cps_par {i j : Nat} (τ : V → V → St) (e : ∀ x y, (σ.set i (some x)).set j (some y) = τ x y) (h : ta σ H fun vs H1 => ∃ v w, vs = [v, w] ∧ rest D (τ v w) H1) : tSeq (tPar i j ta) rest D σ H := by
  have e' : τ = fun x y => (σ.set i (some x)).set j (some y) := funext fun x => funext fun y => (e x y).symm
  subst e'
  exact h
theorem cps_asgG {g : TG} (h : te σ H fun x H1 => g x σ H1 (rest D)) : tSeq (tAsg te g) rest D σ H := h
theorem cps_sub {to ti : TE} {s : TSet} {v : V} {N : St → Hp → Prop} (h : to σ H fun o H1 => ti σ H1 fun i H2 => s o i v H2 fun H3 => N σ H3) : gSub to ti s v σ H N := h
theorem cps_aug {i : Nat} {ti : TIp} {x : V} (τ : V → St) (e : ∀ z, σ.set i (some z) = τ z) (hx : σ[i]? = some (some x)) (h : te σ H fun y H1 => ti x y H1 fun z H2 => rest D (τ z) H2) : tSeq (tAug i te ti) rest D σ H := by
  have e' : τ = fun z => σ.set i (some z) := funext fun z => (e z).symm
  subst e'
  exact ⟨x, hx, h⟩
theorem cps_bm {K : PySem.W.Frag} {n : String} {r : V → List V → Hp → VK → Prop} {to : TE} (h : to σ H fun x H1 => tyV K n x H1 ∧ ta σ H1 fun xs H2 => r x xs H2 Q) : tBM K n r to ta σ H Q := h
theorem cps_bm0 {K : PySem.W.Frag} {n : String} {r : V → List V → Hp → VK → Prop} {to : TE} (h : to σ H fun x H1 => tyV K n x H1 ∧ r x [] H1 Q) : tBM0 K n r to σ H Q := h
theorem tyL {K : PySem.W.Frag} {a : Addr} {xs : List V} (h : H a = some (.lst xs)) : tyV K "list" (.ref a) H := Or.inl ⟨rfl, _, SqL.of h⟩
theorem cps_lc {wi : TI} {g : TG} {te' : TE} {vs : List Nat} (h : wi σ H fun J H1 => ∀ D, H1 D = none → ∃ W : Nat → Nat → Hp → Prop, (∃ m, W 0 m (upd H1 D (.lst []))) ∧ ∀ i m H, W i m H →
  (J.stop i H ∧ Q (.ref D) H) ∨ (J.go i H ∧ ∃ Nx : Hp → Prop, (∀ H', Nx H' → ∃ m', m' < m ∧ W (i + 1) m' H') ∧ ∀ x H', J.yld i H x H' → g x (wipe σ vs) H' fun σ2 H2 => wipe σ2 vs = wipe σ vs ∧ tt σ2 H2 fun b H3 =>
    if b = true then te' σ2 H3 fun y H4 => ∃ acc, H4 D = some (.lst acc) ∧ acc.length < sizeLine ∧ Nx (upd H4 D (.lst (acc ++ [y]))) else Nx H3)) : tLc wi g tt te' vs σ H Q := h
end
section
variable {H G : Hp} {K : PySem.W.Frag} {α : Type} {R : Rep α} {v w : V}
/-- xs[i] of a list that is in the base -/
theorem k_idxG {xs : List α} {i : Int} {x : α} (h : pL R xs v G) (s : L2.Same G H) (e : idxM xs i = some x) : ∃ w, R x w G ∧ ∀ Q : VK, Q w H → rIxL K v (.int i) H Q := by
  obtain ⟨a, vs, rfl, ha, hx, _⟩ := h
  obtain ⟨w, h1, h2⟩ := hx.atI e
  exact ⟨w, h2, fun Q q => ⟨a, vs, i, w, rfl, rfl, SqL.of (s _ _ ha), h1, q⟩⟩
theorem k_idxC {xs : List α} {vs : List V} {a : Addr} {i : Int} {x : α} (ha : H a = some (.lst vs)) (h : All2 R G xs vs) (e : idxM xs i = some x) : ∃ w, R x w G ∧ ∀ Q : VK, Q w H → rIxL K (.ref a) (.int i) H Q := by
  obtain ⟨w, h1, h2⟩ := h.atI e
  exact ⟨w, h2, fun Q q => ⟨a, vs, i, w, rfl, rfl, SqL.of ha, h1, q⟩⟩
theorem k_idxTG {xs : List α} {vs : List V} {a : Addr} {i : Int} {x : α} (ha : H a = some (.tup vs)) (h : All2 R G xs vs) (e : idxM xs i = some x) : ∃ w, R x w G ∧ ∀ Q : VK, Q w H → rIxT K (.ref a) (.int i) H Q := by
  obtain ⟨w, h1, h2⟩ := h.atI e
  exact ⟨w, h2, fun Q q => ⟨a, vs, i, w, rfl, rfl, SqT.of ha, h1, q⟩⟩
theorem appM_ok {xs ys : List α} {y : α} (h : appM xs y = some ys) : xs.length < sizeLine ∧ ys = xs ++ [y] ∧ ys.length ≤ sizeLine := by
  obtain ⟨c, rfl⟩ := guardS h
  exact ⟨c, rfl, by rw [List.length_append]; exact c⟩
theorem app_hw {a : Addr} {vs : List V} {y : V} {Q : VK} {xs ys : List α} {x : α} (hx : All2 R G xs vs) (e : appM xs x = some ys) (ha : H a = some (.lst vs)) (h : Q .non (upd H a (.lst (vs ++ [y])))) : rAppend (.ref a) [y] H Q := ⟨a, vs, y, rfl, rfl, ha, by rw [← hx.len]; exact (appM_ok e).1, h⟩
theorem app_all {vs : List V} {y : V} {xs ys : List α} {x : α} (hx : All2 R G xs vs) (hy : R x y G) (e : appM xs x = some ys) : All2 R G ys (vs ++ [y]) := by
  rw [(appM_ok e).2.1]
  exact hx.app (All2.one hy)
theorem ixN_len {α β : Type} {xs : List α} {ys : List β} (h : xs.length = ys.length) {i : Int} {j : Nat} (e : L2.ixN xs.length i = some j) : L2.ixN ys.length i = some j := by rw [← h]; exact e
theorem set_all {vs : List V} {y : V} {xs ys : List α} {x : α} {i : Int} (hx : All2 R G xs vs) (hy : R x y G) (e : setM xs i x = some ys) : ∃ j, L2.ixN vs.length i = some j ∧ All2 R G ys (vs.set j y) ∧ ys.length = xs.length := by
  obtain ⟨j, h1, rfl⟩ := setM_some e
  exact ⟨j, ixN_len hx.len h1, hx.set hy j, by rw [List.length_set]⟩
theorem set_hw {a : Addr} {vs : List V} {y : V} {i : Int} {j : Nat} {N : Hp → Prop} (ha : H a = some (.lst vs)) (hj : L2.ixN vs.length i = some j) (h : N (upd H a (.lst (vs.set j y)))) : rSetL (.ref a) (.int i) y H N := ⟨a, vs, i, j, rfl, rfl, ha, hj, h⟩
/-! isinstance of what is known -/
theorem isiT {x : V} {t n : String} {b : Bool} (h : TyX K H x (.type t)) (k : kitB t n = some b) : ∀ Q : VK, Q (.bl b) H → rIsi K [x, .ty n] H Q := fun Q q => ⟨x, .ty n, .type t, .type n, b, rfl, .ty n, h, kit_ty k, q⟩
theorem tyI (i : Int) : TyX K H (.int i) (.type "int") := .base (.int i)
theorem tyB (i : Bool) : TyX K H (.bl i) (.type "bool") := .base (.bl i)
theorem tyS (l : List Nat) : TyX K H (vS l) (.type "str") := .base (.str _)
theorem tyN : TyX K H .non (.type "NoneType") := .base .non
theorem tyLs {xs : List α} (h : pL R xs v H) : TyX K H v (.type "list") := by
  obtain ⟨a, vs, rfl, ha, _⟩ := h
  exact .base (.lst ha)
end
end MK

namespace MK
open PySem PySem.Spec L2
def fuel : Nat := 100000
def ForG (J : It) (g : TG) (tb : TS) (D : Ends) (σ : St) (H : Hp) : Prop := ∃ W : Nat → Nat → St → Hp → Prop, (∃ m, W 0 m σ H) ∧ ∀ i m σ H, W i m σ H →
  (J.stop i H ∧ D.nx σ H) ∨ (J.go i H ∧ ∃ N : St → Hp → Prop, (∀ σ' H', N σ' H' → ∃ m', m' < m ∧ W (i + 1) m' σ' H') ∧ ∀ x H', J.yld i H x H' → g x σ H' fun σ2 H2 => tb { D with nx := N, ct := N, bk := D.nx } σ2 H2)
section
variable {J : It} {n : Nat} {G : Hp → Prop} {Y : Nat → Hp → V → Hp → Prop} {α β ρ S : Type}
theorem cps_forG {wi : TI} {g : TG} {tb rest : TS} {D : Ends} {σ : St} {H : Hp} (h : wi σ H fun J H1 => ForG J g tb { D with nx := rest D } σ H1) : tSeq (tFor wi g tb) rest D σ H := h
theorem loop_w2 (w : Walk J n G Y) {xs : List α} (hn : xs.length = n) {f : α → S → Option (Ctl ρ S)} {s0 : S} {res : Ctl ρ S} (hm : loopM f xs s0 = some res)
    {g : TG} {tb : TS} {D : Ends} {σ : St} {H : Hp} (P : S → St → Hp → Prop) (h0 : P s0 σ H) (hG : ∀ s σ H, P s σ H → G H)
    (turn : ∀ (i : Nat) x s c v σ H H', xs[i]? = some x → f x s = some c → (∀ r, c = .rt r → res = .rt r) → P s σ H → Y i H v H' →
      ∀ N : St → Hp → Prop, (∀ s' σ' H', c = .nx s' → P s' σ' H' → N σ' H') → (∀ s' σ' H', c = .bk s' → P s' σ' H' → D.nx σ' H') → g v σ H' fun σ2 H2 => tb { D with nx := N, ct := N, bk := D.nx } σ2 H2)
    (done : ∀ s' σ H, res = .nx s' → P s' σ H → D.nx σ H) : ForG J g tb D σ H :=
  loop_w w hn hm P h0 hG (fun i x s c v σ H H' h1 h2 h3 h4 h5 h6 N kN => turn i x s c v σ H H' h1 h2 h4 h5 h6 N kN fun s' σ' H' e p => done s' σ' H' (h3 s' e) p) done
theorem fold_w2 (w : Walk J n G Y) {xs : List α} (hn : xs.length = n) {f : α → S → Option S} {s0 res : S} (hm : foldO f xs s0 = some res)
    {g : TG} {tb : TS} {D : Ends} {σ : St} {H : Hp} (P : S → St → Hp → Prop) (h0 : P s0 σ H) (hG : ∀ s σ H, P s σ H → G H)
    (turn : ∀ (i : Nat) x s s' v σ H H', xs[i]? = some x → f x s = some s' → P s σ H → Y i H v H' →
      ∀ N : St → Hp → Prop, (∀ σ' H', P s' σ' H' → N σ' H') → g v σ H' fun σ2 H2 => tb { D with nx := N, ct := N, bk := D.nx } σ2 H2)
    (done : ∀ σ H, P res σ H → D.nx σ H) : ForG J g tb D σ H := fold_w w hn hm P h0 hG turn done
theorem while_w2 {c : S → Option Bool} {f : S → Option (Ctl ρ S)} {fu : Nat} {s0 : S} {res : Ctl ρ S} (hm : whileM c f fu s0 = some res)
    {tc : TT} {tb : TS} {D : Ends} {rest : TS} {σ : St} {H : Hp} (P : S → St → Hp → Prop) (h0 : P s0 σ H)
    (test : ∀ s b σ H, c s = some b → P s σ H → ∀ Q : Bool → Hp → Prop, (∀ H1, P s σ H1 → Q b H1) → tc σ H Q)
    (body : ∀ s cc σ H, c s = some true → f s = some cc → (∀ r, cc = .rt r → res = .rt r) → P s σ H →
      ∀ N : St → Hp → Prop, (∀ s' σ' H', cc = .nx s' → P s' σ' H' → N σ' H') → (∀ s' σ' H', cc = .bk s' → P s' σ' H' → rest D σ' H') → tb { D with nx := N, ct := N, bk := rest D } σ H)
    (done : ∀ s' σ H, res = .nx s' → P s' σ H → rest D σ H) : tSeq (tWhile tc tb) rest D σ H :=
  while_w hm P h0 test (fun s cc σ H h1 h2 h3 h4 h5 N kN => body s cc σ H h1 h2 h4 h5 N kN fun s' σ' H' e p => done s' σ' H' (h3 s' e) p) done
theorem for_nm {K : St → Hp → Prop} {σ τ : St} {i : Nat} {v : V} {H' : Hp} (e1 : σ.set i (some v) = τ) (h : K τ H') : gName i v σ H' K := by
  subst e1; exact h
theorem mapP_len {f : α → Option β} : ∀ {xs : List α} {ys : List β}, mapP f xs = some ys → ys.length ≤ xs.length
  | [], ys, h => by cases h; simp
  | x :: xs, ys, h => by
    obtain ⟨r, e1, h⟩ := bindS h
    obtain ⟨q, e2, h⟩ := bindS h
    cases h
    have := mapP_len e2
    simpa using this
theorem lcP_len {f : α → Option (Option β)} : ∀ {xs : List α} {ys : List β}, lcP f xs = some ys → ys.length ≤ xs.length
  | [], ys, h => by cases h; simp
  | x :: xs, ys, h => by
    obtain ⟨r, e1, h⟩ := bindS h
    obtain ⟨q, e2, h⟩ := bindS h
    have := lcP_len e2
    cases r <;> cases h <;> simp <;> omega
theorem lcS_len {f : α → S → Option (Option β × S)} : ∀ {xs : List α} {s : S} {q : List β × S}, lcS f xs s = some q → q.1.length ≤ xs.length
  | [], s, q, h => by cases h; simp
  | x :: xs, s, q, h => by
    obtain ⟨r, e1, h⟩ := bindS h
    obtain ⟨q', e2, h⟩ := bindS h
    have := lcS_len e2
    cases hr : r.1 with
    | none => rw [hr] at h; cases h; simp; omega
    | some y => rw [hr] at h; cases h; simp; omega
theorem lenz {xs : List α} {n : Nat} (h : xs.length = n) (z : n ≤ sizeLine) : xs.length ≤ sizeLine := by rw [h]; exact z
theorem charsL_length (l : List Nat) : (charsL l).length = l.length := by simp [charsL]
theorem iteT_yes {A B : Hp → Prop} {σ : St} {H : Hp} (h : A H) : tYes σ H (fun b H3 => if b = true then A H3 else B H3) := by
  show if true = true then A H else B H
  exact iteT h
end
section
variable {σ : St} {H G G' : Hp} {Q : VK} {te tf : TE} {tt tu : TT} {D : Ends} {rest ts tsu : TS} {K : PySem.W.Frag} {v w u x y : V} {α β γ δ : Type} {R : Rep α} {S : Rep β} {T : Rep γ} {U : Rep δ} {a : Addr}
theorem cut_if3 {P N : St → Hp → Prop} (b : Bool) (h1 : b = true → ∀ N' : St → Hp → Prop, (∀ σ' H', P σ' H' → N' σ' H') → ts { D with nx := N' } σ H) (h2 : b = false → ∀ N' : St → Hp → Prop, (∀ σ' H', P σ' H' → N' σ' H') → tsu { D with nx := N' } σ H)
    (k : ∀ σ' H', P σ' H' → N σ' H') : if b = true then ts { D with nx := N } σ H else tsu { D with nx := N } σ H := cut_if b k h1 h2
theorem cut_et2 {Q : Bool → Hp → Prop} {P : Bool → Hp → Prop} (h : ∀ Q' : Bool → Hp → Prop, (∀ v H', P v H' → Q' v H') → tt σ H Q') (k : ∀ v H', P v H' → Q v H') : tt σ H Q := h Q k
theorem cps_and {Q : Bool → Hp → Prop} (h : tt σ H fun c H1 => if c = true then tu σ H1 Q else Q false H1) : tAnd tt tu σ H Q := h
theorem cps_or {Q : Bool → Hp → Prop} (h : tt σ H fun c H1 => if c = true then Q true H1 else tu σ H1 Q) : tOr tt tu σ H Q := h
theorem cps_cont (h : D.ct σ H) : tSeq tCont rest D σ H := h
theorem cps_break (h : D.bk σ H) : tSeq tBreak rest D σ H := h
theorem cps_gtup2 {i j : Nat} {N : St → Hp → Prop} (τ : V → V → St) (e : ∀ x y, (σ.set i (some x)).set j (some y) = τ x y) (ha : H a = some (.tup [u, w])) (h : N (τ u w) H) : gTup K 2 (gCons (gName i) (gCons (gName j) gNil)) (.ref a) σ H N := by
  refine ⟨a, [u, w], rfl, SqT.of ha, rfl, u, [w], rfl, w, [], rfl, rfl, ?_⟩
  have e' := e u w
  first | exact e' ▸ h | (rw [e']; exact h)
theorem cps_gtup3 {i j k : Nat} {N : St → Hp → Prop} (τ : V → V → V → St) (e : ∀ x y z, ((σ.set i (some x)).set j (some y)).set k (some z) = τ x y z) (ha : H a = some (.tup [u, w, v])) (h : N (τ u w v) H) : gTup K 3 (gCons (gName i) (gCons (gName j) (gCons (gName k) gNil))) (.ref a) σ H N := by
  refine ⟨a, [u, w, v], rfl, SqT.of ha, rfl, u, [w, v], rfl, w, [v], rfl, v, [], rfl, rfl, ?_⟩
  have e' := e u w v
  first | exact e' ▸ h | (rw [e']; exact h)
theorem pO_some {o : Option α} {x : α} (h : pO R o v H) (e : o = some x) : R x v H := by subst e; exact h
end
end MK

namespace MK
open PySem PySem.Spec L2
section
variable {E G0 G G' H H' : Hp} {M : List Addr} {cs cs' : List (Addr × HO)}
theorem W.recell (w : W E G0 M G cs H) (e : cs = cs') : W E G0 M G cs' H := e ▸ w
end
section
variable {σ : St} {H G G' : Hp} {Q : VK} {te tf : TE} {K : PySem.W.Frag} {v w u x y : V} {α β γ δ : Type} {R : Rep α} {S : Rep β} {T : Rep γ} {U : Rep δ} {a : Addr}
/-! items of tuples -/
theorem k_tup1_0 {p : α} (h : pT1 R p v G) (s : L2.Same G H) : ∃ w, R p w G ∧ ∀ Q : VK, Q w H → rIxT K v (.int 0) H Q := by
  obtain ⟨a, u, rfl, h, r⟩ := h
  exact ⟨u, r, fun Q q => ⟨a, _, 0, u, rfl, rfl, SqT.of (s _ _ h), rfl, q⟩⟩
theorem k_tup2_0 {p : α × β} (h : pT2 R S p v G) (s : L2.Same G H) : ∃ w, R p.1 w G ∧ ∀ Q : VK, Q w H → rIxT K v (.int 0) H Q := by
  obtain ⟨a, u, w, rfl, h, r, r2⟩ := h
  exact ⟨u, r, fun Q q => ⟨a, _, 0, u, rfl, rfl, SqT.of (s _ _ h), rfl, q⟩⟩
theorem k_tup2_1 {p : α × β} (h : pT2 R S p v G) (s : L2.Same G H) : ∃ w, S p.2 w G ∧ ∀ Q : VK, Q w H → rIxT K v (.int 1) H Q := by
  obtain ⟨a, u, w, rfl, h, r, r2⟩ := h
  exact ⟨w, r2, fun Q q => ⟨a, _, 1, w, rfl, rfl, SqT.of (s _ _ h), rfl, q⟩⟩
theorem k_tup3_0 {p : α × β × γ} (h : pT3 R S T p v G) (s : L2.Same G H) : ∃ w, R p.1 w G ∧ ∀ Q : VK, Q w H → rIxT K v (.int 0) H Q := by
  obtain ⟨a, u, w, x, rfl, h, r, r2, r3⟩ := h
  exact ⟨u, r, fun Q q => ⟨a, _, 0, u, rfl, rfl, SqT.of (s _ _ h), rfl, q⟩⟩
theorem k_tup3_1 {p : α × β × γ} (h : pT3 R S T p v G) (s : L2.Same G H) : ∃ w, S p.2.1 w G ∧ ∀ Q : VK, Q w H → rIxT K v (.int 1) H Q := by
  obtain ⟨a, u, w, x, rfl, h, r, r2, r3⟩ := h
  exact ⟨w, r2, fun Q q => ⟨a, _, 1, w, rfl, rfl, SqT.of (s _ _ h), rfl, q⟩⟩
theorem k_tup3_2 {p : α × β × γ} (h : pT3 R S T p v G) (s : L2.Same G H) : ∃ w, T p.2.2 w G ∧ ∀ Q : VK, Q w H → rIxT K v (.int 2) H Q := by
  obtain ⟨a, u, w, x, rfl, h, r, r2, r3⟩ := h
  exact ⟨x, r3, fun Q q => ⟨a, _, 2, x, rfl, rfl, SqT.of (s _ _ h), rfl, q⟩⟩
theorem tyT2 {p : α × β} (h : pT2 R S p v H) : TyX K H v (.type "tuple") := by
  obtain ⟨a, u, w, rfl, h, _⟩ := h
  exact .base (.tup h)
theorem tyT3 {p : α × β × γ} (h : pT3 R S T p v H) : TyX K H v (.type "tuple") := by
  obtain ⟨a, u, w, x, rfl, h, _⟩ := h
  exact .base (.tup h)
/-! a list as it is got -/
structure GotL (R : Rep α) (G H : Hp) (xs : List α) (v : V) (vs : List V) : Prop where
  at_ : ∃ a, v = .ref a ∧ H a = some (.lst vs)
  all : All2 R G xs vs
  len : xs.length ≤ sizeLine
theorem gotL {xs : List α} {vs : List V} (h : H a = some (.lst vs)) (ha : All2 R G xs vs) (hl : xs.length ≤ sizeLine) : ∃ vs, GotL R G H xs (.ref a) vs := ⟨vs, ⟨a, rfl, h⟩, ha, hl⟩
theorem gotG {xs : List α} (h : pL R xs v G) (s : L2.Same G H) : ∃ vs, GotL R G H xs v vs := by
  obtain ⟨a, vs, e, h, ha, hl⟩ := h
  exact ⟨vs, ⟨a, e, s _ _ h⟩, ha, hl⟩
theorem k_listL {xs : List α} (h : ∃ vs, GotL R G H xs v vs) : ∃ vs, All2 R G xs vs ∧ xs.length ≤ sizeLine ∧ ∀ Q : VK, (∀ p, H p = none → Q (.ref p) (upd H p (.lst vs))) → (∃ p ys, [v] = [.ref p] ∧ (SqL K H p ys ∨ SqT K H p ys) ∧ ∀ l, H l = none → Q (.ref l) (upd H l (.lst ys))) := by
  obtain ⟨vs, ⟨a, rfl, h⟩, ha, hl⟩ := h
  exact ⟨vs, ha, hl, fun Q q => ⟨a, vs, rfl, .inl (SqL.of h), q⟩⟩
theorem k_catL {xs ys zs : List α} (h : ∃ vs, GotL R G H xs v vs) (h2 : ∃ vs, GotL R G H ys w vs) (e : catLM xs ys = some zs) : ∃ vs, All2 R G zs vs ∧ zs.length ≤ sizeLine ∧ ∀ Q : VK, (∀ p, H p = none → Q (.ref p) (upd H p (.lst vs))) → rCat v w H Q := by
  obtain ⟨vs, ⟨a, rfl, h⟩, ha, hl⟩ := h
  obtain ⟨ws, ⟨b, rfl, h2⟩, hb, hl2⟩ := h2
  obtain ⟨c, rfl⟩ := guardS e
  exact ⟨vs ++ ws, ha.app hb, by rw [List.length_append]; exact c, fun Q q => ⟨a, b, vs, ws, rfl, rfl, h, h2, by rw [← ha.len, ← hb.len]; exact c, q⟩⟩
theorem All2.rep {xs : List α} {vs : List V} (h : All2 R G xs vs) : ∀ n : Nat, All2 R G (List.replicate n xs).flatten (List.replicate n vs).flatten
  | 0 => .nil
  | n + 1 => by rw [List.replicate_succ, List.replicate_succ, List.flatten_cons, List.flatten_cons]; exact h.app (All2.rep h n)
theorem k_repL {xs zs : List α} {n : Int} (h : ∃ vs, GotL R G H xs v vs) (e : repLM xs n = some zs) : ∃ vs, All2 R G zs vs ∧ zs.length ≤ sizeLine ∧ ∀ Q : VK, (∀ p, H p = none → Q (.ref p) (upd H p (.lst vs))) → rRep v (.int n) H Q := by
  obtain ⟨vs, ⟨a, rfl, h⟩, ha, hl⟩ := h
  obtain ⟨c, rfl⟩ := guardS e
  refine ⟨_, ha.rep n.toNat, ?_, fun Q q => ⟨a, n, vs, rfl, rfl, h, c.1, c.2.1, by rw [← ha.len]; exact c.2.2, q⟩⟩
  rw [List.length_flatten, List.map_replicate, List.sum_replicate_nat, Nat.mul_comm]; exact c.2.2
theorem k_slL {xs : List α} {lo hi : Option Int} (h : ∃ vs, GotL R G H xs v vs) : ∃ vs, All2 R G (cutL xs lo hi) vs ∧ (cutL xs lo hi).length ≤ sizeLine ∧ ∀ Q : VK, (∀ p, H p = none → Q (.ref p) (upd H p (.lst vs))) → rSlL K v lo hi H Q := by
  obtain ⟨vs, ⟨a, rfl, h⟩, ha, hl⟩ := h
  exact ⟨_, cutV_L ha lo hi, Nat.le_trans (cutL_len lo hi) hl, fun Q q => ⟨a, vs, rfl, SqL.of h, q⟩⟩
/-! built-ins -/
theorem k_any {bs : List Bool} (h : pL pB bs v H) : ∀ Q : VK, Q (.bl (bs.any id)) H → rAny K [v] H Q := by
  obtain ⟨a, vs, rfl, h, ha, _⟩ := h
  cases ha.bool
  exact fun Q q => ⟨a, bs, rfl, SqL.of h, q⟩
theorem k_all {bs : List Bool} (h : pL pB bs v H) : ∀ Q : VK, Q (.bl (bs.all id)) H → rAll K [v] H Q := by
  obtain ⟨a, vs, rfl, h, ha, _⟩ := h
  cases ha.bool
  exact fun Q q => ⟨a, bs, rfl, SqL.of h, q⟩
theorem k_sum {ns : List Int} (h : pL pI ns v H) : ∀ Q : VK, Q (.int ns.sum) H → rSum K [v] H Q := by
  obtain ⟨a, vs, rfl, h, ha, _⟩ := h
  cases ha.int
  exact fun Q q => ⟨a, ns, rfl, SqL.of h, q⟩
theorem k_abs (i : Int) : ∀ Q : VK, Q (.int (if i < 0 then -i else i)) H → (∃ j, [V.int i] = [.int j] ∧ Q (.int (if j < 0 then -j else j)) H) := fun Q q => ⟨i, rfl, q⟩
theorem k_min2 (i j : Int) : ∀ Q : VK, Q (.int (if j < i then j else i)) H → (∃ k l, [V.int i, V.int j] = [.int k, .int l] ∧ Q (.int (if l < k then l else k)) H) := fun Q q => ⟨i, j, rfl, q⟩
theorem k_max2 (i j : Int) : ∀ Q : VK, Q (.int (if j > i then j else i)) H → (∃ k l, [V.int i, V.int j] = [.int k, .int l] ∧ Q (.int (if l > k then l else k)) H) := fun Q q => ⟨i, j, rfl, q⟩
theorem k_intB (b : Bool) : ∀ Q : VK, Q (.int (if b = true then 1 else 0)) H → ((∃ i, [V.bl b] = [.int i] ∧ Q (.int i) H) ∨ ∃ k, [V.bl b] = [.bl k] ∧ Q (.int (if k = true then 1 else 0)) H) := fun Q q => .inr ⟨b, rfl, q⟩
theorem k_intI (i : Int) : ∀ Q : VK, Q (.int i) H → ((∃ j, [V.int i] = [.int j] ∧ Q (.int j) H) ∨ ∃ k, [V.int i] = [.bl k] ∧ Q (.int (if k = true then 1 else 0)) H) := fun Q q => .inl ⟨i, rfl, q⟩
def inS (y x : List Nat) : Bool := !(Builtin.Str.occurrences (sS x) (sS y) 0 (sS x).length 1).isEmpty
theorem k_inS (y x : List Nat) : ∀ Q : VK, Q (.bl (inS y x)) H → (∃ i j, vS y = .str i ∧ vS x = .str j ∧ Q (.bl (!(Builtin.Str.occurrences j i 0 j.length 1).isEmpty)) H) := fun Q q => ⟨sS y, sS x, rfl, rfl, q⟩
theorem k_notinS (y x : List Nat) : ∀ Q : VK, Q (.bl (!inS y x)) H → (∃ i j, vS y = .str i ∧ vS x = .str j ∧ Q (.bl (!(!(Builtin.Str.occurrences j i 0 j.length 1).isEmpty))) H) := fun Q q => ⟨sS y, sS x, rfl, rfl, q⟩
theorem inV_int (i : Int) : ∀ xs : List Int, inV (.int i) (xs.map V.int) = decide (i ∈ xs)
  | [] => rfl
  | x :: xs => by
    have ih := inV_int i xs
    unfold inV at ih ⊢
    rw [List.map_cons, List.any_cons, ih]
    show ((x == i) || _) = _
    by_cases h : x = i
    · subst h; simp
    · have : i ≠ x := fun e => h e.symm
      simp [h, this]
theorem inV_str (l : List Nat) : ∀ xs : List (List Nat), inV (vS l) (xs.map vS) = decide (l ∈ xs)
  | [] => rfl
  | x :: xs => by
    have ih := inV_str l xs
    unfold inV at ih ⊢
    rw [List.map_cons, List.any_cons, ih]
    show ((sS x == sS l) || _) = _
    by_cases h : x = l
    · subst h; simp
    · have h2 : sS x ≠ sS l := fun e => h (sS_inj e)
      have : l ≠ x := fun e => h e.symm
      simp [h2, this]
theorem flat_int (xs : List Int) : (xs.map V.int).all flatV = true := by
  rw [List.all_map]; exact List.all_eq_true.mpr fun _ _ => rfl
theorem flat_str (xs : List (List Nat)) : (xs.map vS).all flatV = true := by
  rw [List.all_map]; exact List.all_eq_true.mpr fun _ _ => rfl
theorem k_inI {xs : List Int} (i : Int) (h : pL pI xs v H) : ∀ Q : VK, Q (.bl (decide (i ∈ xs))) H → rIn K false (.int i) v H Q := by
  obtain ⟨a, vs, rfl, h, ha, _⟩ := h
  cases ha.int
  exact fun Q q => ⟨a, _, rfl, .inl (SqL.of h), rfl, flat_int xs, by rw [inV_int]; exact q⟩
theorem k_notinI {xs : List Int} (i : Int) (h : pL pI xs v H) : ∀ Q : VK, Q (.bl (!decide (i ∈ xs))) H → rIn K true (.int i) v H Q := by
  obtain ⟨a, vs, rfl, h, ha, _⟩ := h
  cases ha.int
  exact fun Q q => ⟨a, _, rfl, .inl (SqL.of h), rfl, flat_int xs, by rw [inV_int]; exact q⟩
theorem k_inT {xs : List (List Nat)} (l : List Nat) (h : pL pS xs v H) : ∀ Q : VK, Q (.bl (decide (l ∈ xs))) H → rIn K false (vS l) v H Q := by
  obtain ⟨a, vs, rfl, h, ha, _⟩ := h
  cases ha.str.1
  exact fun Q q => ⟨a, _, rfl, .inl (SqL.of h), rfl, flat_str xs, by rw [inV_str]; exact q⟩
theorem k_notinT {xs : List (List Nat)} (l : List Nat) (h : pL pS xs v H) : ∀ Q : VK, Q (.bl (!decide (l ∈ xs))) H → rIn K true (vS l) v H Q := by
  obtain ⟨a, vs, rfl, h, ha, _⟩ := h
  cases ha.str.1
  exact fun Q q => ⟨a, _, rfl, .inl (SqL.of h), rfl, flat_str xs, by rw [inV_str]; exact q⟩
theorem cps_m1 {r : V → List V → Hp → VK → Prop} {to : TE} (h : to σ H fun x H1 => (∃ a, x = .str a) ∧ te σ H1 fun y H2 => r x [y] H2 Q) : tM1 r to te σ H Q := h
theorem ev_join {to : TE} {s r : List Nat} {ys : List (List Nat)} (h1 : EV to σ H (vS s)) (h2 : EV te σ H v) (h : pL pS ys v H) (e : joinM s ys = some r) : EV (tM1 (fun x xs H Q => ∃ a p, ∃ ys : List Str, x = .str a ∧ xs = [.ref p] ∧ (SqL K H p (ys.map V.str) ∨ SqT K H p (ys.map V.str)) ∧ (ys.map (·.length)).sum + ys.length * a.length ≤ 16777216 ∧ Q (.str (Txt.join a ys)) H) to te) σ H (vS r) :=
  fun Q q => h1 _ ⟨⟨_, rfl⟩, h2 _ (k_join h e Q q)⟩
/-! sorting -/
def sortI (xs : List Int) : List Int := xs.mergeSort fun a b => decide (a ≤ b)
theorem sortI_perm (xs : List Int) : (sortI xs).Perm xs := List.mergeSort_perm _ _
theorem sortI_sorted (xs : List Int) : (sortI xs).Pairwise (· ≤ ·) := by
  have h := List.pairwise_mergeSort (le := fun a b : Int => decide (a ≤ b)) (fun a b c h1 h2 => by simp at h1 h2 ⊢; omega) (fun a b => by simp; omega) xs
  exact h.imp fun h => by simpa using h
theorem sorted_one {a b : List Int} (hp : a.Perm b) (ha : a.Pairwise (· ≤ ·)) (hb : b.Pairwise (· ≤ ·)) : a = b := PySem.W.ksm_same hp ha hb
def sortIM (xs : List Int) : Option (List Int) := some (sortI xs)
theorem k_sortI {xs ys : List Int} (h : pL pI xs v H) (e : sortIM xs = some ys) : ∀ Q : VK, (∀ p, H p = none → Q (.ref p) (upd H p (.lst (ys.map V.int)))) → rSortedI K [v] H Q := by
  obtain ⟨a, vs, rfl, h, ha, _⟩ := h
  cases ha.int
  cases e
  refine fun Q q => ⟨a, xs, rfl, SqL.of h, fun ns' p h1 h2 h3 => ?_⟩
  have e : ns' = sortI xs := sorted_one (h1.trans (sortI_perm xs).symm) h2 (sortI_sorted xs)
  subst e
  exact q p h3
theorem sortI_len {xs ys : List Int} (h : pL pI xs v H) (e : sortIM xs = some ys) : ys.length ≤ sizeLine := by
  obtain ⟨a, vs, rfl, h, ha, hl⟩ := h
  cases e
  rw [(sortI_perm xs).length_eq]; exact hl
end
end MK

namespace MK
open PySem PySem.Spec L2
section
variable {X : Cx} {σ : St} {H G : Hp} {Q : VK} {te : TE} {K : PySem.W.Frag} {v : V} {α : Type} {R : Rep α}
theorem revPick (l : List Nat) : ((Builtin.Str.strSliceIndices none none (-1) (sS l).length).filterMap ((sS l).cps[·]?)).toArray = l.reverse.toArray := by
  rw [PyProof.Rows.picked_rev, sS_len]
  congr 1
  have e : (List.range l.length).map (fun k => l.length - 1 - k) = (List.range l.length).reverse := PySem.W.krv_range l.length
  rw [e, List.filterMap_reverse]
  congr 1
  have e2 : (fun i : Nat => (sS l).cps[i]?) = fun i : Nat => l[i]? := by funext i; simp [sS]
  rw [e2]
  clear e e2
  induction l with
  | nil => rfl
  | cons a t ih =>
    rw [List.length_cons, List.range_succ_eq_map, List.filterMap_cons, List.filterMap_map]
    simp only [List.getElem?_cons_zero]
    congr 1
/-- text[::-1] -/
def tRevS (te : TE) : TE := fun σ H Q => te σ H fun x H1 => ∃ l, x = vS l ∧ l.length ≤ sizeLine ∧ Q (vS l.reverse) H1
theorem pe_revS {e : Expr} {te : TE} {k : Nat} {p1 p2 p3 pos : Pos} (he : PE X e te) : PE X (.Subscript e (.Slice none none (some (.UnaryOp .USub (.Constant (.int 1) k p1) p2)) p3) pos) (tRevS te) := by
  refine ⟨fun pins s σ H Q I h => ?_⟩
  refine PyProof.Rows.Subscript_ (thn (he.run pins s σ H _ I h) fun v s1 ⟨x, H1, I1, r1, q1⟩ => ?_)
  obtain ⟨a, ex, hx, q⟩ := q1
  subst ex
  obtain ⟨t, rfl⟩ := r1
  have hst : PO X (some (.UnaryOp .USub (.Constant (.int 1) k p1) p2)) (tPart (tUn (rU fun i => .int (-i)) (tC (.int 1)))) := po_some (pe_un un_neg pe_int)
  refine wpAny_Slice (thn (po_none.run pins s1 σ H1 (fun o H2 => o = none ∧ H2 = H1) I1 ⟨rfl, rfl⟩) fun vl s2 ⟨l, H2, I2, pl, el, e2⟩ => ?_)
  subst el e2
  refine thn (po_none.run pins s2 σ H2 (fun o H3 => o = none ∧ H3 = H2) I2 ⟨rfl, rfl⟩) fun vu s3 ⟨u, H3, I3, pu, eu, e3⟩ => ?_
  subst eu e3
  refine thn (hst.run pins s3 σ H3 (fun o H4 => o = some (-1) ∧ H4 = H3) I3 ⟨1, rfl, -1, rfl, rfl, rfl⟩) fun vs s4 ⟨o, H4, I4, ps, eo, e4⟩ => ?_
  subst eo e4
  have I5 : Inv X pins σ H4 { s4 with heap := s4.heap.push { cls := .type "slice", data := .fields #[vl, vu, vs] } } := I4.kept (t' := s4.toks) fun b ob q => Heap.get?_push_of_some _ q
  obtain ⟨l, rfl, hl⟩ := IsPart.raw pl
  obtain ⟨u, rfl, hu⟩ := IsPart.raw pu
  obtain ⟨st, rfl, hst⟩ := IsPart.raw ps
  show wpAny (model X.prog X.w) X.A (PyProof.Rows.subscriptTail e (.Slice none none (some (.UnaryOp .USub (.Constant (.int 1) k p1) p2)) p3) (.str (sS a) t) (.ref s4.heap.objs.size)) (EP X pins σ Q) X.xe { s4 with heap := s4.heap.push { cls := .type "slice", data := .fields #[partValue l, partValue u, partValue st] } }
  refine PyProof.Rows.tail_any (ops := [.str (sS a) t, .ref s4.heap.objs.size]) (typeIs_str _ _ _) (F.slot_str_getitem.lookup) ?_ (by with_unfolding_all rfl)
  have z := Heap.IsSliceOf.new s4.heap (partValue l) (partValue u) (partValue st)
  obtain ⟨os, hos, hcs, hds⟩ := z
  refine wpAny_getItem_str_slice (l := l) (u := u) (st := st) ⟨os, hos, hcs, hds⟩ (by rw [hst]; rfl) ?_
  show Made.post (if ((st.map (·.1)).getD 1 == 1 && (Builtin.Str.strSliceIndices (l.map (·.1)) (u.map (·.1)) ((st.map (·.1)).getD 1) (sS a).length).length == (sS a).length) = true then Made.val (.str (sS a) t)
    else Made.str ⟨((Builtin.Str.strSliceIndices (l.map (·.1)) (u.map (·.1)) ((st.map (·.1)).getD 1) (sS a).length).filterMap ((sS a).cps[·]?)).toArray⟩) (EP X pins σ Q) _
  rw [hl, hu, hst]
  show Made.post (if ((-1 : Int) == 1 && (Builtin.Str.strSliceIndices none none (-1) (sS a).length).length == (sS a).length) = true then Made.val (.str (sS a) t)
    else Made.str ⟨((Builtin.Str.strSliceIndices none none (-1) (sS a).length).filterMap ((sS a).cps[·]?)).toArray⟩) (EP X pins σ Q) _
  rw [if_neg (by simp), revPick]
  exact ⟨by show (sS a.reverse).length ≤ sizeLine; rw [sS_len, List.length_reverse]; exact hx, .str (sS a.reverse), H4, I5.tok _, ⟨_, rfl⟩, q⟩
theorem ev_revS {l : List Nat} (h : EV te σ H (vS l)) (hl : OkS l) : EV (tRevS te) σ H (vS l.reverse) := fun Q q => h _ ⟨l, rfl, hl.len, q⟩
theorem cps_revL (h : te σ H fun x H1 => ∃ a xs, x = .ref a ∧ SqL K H1 a xs ∧ ∀ p, H1 p = none → Q (.ref p) (upd H1 p (.lst xs.reverse))) : tRevL K te σ H Q := h
theorem k_revL {xs : List α} (h : ∃ vs, GotL R G H xs v vs) : ∃ vs, All2 R G xs.reverse vs ∧ xs.reverse.length ≤ sizeLine ∧ ∀ Q : VK, (∀ p, H p = none → Q (.ref p) (upd H p (.lst vs))) → (∃ a xs, v = .ref a ∧ SqL K H a xs ∧ ∀ p, H p = none → Q (.ref p) (upd H p (.lst xs.reverse))) := by
  obtain ⟨vs, ⟨a, rfl, h⟩, ha, hl⟩ := h
  exact ⟨_, ha.rev, by rw [List.length_reverse]; exact hl, fun Q q => ⟨a, vs, rfl, SqL.of h, q⟩⟩
end
end MK

namespace MK
open PySem PySem.Spec L2
section
variable {H : Hp}
theorem k_add (i j : Int) : ∀ Q : VK, Q (.int (i + j)) H → rI0 (fun i j => .int (i + j)) (.int i) (.int j) H Q := fun _ q => ⟨i, j, rfl, rfl, q⟩
theorem k_sub (i j : Int) : ∀ Q : VK, Q (.int (i - j)) H → rI0 (fun i j => .int (i - j)) (.int i) (.int j) H Q := fun _ q => ⟨i, j, rfl, rfl, q⟩
theorem k_ltI (i j : Int) : ∀ Q : VK, Q (.bl (decide (i < j))) H → rI0 (fun i j => .bl (decide (i < j))) (.int i) (.int j) H Q := fun _ q => ⟨i, j, rfl, rfl, q⟩
theorem k_leI (i j : Int) : ∀ Q : VK, Q (.bl (decide (i ≤ j))) H → rI0 (fun i j => .bl (decide (i ≤ j))) (.int i) (.int j) H Q := fun _ q => ⟨i, j, rfl, rfl, q⟩
theorem k_gtI (i j : Int) : ∀ Q : VK, Q (.bl (decide (j < i))) H → rI0 (fun i j => .bl (decide (j < i))) (.int i) (.int j) H Q := fun _ q => ⟨i, j, rfl, rfl, q⟩
theorem k_geI (i j : Int) : ∀ Q : VK, Q (.bl (decide (j ≤ i))) H → rI0 (fun i j => .bl (decide (j ≤ i))) (.int i) (.int j) H Q := fun _ q => ⟨i, j, rfl, rfl, q⟩
theorem k_mulC (i j : Int) (h : CMul i j) : ∀ Q : VK, Q (.int (i * j)) H → rI CMul (fun i j => .int (i * j)) (.int i) (.int j) H Q := fun _ q => ⟨i, j, rfl, rfl, h, q⟩
theorem k_mulW (i j : Int) (h : i.natAbs.log2 + j.natAbs.log2 < 1000000) : ∀ Q : VK, Q (.int (i * j)) H → rI CMulW (fun i j => .int (i * j)) (.int i) (.int j) H Q := fun _ q => ⟨i, j, rfl, rfl, h, q⟩
theorem k_fdivC (i j : Int) (h : CDiv i j) : ∀ Q : VK, Q (.int (i / j)) H → rI CDiv (fun i j => .int (i / j)) (.int i) (.int j) H Q := fun _ q => ⟨i, j, rfl, rfl, h, q⟩
theorem k_modC (i j : Int) (h : 0 < j) : ∀ Q : VK, Q (.int (i % j)) H → rI (fun _ j => 0 < j) (fun i j => .int (i % j)) (.int i) (.int j) H Q := fun _ q => ⟨i, j, rfl, rfl, h, q⟩
theorem k_powC (i j : Int) (h : 0 ≤ j ∧ (Builtin.Int.intBits i : Int) * j ≤ 2 ^ 27) : ∀ Q : VK, Q (.int (i ^ j.toNat)) H → rI CPowX (fun i j => .int (i ^ j.toNat)) (.int i) (.int j) H Q := fun _ q => ⟨i, j, rfl, rfl, h, q⟩
end
theorem lenle {n : Nat} (h : Nat.ble n 16777216 = true) : n ≤ sizeLine := by rw [sizeLine_16]; exact Nat.le_of_ble_eq_true h
/-! rules that name K -/
section
variable {X : Cx} {K : PySem.W.Frag} (hK : X.K = K)
include hK
theorem ix_listK : IxR X (rIxL K) := by subst hK; exact ix_list
theorem ix_tupK : IxR X (rIxT K) := by subst hK; exact ix_tup
theorem sl_listK : SlR X (rSlL K) := by subst hK; exact sl_list
theorem op_inK : OpR X (compareOp .In) (rIn K false) := by subst hK; exact op_in_seq
theorem op_ninK : OpR X (compareOp .NotIn) (rIn K true) := by subst hK; exact op_notIn_seq
theorem op_eqDK (hu : X.A.units + 64 < cLine) : OpR X (compareOp .Eq) (rEqD K) := by subst hK; exact op_eqD hu
theorem op_neDK (hu : X.A.units + 64 < cLine) : OpR X (compareOp .NotEq) (rNeD K) := by subst hK; exact op_neD hu
theorem op_catAK : OpR X (binaryOp .Add) (rCatA K) := by subst hK; exact op_catA
theorem call_lenK : CallR X (.builtin "len") (fun xs H Q => ∃ p ys, xs = [.ref p] ∧ (SqL K H p ys ∨ SqT K H p ys) ∧ Q (.int ys.length) H) := by subst hK; exact call_len_seq
theorem call_listK : CallR X (.type "list") (fun xs H Q => ∃ p ys, xs = [.ref p] ∧ (SqL K H p ys ∨ SqT K H p ys) ∧ ∀ l, H l = none → Q (.ref l) (upd H l (.lst ys))) := by subst hK; exact call_list_of
theorem cr_anyK (hc : X.calm = true) : CallR X (.builtin "any") (rAny K) := by subst hK; exact cr_any hc
theorem cr_allK (hc : X.calm = true) : CallR X (.builtin "all") (rAll K) := by subst hK; exact cr_all hc
theorem cr_sumK (hc : X.calm = true) : CallR X (.builtin "sum") (rSum K) := by subst hK; exact cr_sum hc
theorem cr_sortedIK : CallR X (.builtin "sorted") (rSortedI K) := by subst hK; exact cr_sortedI
theorem cr_sortedSK : CallR X (.builtin "sorted") (rSortedS K) := by subst hK; exact cr_sortedS
theorem call_isK : CallR X (.builtin "isinstance") (rIsi K) := by subst hK; exact call_isi
theorem pi_listK {tg l : Expr} {tl : TE} (hl : PE X l tl) : PI X tg l (iList K tl) := by subst hK; exact pi_list hl
theorem pi_tupK {tg l : Expr} {tl : TE} (hl : PE X l tl) : PI X tg l (iTup K tl) := by subst hK; exact pi_tup hl
theorem pg_K {tg : Expr} {n : Nat} {t : TGs} (h : PG X tg (gTup X.K n t)) : PG X tg (gTup K n t) := by subst hK; exact h
theorem pe_joinK {e : Expr} {to te : TE} (h : PE X e (tM1 (fun x xs H Q => ∃ a p, ∃ ys : List Str, x = .str a ∧ xs = [.ref p] ∧ (SqL X.K H p (ys.map V.str) ∨ SqT X.K H p (ys.map V.str)) ∧ (ys.map (·.length)).sum + ys.length * a.length ≤ 16777216 ∧ Q (.str (Txt.join a ys)) H) to te)) :
    PE X e (tM1 (fun x xs H Q => ∃ a p, ∃ ys : List Str, x = .str a ∧ xs = [.ref p] ∧ (SqL K H p (ys.map V.str) ∨ SqT K H p (ys.map V.str)) ∧ (ys.map (·.length)).sum + ys.length * a.length ≤ 16777216 ∧ Q (.str (Txt.join a ys)) H) to te) := by subst hK; exact h
theorem pe_revLK {e : Expr} {te : TE} {k : Nat} {p1 p2 p3 pos : Pos} (he : PE X e te) : PE X (.Subscript e (.Slice none none (some (.UnaryOp .USub (.Constant (.int 1) k p1) p2)) p3) pos) (tRevL K te) := by subst hK; exact pe_revL he
theorem pe_bmK {T : String} {r : V → List V → Hp → VK → Prop} {e : Expr} {to : TE} {t : TA} (h : PE X e (tBM X.K T r to t)) : PE X e (tBM K T r to t) := by subst hK; exact h
theorem pe_bm0K {T : String} {r : V → List V → Hp → VK → Prop} {e : Expr} {to : TE} (h : PE X e (tBM0 X.K T r to)) : PE X e (tBM0 K T r to) := by subst hK; exact h
end
section
variable {J : It} {n : Nat} {G : Hp → Prop} {Y : Nat → Hp → V → Hp → Prop} {α β ρ S : Type}
theorem loop_w3 (w : Walk J n G Y) {xs : List α} (hn : xs.length = n) {f : α → S → Option (Ctl ρ S)} {s0 : S} {res : Ctl ρ S} (hm : loopM f xs s0 = some res)
    {g : TG} {tb rest : TS} {D : Ends} {σ : St} {H : Hp} (P : S → St → Hp → Prop) (h0 : P s0 σ H) (hG : ∀ s σ H, P s σ H → G H)
    (turn : ∀ (i : Nat) x s c v σ H H', xs[i]? = some x → f x s = some c → (∀ r, c = .rt r → res = .rt r) → P s σ H → Y i H v H' →
      ∀ N : St → Hp → Prop, (∀ s' σ' H', c = .nx s' → P s' σ' H' → N σ' H') → (∀ s' σ' H', c = .bk s' → P s' σ' H' → rest D σ' H') → g v σ H' fun σ2 H2 => tb { D with nx := N, ct := N, bk := rest D } σ2 H2)
    (done : ∀ s' σ H, res = .nx s' → P s' σ H → rest D σ H) : ForG J g tb { D with nx := rest D } σ H :=
  loop_w2 w hn hm P h0 hG turn done
theorem fold_w3 (w : Walk J n G Y) {xs : List α} (hn : xs.length = n) {f : α → S → Option S} {s0 res : S} (hm : foldO f xs s0 = some res)
    {g : TG} {tb rest : TS} {D : Ends} {σ : St} {H : Hp} (P : S → St → Hp → Prop) (h0 : P s0 σ H) (hG : ∀ s σ H, P s σ H → G H)
    (turn : ∀ (i : Nat) x s s' v σ H H', xs[i]? = some x → f x s = some s' → P s σ H → Y i H v H' →
      ∀ N : St → Hp → Prop, (∀ σ' H', P s' σ' H' → N σ' H') → g v σ H' fun σ2 H2 => tb { D with nx := N, ct := N, bk := rest D } σ2 H2)
    (done : ∀ σ H, P res σ H → rest D σ H) : ForG J g tb { D with nx := rest D } σ H := fold_w2 w hn hm P h0 hG turn done
theorem cps_nextR {D : Ends} {rest : TS} {σ : St} {H : Hp} (h : rest D σ H) : tNext { D with nx := rest D } σ H := h
theorem cut_if4 {ts tsu rest : TS} {D : Ends} {σ : St} {H : Hp} {P : St → Hp → Prop} (b : Bool) (h1 : b = true → ∀ N' : St → Hp → Prop, (∀ σ' H', P σ' H' → N' σ' H') → ts { D with nx := N' } σ H) (h2 : b = false → ∀ N' : St → Hp → Prop, (∀ σ' H', P σ' H' → N' σ' H') → tsu { D with nx := N' } σ H)
    (k : ∀ σ' H', P σ' H' → rest D σ' H') : if b = true then ts { D with nx := rest D } σ H else tsu { D with nx := rest D } σ H := cut_if b k h1 h2
end
end MK

namespace MK
open PySem PySem.Spec L2
/-! readings by name -/
abbrev RC := List V → Hp → VK → Prop
def rCatS : R2 := fun x y H Q => ∃ i j, x = .str i ∧ y = .str j ∧ i.length + j.length ≤ sizeLine ∧ Q (.str (i ++ j)) H
def rLtS : R2 := fun x y H Q => ∃ i j, x = .str i ∧ y = .str j ∧ Q (.bl (decide (i.cps.toList < j.cps.toList))) H
def rLeS : R2 := fun x y H Q => ∃ i j, x = .str i ∧ y = .str j ∧ Q (.bl (!decide (j.cps.toList < i.cps.toList))) H
def rGtS : R2 := fun x y H Q => ∃ i j, x = .str i ∧ y = .str j ∧ Q (.bl (decide (j.cps.toList < i.cps.toList))) H
def rGeS : R2 := fun x y H Q => ∃ i j, x = .str i ∧ y = .str j ∧ Q (.bl (!decide (i.cps.toList < j.cps.toList))) H
def rInS' : R2 := fun x y H Q => ∃ i j, x = .str i ∧ y = .str j ∧ Q (.bl (!(Builtin.Str.occurrences j i 0 j.length 1).isEmpty)) H
def rNinS' : R2 := fun x y H Q => ∃ i j, x = .str i ∧ y = .str j ∧ Q (.bl (!(!(Builtin.Str.occurrences j i 0 j.length 1).isEmpty))) H
def rIsNo : R2 := fun x y H Q => y = .non ∧ Q (.bl (decide (x = .non))) H
def rNotNo : R2 := fun x y H Q => y = .non ∧ Q (.bl (!decide (x = .non))) H
def rLenS : RC := fun xs H Q => ∃ z, xs = [.str z] ∧ z.length ≤ sizeLine ∧ Q (.int z.length) H
def rLenQ (K : PySem.W.Frag) : RC := fun xs H Q => ∃ p ys, xs = [.ref p] ∧ (SqL K H p ys ∨ SqT K H p ys) ∧ Q (.int ys.length) H
def rLenDK : RC := fun xs H Q => ∃ a kvs, xs = [V.ref a] ∧ H a = some (.dK kvs) ∧ Q (.int kvs.length) H
def rAbs : RC := fun xs H Q => ∃ i, xs = [.int i] ∧ Q (.int (if i < 0 then -i else i)) H
def rMin2 : RC := fun xs H Q => ∃ i j, xs = [.int i, .int j] ∧ Q (.int (if j < i then j else i)) H
def rMax2 : RC := fun xs H Q => ∃ i j, xs = [.int i, .int j] ∧ Q (.int (if j > i then j else i)) H
def rInt1 : RC := fun xs H Q => (∃ i, xs = [.int i] ∧ Q (.int i) H) ∨ ∃ k, xs = [.bl k] ∧ Q (.int (if k = true then 1 else 0)) H
def rListOf (K : PySem.W.Frag) : RC := fun xs H Q => ∃ p ys, xs = [.ref p] ∧ (SqL K H p ys ∨ SqT K H p ys) ∧ ∀ l, H l = none → Q (.ref l) (upd H l (.lst ys))
def rJoin (K : PySem.W.Frag) : V → List V → Hp → VK → Prop := fun x xs H Q => ∃ a p, ∃ ys : List Str, x = .str a ∧ xs = [.ref p] ∧ (SqL K H p (ys.map V.str) ∨ SqT K H p (ys.map V.str)) ∧ (ys.map (·.length)).sum + ys.length * a.length ≤ 16777216 ∧ Q (.str (Txt.join a ys)) H
section
variable {X : Cx} {K : PySem.W.Frag}
theorem op_catS : OpR X (binaryOp .Add) rCatS := op_add_str
theorem op_ltS : OpR X (compareOp .Lt) rLtS := op_lt_str
theorem op_leS : OpR X (compareOp .LtE) rLeS := op_le_str
theorem op_gtS : OpR X (compareOp .Gt) rGtS := op_gt_str
theorem op_geS : OpR X (compareOp .GtE) rGeS := op_ge_str
theorem op_inStr : OpR X (compareOp .In) rInS' := op_in_str
theorem op_ninStr : OpR X (compareOp .NotIn) rNinS' := op_notin_str
theorem op_isNo : OpR X (compareOp .Is) rIsNo := op_isN
theorem op_notNo : OpR X (compareOp .IsNot) rNotNo := op_notN
theorem call_lenS : CallR X (.builtin "len") rLenS := call_len_str
theorem call_lenQ (hK : X.K = K) : CallR X (.builtin "len") (rLenQ K) := call_lenK hK
theorem call_lenDd : CallR X (.builtin "len") rLenDK := call_lenD
theorem call_absI : CallR X (.builtin "abs") rAbs := call_abs
theorem call_min2I (hc : X.calm = true) : CallR X (.builtin "min") rMin2 := call_min2 hc
theorem call_max2I (hc : X.calm = true) : CallR X (.builtin "max") rMax2 := call_max2 hc
theorem call_int1I : CallR X (.type "int") rInt1 := by
  intro pins s σ H xs us Q I r h
  exact call_int1 pins s σ H xs us Q I r h
theorem call_listOf (hK : X.K = K) : CallR X (.type "list") (rListOf K) := call_listK hK
theorem pe_joinN {e : Expr} {to te : TE} (hK : X.K = K) (h : PE X e (tM1 (fun x xs H Q => ∃ a p, ∃ ys : List Str, x = .str a ∧ xs = [.ref p] ∧ (SqL X.K H p (ys.map V.str) ∨ SqT X.K H p (ys.map V.str)) ∧ (ys.map (·.length)).sum + ys.length * a.length ≤ 16777216 ∧ Q (.str (Txt.join a ys)) H) to te)) :
    PE X e (tM1 (rJoin K) to te) := by subst hK; exact h
end
section
variable {H : Hp} {K : PySem.W.Frag} {v : V} {α : Type} {R : Rep α} {σ : St} {te to : TE}
theorem kk_cat {a b r : List Nat} (h : catM a b = some r) : ∀ Q : VK, Q (vS r) H → rCatS (vS a) (vS b) H Q := k_cat h
theorem kk_lt (a b : List Nat) : ∀ Q : VK, Q (.bl (decide (a < b))) H → rLtS (vS a) (vS b) H Q := k_ltS a b
theorem kk_le (a b : List Nat) : ∀ Q : VK, Q (.bl (!decide (b < a))) H → rLeS (vS a) (vS b) H Q := k_leS a b
theorem kk_gt (a b : List Nat) : ∀ Q : VK, Q (.bl (decide (b < a))) H → rGtS (vS a) (vS b) H Q := fun Q q => ⟨sS a, sS b, rfl, rfl, by rw [sS_list, sS_list]; exact q⟩
theorem kk_ge (a b : List Nat) : ∀ Q : VK, Q (.bl (!decide (a < b))) H → rGeS (vS a) (vS b) H Q := fun Q q => ⟨sS a, sS b, rfl, rfl, by rw [sS_list, sS_list]; exact q⟩
theorem kk_in (y x : List Nat) : ∀ Q : VK, Q (.bl (inS y x)) H → rInS' (vS y) (vS x) H Q := k_inS y x
theorem kk_nin (y x : List Nat) : ∀ Q : VK, Q (.bl (!inS y x)) H → rNinS' (vS y) (vS x) H Q := k_notinS y x
theorem kk_lenS {l : List Nat} (h : OkS l) : ∀ Q : VK, Q (.int (l.length : Int)) H → rLenS [vS l] H Q := k_lenS h
theorem kk_lenL {xs : List α} (h : pL R xs v H) : ∀ Q : VK, Q (.int (xs.length : Int)) H → rLenQ K [v] H Q := k_lenL h
theorem kk_lenScr {ns : List Int} (h : pScr K ns v H) : ∀ Q : VK, Q (.int (ns.length : Int)) H → rLenQ K [v] H Q := k_lenScr h
theorem kk_abs (i : Int) : ∀ Q : VK, Q (.int (if i < 0 then -i else i)) H → rAbs [V.int i] H Q := k_abs i
theorem kk_min2 (i j : Int) : ∀ Q : VK, Q (.int (if j < i then j else i)) H → rMin2 [V.int i, V.int j] H Q := k_min2 i j
theorem kk_max2 (i j : Int) : ∀ Q : VK, Q (.int (if j > i then j else i)) H → rMax2 [V.int i, V.int j] H Q := k_max2 i j
theorem kk_intB (b : Bool) : ∀ Q : VK, Q (.int (if b = true then 1 else 0)) H → rInt1 [V.bl b] H Q := k_intB b
theorem kk_intI (i : Int) : ∀ Q : VK, Q (.int i) H → rInt1 [V.int i] H Q := k_intI i
variable {G G' : Hp}
theorem kk_listL {xs : List α} (h : ∃ vs, GotL R G H xs v vs) : ∃ vs, All2 R G xs vs ∧ xs.length ≤ sizeLine ∧ ∀ Q : VK, (∀ p, H p = none → Q (.ref p) (upd H p (.lst vs))) → rListOf K [v] H Q := k_listL h
theorem kk_join {s r : List Nat} {ys : List (List Nat)} (h : pL pS ys v H) (e : joinM s ys = some r) : ∀ Q : VK, Q (vS r) H → rJoin K (vS s) [v] H Q := k_join h e
theorem ev_joinN {s r : List Nat} {ys : List (List Nat)} (h1 : EV to σ H (vS s)) (h2 : EV te σ H v) (h : pL pS ys v H) (e : joinM s ys = some r) : EV (tM1 (rJoin K) to te) σ H (vS r) := ev_join h1 h2 h e
/-! optional things -/
class Nv {α : Type} (R : Rep α) : Prop where
  nv : ∀ {x v H}, R x v H → v ≠ .non
instance : Nv pI := ⟨fun h e => by rw [show _ = _ from h] at e; cases e⟩
instance : Nv pB := ⟨fun h e => by rw [show _ = _ from h] at e; cases e⟩
instance : Nv pS := ⟨fun h e => by rw [show _ = _ from h.1] at e; cases e⟩
instance {R : Rep α} : Nv (pL R) := ⟨fun ⟨_, _, h, _⟩ e => by rw [h] at e; cases e⟩
instance {β : Type} {R : Rep α} {S : Rep β} : Nv (pT2 R S) := ⟨fun ⟨_, _, _, h, _⟩ e => by rw [h] at e; cases e⟩
instance {β γ : Type} {R : Rep α} {S : Rep β} {T : Rep γ} : Nv (pT3 R S T) := ⟨fun ⟨_, _, _, _, h, _⟩ e => by rw [h] at e; cases e⟩
theorem isO [Nv R] {o : Option α} (h : pO R o v G) : decide (v = .non) = o.isNone := by
  cases o with
  | none => rw [show v = .non from h]; rfl
  | some x => exact decide_eq_false (Nv.nv (R := R) h)
theorem k_isO [Nv R] {o : Option α} (h : pO R o v G) : ∀ Q : VK, Q (.bl o.isNone) H → rIsNo v .non H Q := fun Q q => ⟨rfl, by rw [isO h]; exact q⟩
theorem k_notO [Nv R] {o : Option α} (h : pO R o v G) : ∀ Q : VK, Q (.bl (!o.isNone)) H → rNotNo v .non H Q := fun Q q => ⟨rfl, by rw [isO h]; exact q⟩
theorem eqO_aux {o p : Option Int} {v w : V} (h1 : pO pI o v G) (h2 : pO pI p w G') : scal v w = true ∧ decide (v = w) = decide (o = p) := by
  cases o with
  | none =>
    rw [show v = .non from h1]
    cases p with
    | none => rw [show w = .non from h2]; exact ⟨rfl, rfl⟩
    | some x => rw [show w = .int x from h2]; exact ⟨rfl, by simp⟩
  | some y =>
    rw [show v = .int y from h1]
    cases p with
    | none => rw [show w = .non from h2]; exact ⟨rfl, by simp⟩
    | some x => rw [show w = .int x from h2]; exact ⟨rfl, by by_cases e : y = x <;> simp [e]⟩
theorem eqOS_aux {o p : Option (List Nat)} {v w : V} (h1 : pO pS o v G) (h2 : pO pS p w G') : scal v w = true ∧ decide (v = w) = decide (o = p) := by
  cases o with
  | none =>
    rw [show v = .non from h1]
    cases p with
    | none => rw [show w = .non from h2]; exact ⟨rfl, rfl⟩
    | some x => rw [show w = vS x from (show pS x w G' from h2).1]; exact ⟨rfl, by simp [vS]⟩
  | some y =>
    rw [show v = vS y from (show pS y v G from h1).1]
    cases p with
    | none => rw [show w = .non from h2]; exact ⟨rfl, by simp [vS]⟩
    | some x => rw [show w = vS x from (show pS x w G' from h2).1]; exact ⟨rfl, by rw [vS_eq]; by_cases e : y = x <;> simp [e]⟩
theorem k_eqOI {o p : Option Int} {v w : V} (h1 : pO pI o v G) (h2 : pO pI p w G') : ∀ Q : VK, Q (.bl (decide (o = p))) H → rEq v w H Q := fun Q q => ⟨(eqO_aux h1 h2).1, by rw [(eqO_aux h1 h2).2]; exact q⟩
theorem k_neOI {o p : Option Int} {v w : V} (h1 : pO pI o v G) (h2 : pO pI p w G') : ∀ Q : VK, Q (.bl (!decide (o = p))) H → rNe v w H Q := fun Q q => ⟨(eqO_aux h1 h2).1, by rw [(eqO_aux h1 h2).2]; exact q⟩
theorem k_eqOS {o p : Option (List Nat)} {v w : V} (h1 : pO pS o v G) (h2 : pO pS p w G') : ∀ Q : VK, Q (.bl (decide (o = p))) H → rEq v w H Q := fun Q q => ⟨(eqOS_aux h1 h2).1, by rw [(eqOS_aux h1 h2).2]; exact q⟩
theorem k_neOS {o p : Option (List Nat)} {v w : V} (h1 : pO pS o v G) (h2 : pO pS p w G') : ∀ Q : VK, Q (.bl (!decide (o = p))) H → rNe v w H Q := fun Q q => ⟨(eqOS_aux h1 h2).1, by rw [(eqOS_aux h1 h2).2]; exact q⟩
end
end MK

namespace MK
open PySem PySem.Spec L2
/-! ways to walk -/
def enumL {α : Type} (xs : List α) : List (Int × α) := (List.range xs.length).zip xs |>.map fun p => ((p.1 : Int), p.2)
section
variable {α β γ : Type} {R : Rep α} {S : Rep β} {G H H' : Hp} {v : V} {K : PySem.W.Frag}
theorem enumL_len (xs : List α) : (enumL xs).length = xs.length := by simp [enumL]
theorem enumL_at {xs : List α} {i : Nat} {x : Int × α} (h : (enumL xs)[i]? = some x) : x.1 = (i : Int) ∧ xs[i]? = some x.2 := by
  unfold enumL at h
  rw [List.getElem?_map] at h
  cases e : ((List.range xs.length).zip xs)[i]? with
  | none => rw [e] at h; cases h
  | some p =>
    rw [e] at h
    cases someI h
    rw [List.getElem?_zip_eq_some] at e
    obtain ⟨e1, e2⟩ := e
    have hi : i < xs.length := (List.getElem?_eq_some_iff.mp e2).1
    rw [List.getElem?_range hi] at e1
    exact ⟨congrArg (fun n : Nat => (n : Int)) (someI e1).symm, e2⟩
theorem enum_item {xs : List α} {vs : List V} {i : Nat} {x : Int × α} (ha : All2 R G xs vs) (hx : (enumL xs)[i]? = some x) (hy : YPair (fun i => some (.int (i : Nat))) (fun i => vs[i]?) i H v H') :
    ∃ T u, v = .ref T ∧ H T = none ∧ H' = upd H T (.tup [.int x.1, u]) ∧ R x.2 u G := by
  obtain ⟨T, y, u, e1, e2, e3, e4, e5⟩ := hy
  obtain ⟨h1, h2⟩ := enumL_at hx
  obtain ⟨w, h3, h4⟩ := ha.get h2
  have e6 : u = w := someI (e5.symm.trans h3)
  have e7 : y = .int (i : Nat) := (someI e4).symm
  subst e6
  subst e7
  exact ⟨T, _, e1, e2, by rw [h1]; exact e3, h4⟩
theorem zip_item {xs : List α} {ys : List β} {vs ws : List V} {i : Nat} {x : α × β} {G2 : Hp} (ha : All2 R G xs vs) (hb : All2 S G2 ys ws) (hx : (xs.zip ys)[i]? = some x) (hy : YPair (fun i => vs[i]?) (fun i => ws[i]?) i H v H') :
    ∃ T u w, v = .ref T ∧ H T = none ∧ H' = upd H T (.tup [u, w]) ∧ R x.1 u G ∧ S x.2 w G2 := by
  obtain ⟨T, u, w, e1, e2, e3, e4, e5⟩ := hy
  rw [List.getElem?_zip_eq_some] at hx
  obtain ⟨u', h1, h2⟩ := ha.get hx.1
  obtain ⟨w', h3, h4⟩ := hb.get hx.2
  have e6 : u = u' := someI (e4.symm.trans h1)
  have e7 : w = w' := someI (e5.symm.trans h3)
  subst e6
  subst e7
  exact ⟨T, _, _, e1, e2, e3, h2, h4⟩
theorem rev_item {xs : List α} {vs : List V} {i : Nat} {x : α} (ha : All2 R G xs vs) (hx : xs.reverse[i]? = some x) (hy : H' = H ∧ vs[vs.length - 1 - i]? = some v) : H' = H ∧ R x v G := by
  obtain ⟨e, hv⟩ := hy
  have hi : i < xs.length := by
    have := (List.getElem?_eq_some_iff.mp hx).1
    simpa using this
  rw [List.getElem?_reverse hi] at hx
  obtain ⟨w, h1, h2⟩ := ha.get hx
  have hl := All2.len ha
  rw [hl] at h1
  rw [h1] at hv
  cases hv
  exact ⟨e, h2⟩
theorem enum_hn {xs : List α} {vs : List V} (ha : All2 R G xs vs) : (enumL xs).length = vs.length := by rw [enumL_len]; exact All2.len ha
theorem zip_hn {xs : List α} {ys : List β} {vs ws : List V} {G2 : Hp} (ha : All2 R G xs vs) (hb : All2 S G2 ys ws) : (xs.zip ys).length = min vs.length ws.length := by rw [List.length_zip, All2.len ha, All2.len hb]
theorem rev_hn {xs : List α} {vs : List V} (ha : All2 R G xs vs) : xs.reverse.length = vs.length := by rw [List.length_reverse]; exact All2.len ha
theorem cps_enum {R : It → Hp → Prop} {ta : TA} {σ : St} (h : ta σ H fun vs H1 => ∃ a xs, vs = [.ref a] ∧ SqL K H1 a xs ∧ R (Ite K a) H1) : iEnum K ta σ H R := h
theorem cps_zip {R : It → Hp → Prop} {ta : TA} {σ : St} (h : ta σ H fun vs H1 => ∃ a b xs ys, vs = [.ref a, .ref b] ∧ SqL K H1 a xs ∧ SqL K H1 b ys ∧ R (Itz K a b) H1) : iZip K ta σ H R := h
theorem cps_rev {R : It → Hp → Prop} {ta : TA} {σ : St} (h : ta σ H fun vs H1 => ∃ (a : Addr) (xs : List V), vs = [.ref a] ∧ SqL K H1 a xs ∧ R (Itv K a xs.length) H1) : iRev K ta σ H R := h
variable {σ : St} {N : St → Hp → Prop} {g : TG} {gs : TGs} {a : Addr} {xs r : List V} {n : Nat}
theorem gt_open (h : H a = some (.tup xs)) (hn : xs.length = n) (k : gs xs σ H N) : gTup K n gs (.ref a) σ H N := ⟨a, xs, rfl, SqT.of h, hn, k⟩
theorem gt_cons (k : g v σ H fun σ' H' => gs r σ' H' N) : gCons g gs (v :: r) σ H N := ⟨v, r, rfl, k⟩
theorem gt_nil (k : N σ H) : gNil [] σ H N := ⟨rfl, k⟩
end
end MK

namespace MK
open PySem PySem.Spec L2
/-! the least of texts, or nothing -/
def ltL (a b : List Nat) : Bool := decide (a < b)
def minL : List (List Nat) → Option (List Nat)
  | [] => none
  | x :: xs => some (xs.foldl (fun a y => if ltL y a = true then y else a) x)
def rMinDf (K : PySem.W.Frag) : List V → List V → Hp → VK → Prop := fun xs zs H Q => ∃ (a : Addr) (ys : List (List Nat)), xs = [.ref a] ∧ zs = [.non] ∧ SqL K H a (ys.map vS) ∧
  ∀ v, pO pS (minL ys) v H ∨ (∃ l, minL ys = some l ∧ v = vS l) → Q v H
theorem depth_strs : ∀ ys : List (List Nat), PyData.depthAll (ys.map fun l => PyData.str (sS l)) = 0
  | [] => rfl
  | y :: ys => by
    show max (PyData.depth (.str (sS y))) (PyData.depthAll (ys.map fun l => PyData.str (sS l))) = 0
    rw [depth_strs ys]
    rfl
theorem dp_strs {K : PySem.W.Frag} {H : Hp} : ∀ ys : List (List Nat), DpAll K H (ys.map vS) (ys.map fun l => PyData.str (sS l))
  | [] => .nil
  | y :: ys => .cons (.str _) (dp_strs ys)
theorem minD_strs (x : List Nat) : ∀ xs : List (List Nat), PySem.W.minD (PyData.str (sS x)) (xs.map fun l => PyData.str (sS l)) = .str (sS (xs.foldl (fun a y => if ltL y a = true then y else a) x)) := by
  intro xs
  unfold PySem.W.minD
  induction xs generalizing x with
  | nil => rfl
  | cons y r ih =>
    rw [List.map_cons, List.foldl_cons, List.foldl_cons, ← ih]
    skip
    rw [PySem.W.dataLt_str, sS_list, sS_list]
    unfold ltL
    by_cases h : y < x
    · rw [if_pos (decide_eq_true h), if_pos (decide_eq_true h)]
    · rw [if_neg (by simpa using h), if_neg (by simpa using h)]
theorem alike_strs (ys : List (List Nat)) : PySem.W.AlikeAll (ys.map fun l => PyData.str (sS l)) := by
  refine ⟨fun x hx y hy => ?_, fun x hx => ?_⟩
  · obtain ⟨a, _, rfl⟩ := List.mem_map.mp hx
    obtain ⟨b, _, rfl⟩ := List.mem_map.mp hy
    rfl
  · obtain ⟨a, _, rfl⟩ := List.mem_map.mp hx
    exact nofun
theorem cr_minDf {X : Cx} {K : PySem.W.Frag} (hK : X.K = K) (hc : X.calm = true) (hu : X.A.units + 1 < cLine) : CallRK X (.builtin "min") ["default"] (rMinDf K) := by
  subst hK
  intro pins s σ H xs zs us ws Q I r1 r2 h
  obtain ⟨a, ys, rfl, rfl, hs, q⟩ := h
  obtain ⟨its, rv, hl, _⟩ := I.list hs
  obtain ⟨as, hr⟩ := Dp.readsAll I _ _ its (dp_strs ys) rv
  rw [Vals.ref1 r1]
  obtain ⟨w0, rfl, r3⟩ := vals1 r2
  cases r3
  refine PySem.W.min_list_default (I.ok.hd hc) hl.isList hr (alike_strs ys) (by rw [depth_strs]; exact hu) (fun e h' tk k => ?_) (fun y r i v h' tk bs e hv hrd k => ?_)
  · cases ys with
    | cons y r => cases e
    | nil => exact ⟨.non, H, I.kept k, rfl, q _ (.inl rfl)⟩
  · cases ys with
    | nil => cases e
    | cons y0 r0 =>
      obtain ⟨e1, e2⟩ := List.cons.inj e
      subst e1
      subst e2
      rw [minD_strs] at hrd
      cases hrd
      exact ⟨vS _, H, I.kept k, ⟨_, rfl⟩, q _ (.inr ⟨_, rfl, rfl⟩)⟩
theorem minL_mem : ∀ {ys : List (List Nat)} {l : List Nat}, minL ys = some l → l ∈ ys := by
  intro ys l h
  cases ys with
  | nil => cases h
  | cons x xs =>
    cases someI h
    clear h
    induction xs generalizing x with
    | nil => simp
    | cons y r ih =>
      rw [List.foldl_cons]
      split
      · exact List.mem_cons_of_mem _ (ih y)
      · rcases List.mem_cons.mp (ih x) with h | h
        · rw [h]; simp
        · exact List.mem_cons_of_mem _ (List.mem_cons_of_mem _ h)
theorem All2.strs {G : Hp} {xs : List (List Nat)} {vs : List V} (h : All2 pS G xs vs) : vs = xs.map vS ∧ ∀ x ∈ xs, OkS x := by
  induction h with
  | nil => exact ⟨rfl, by simp⟩
  | cons h _ ih =>
    refine ⟨by rw [List.map_cons, ih.1, h.1], fun x hx => ?_⟩
    rcases List.mem_cons.mp hx with rfl | hx
    · exact h.2
    · exact ih.2 x hx
section
variable {H G : Hp} {K : PySem.W.Frag} {v : V}
theorem k_minDf {ys : List (List Nat)} (h : pL pS ys v H) : ∃ u, pO pS (minL ys) u H ∧ ∀ Q : VK, Q u H → rMinDf K [v] [.non] H Q := by
  obtain ⟨a, vs, rfl, h, ha, _⟩ := h
  obtain ⟨rfl, ok⟩ := ha.strs
  have hu : ∃ u, pO pS (minL ys) u H := by
    cases e : minL ys with
    | none => exact ⟨.non, rfl⟩
    | some l => exact ⟨vS l, rfl, ok l (minL_mem e)⟩
  obtain ⟨u, hu⟩ := hu
  refine ⟨u, hu, fun Q q => ⟨a, ys, rfl, rfl, SqL.of h, fun w hw => ?_⟩⟩
  have e : w = u := by
    cases e : minL ys with
    | none =>
      rw [e] at hu hw
      rw [show u = .non from hu]
      rcases hw with hw | ⟨l, hl, _⟩
      · exact hw
      · cases hl
    | some l =>
      rw [e] at hu hw
      rw [show u = vS l from hu.1]
      rcases hw with hw | ⟨l', hl, hw⟩
      · exact hw.1
      · cases hl; exact hw
  rw [e]; exact q
theorem cps_callK {r : List V → List V → Hp → VK → Prop} {t tk : TA} {σ : St} {Q : VK} (h : t σ H fun vs H1 => tk σ H1 fun zs H2 => r vs zs H2 Q) : tCKw r t tk σ H Q := h
end
/-! dicts -/
class KeyT (κ : Type) where
  key : κ → Key
  kinj : ∀ {a b : κ}, key a = key b → a = b
  deq : DecidableEq κ
  good : κ → Prop
instance : KeyT Int := ⟨Sum.inl, fun h => by injection h, inferInstance, fun _ => True⟩
instance : KeyT (List Nat) := ⟨fun l => Sum.inr (sS l), fun h => by injection h with h; exact sS_inj h, inferInstance, OkS⟩
instance {κ : Type} [KeyT κ] : DecidableEq κ := KeyT.deq
section
variable {κ α : Type} [KeyT κ]
def lookL (xs : List (κ × α)) (k : κ) : Option α := (xs.find? fun p => decide (p.1 = k)).map (·.2)
def hasL (xs : List (κ × α)) (k : κ) : Bool := (lookL xs k).isSome
def putL (xs : List (κ × α)) (k : κ) (x : α) : List (κ × α) := if (xs.any fun p => decide (p.1 = k)) = true then xs.map (fun p => if p.1 = k then (p.1, x) else p) else xs ++ [(k, x)]
def putM (xs : List (κ × α)) (k : κ) (x : α) : Option (List (κ × α)) := if decide (xs.length < sizeLine) = true then some (putL xs k x) else none
inductive AllD (R : Rep α) (G : Hp) : List (κ × α) → List (Key × V) → Prop
  | nil : AllD R G [] []
  | cons {k : κ} {x : α} {v : V} {xs : List (κ × α)} {kvs : List (Key × V)} : KeyT.good k → R x v G → AllD R G xs kvs → AllD R G ((k, x) :: xs) ((KeyT.key k, v) :: kvs)
variable {R : Rep α} {G G' H : Hp} {xs ys : List (κ × α)} {kvs : List (Key × V)} {k : κ} {x : α} {v : V} {a : Addr}
theorem AllD.mono [Mn R] (h : AllD R G xs kvs) (s : L2.Same G G') : AllD R G' xs kvs := by
  induction h with
  | nil => exact .nil
  | cons g h _ ih => exact .cons g (Mn.mono h s) ih
theorem AllD.len (h : AllD R G xs kvs) : xs.length = kvs.length := by
  induction h with
  | nil => rfl
  | cons _ _ _ ih => simp [ih]
theorem AllD.good (h : AllD R G xs kvs) : ∀ k ∈ xs.map (·.1), KeyT.good k := by
  induction h with
  | nil => simp
  | cons g _ _ ih =>
    intro k hk
    rw [List.map_cons] at hk
    rcases List.mem_cons.mp hk with rfl | hk
    · exact g
    · exact ih k hk
theorem AllD.keys (h : AllD R G xs kvs) : kvs.map (·.1) = xs.map fun p => KeyT.key p.1 := by
  induction h with
  | nil => rfl
  | cons _ _ _ ih => simp [ih]
theorem AllD.look (h : AllD R G xs kvs) (k : κ) : (lookL xs k = none ∧ valV kvs (KeyT.key k) = none) ∨ ∃ x v, lookL xs k = some x ∧ valV kvs (KeyT.key k) = some v ∧ R x v G := by
  induction h with
  | nil => exact .inl ⟨rfl, rfl⟩
  | @cons j x v xs kvs hg h _ ih =>
    by_cases e : j = k
    · refine .inr ⟨x, v, ?_, ?_, h⟩
      · simp [lookL, List.find?_cons, e]
      · exact valV_pos (by rw [e])
    · have e2 : ¬ (KeyT.key j : Key) = KeyT.key k := fun h => e (KeyT.kinj h)
      have e3 : lookL ((j, x) :: xs) k = lookL xs k := by simp [lookL, List.find?_cons, e]
      have e4 : valV ((KeyT.key j, v) :: kvs) (KeyT.key k) = valV kvs (KeyT.key k) := valV_neg e2
      rw [e3, e4]; exact ih
theorem AllD.any (h : AllD R G xs kvs) (k : κ) : (kvs.any fun kv => decide (kv.1 = KeyT.key k)) = xs.any fun p => decide (p.1 = k) := by
  induction h with
  | nil => rfl
  | @cons j x v xs kvs hg h _ ih =>
    rw [List.any_cons, List.any_cons, ih]
    congr 1
    by_cases e : j = k
    · simp [e]
    · have e2 : ¬ (KeyT.key j : Key) = KeyT.key k := fun h => e (KeyT.kinj h)
      simp [e, e2]
theorem AllD.snoc (h : AllD R G xs kvs) (gk : KeyT.good k) (hx : R x v G) : AllD R G (xs ++ [(k, x)]) (kvs ++ [(KeyT.key k, v)]) := by
  induction h with
  | nil => exact .cons gk hx .nil
  | cons g h _ ih => exact .cons g h ih
theorem AllD.upd (h : AllD R G xs kvs) (hx : R x v G) : AllD R G (xs.map fun p => if p.1 = k then (p.1, x) else p) (kvs.map fun kv => if kv.1 = KeyT.key k then (kv.1, v) else kv) := by
  induction h with
  | nil => exact .nil
  | @cons j y w xs kvs hg h _ ih =>
    rw [List.map_cons, List.map_cons]
    by_cases e : j = k
    · rw [if_pos e, if_pos (by rw [e])]; exact .cons hg hx ih
    · rw [if_neg e, if_neg (fun h => e (KeyT.kinj h))]; exact .cons hg h ih
theorem AllD.put (h : AllD R G xs kvs) (gk : KeyT.good k) (hx : R x v G) (e : putM xs k x = some ys) : kvs.length < sizeLine ∧ AllD R G ys (putK kvs (KeyT.key k) v) ∧ ys.length ≤ sizeLine := by
  obtain ⟨c, rfl⟩ := guardS e
  refine ⟨by rw [← h.len]; exact c, ?_, ?_⟩
  · unfold putL putK
    rw [h.any]
    split
    · exact h.upd hx
    · exact h.snoc gk hx
  · unfold putL
    split
    · rw [List.length_map]; omega
    · rw [List.length_append]; exact c
/-- a dict that stands -/
def pD (R : Rep α) : Rep (List (κ × α)) := fun xs v G => ∃ a kvs, v = .ref a ∧ Rd G a (.dK kvs) ∧ AllD R G xs kvs ∧ xs.length ≤ sizeLine
theorem rd_mono {u : HO} (s : L2.Same G G') (h : Rd G a u) : Rd G' a u := h.elim (fun h => .inl (s _ _ h)) fun ⟨o, h⟩ => .inr ⟨o, s _ _ h⟩
instance [Mn R] : Mn (pD (κ := κ) R) := ⟨fun ⟨a, kvs, e, h, ha, hl⟩ s => ⟨a, kvs, e, rd_mono s h, ha.mono s, hl⟩⟩
theorem pD_new [Mn R] (hG : G a = none) (ha : AllD R G xs kvs) (hl : xs.length ≤ sizeLine) : pD R xs (.ref a) (upd G a (.dK kvs)) := ⟨a, kvs, rfl, .of upd_same, ha.mono (same_new hG), hl⟩
theorem pD_cell [Mn R] (hH : Rd H a (.dK kvs)) (ha : AllD R G xs kvs) (s : L2.Same G H) (hl : xs.length ≤ sizeLine) : pD R xs (.ref a) H := ⟨a, kvs, rfl, hH, ha.mono s, hl⟩
theorem dget_k (h : Rd H a (.dK kvs)) (k : κ) : DGet H a (kV (KeyT.key k)) (valV kvs (KeyT.key k)) := .inl ⟨kvs, _, h, rfl, rfl⟩
theorem k_dget (hv : v = .ref a) (h : Rd H a (.dK kvs)) (ha : AllD R G xs kvs) (e : lookL xs k = some x) : ∃ w, R x w G ∧ ∀ Q : VK, Q w H → (∃ b u, v = .ref b ∧ DGet H b (kV (KeyT.key k)) (some u) ∧ Q u H) := by
  rcases ha.look k with ⟨h1, _⟩ | ⟨y, w, h1, h2, h3⟩
  · rw [h1] at e; cases e
  · rw [h1] at e; cases e
    exact ⟨w, h3, fun Q q => ⟨a, w, hv, h2 ▸ dget_k h k, q⟩⟩
theorem AllD.has (ha : AllD R G xs kvs) (k : κ) : (valV kvs (KeyT.key k)).isSome = hasL xs k := by
  unfold hasL
  rcases ha.look k with ⟨h1, h2⟩ | ⟨y, w, h1, h2, h3⟩
  · rw [h1, h2]; rfl
  · rw [h1, h2]; rfl
theorem k_din (hv : v = .ref a) (h : Rd H a (.dK kvs)) (ha : AllD R G xs kvs) (k : κ) : ∀ Q : VK, Q (.bl (hasL xs k)) H → (∃ b o, v = .ref b ∧ DGet H b (kV (KeyT.key k)) o ∧ Q (.bl o.isSome) H) :=
  fun Q q => ⟨a, _, hv, dget_k h k, by rw [ha.has]; exact q⟩
theorem k_dnin (hv : v = .ref a) (h : Rd H a (.dK kvs)) (ha : AllD R G xs kvs) (k : κ) : ∀ Q : VK, Q (.bl (!hasL xs k)) H → (∃ b o, v = .ref b ∧ DGet H b (kV (KeyT.key k)) o ∧ Q (.bl (!o.isSome)) H) :=
  fun Q q => ⟨a, _, hv, dget_k h k, by rw [ha.has]; exact q⟩
theorem k_dget2 (h : Rd H a (.dK kvs)) (ha : AllD R G xs kvs) (k : κ) {y : α} {u : V} (hy : R y u G) : ∃ w, R ((lookL xs k).getD y) w G ∧ ∀ Q : VK, Q w H → (∃ o, DGet H a (kV (KeyT.key k)) o ∧ Q (o.getD u) H) := by
  rcases ha.look k with ⟨h1, h2⟩ | ⟨z, w, h1, h2, h3⟩
  · rw [h1]; exact ⟨u, hy, fun Q q => ⟨_, dget_k h k, by rw [h2]; exact q⟩⟩
  · rw [h1]; exact ⟨w, h3, fun Q q => ⟨_, dget_k h k, by rw [h2]; exact q⟩⟩
variable {td ty tx tv : TE} {σ : St} {Q : VK} {D : Ends} {rest : TS}
theorem cps_dget (h : td σ H fun x H1 => ty σ H1 fun y H2 => ∃ a v, x = .ref a ∧ DGet H2 a y (some v) ∧ Q v H2) : tDGet td ty σ H Q := h
theorem cps_din (h : ty σ H fun y H1 => td σ H1 fun x H2 => ∃ a o, x = .ref a ∧ DGet H2 a y o ∧ Q (.bl o.isSome) H2) : tDIn ty td σ H Q := h
theorem cps_dnin (h : ty σ H fun y H1 => td σ H1 fun x H2 => ∃ a o, x = .ref a ∧ DGet H2 a y o ∧ Q (.bl (!o.isSome)) H2) : tDNotIn ty td σ H Q := h
theorem cps_dget2 (h : td σ H fun x H1 => ∃ a, x = .ref a ∧ IsD H1 a ∧ ty σ H1 fun y H2 => tx σ H2 fun z H3 => ∃ o, DGet H3 a y o ∧ Q (o.getD z) H3) : tDGet2 td ty tx σ H Q := h
theorem cps_dput (h : tv σ H fun v H1 => td σ H1 fun x H2 => ty σ H2 fun y H3 => ∃ a H4, x = .ref a ∧ DPut H3 a y v H4 ∧ rest D σ H4) : tSeq (sDPut td ty tv) rest D σ H := h
theorem cps_dnew (h : ∀ p, H p = none → Q (.ref p) (upd H p (.dK []))) : tDNewK σ H Q := h
theorem isD_of (h : Rd H a (.dK kvs)) : IsD H a := .inl ⟨kvs, h⟩
theorem ev_dget {w : V} (h1 : EV td σ H v) (h2 : EV ty σ H (kV (KeyT.key k))) (q : ∀ Q : VK, Q w H → (∃ b u, v = .ref b ∧ DGet H b (kV (KeyT.key k)) (some u) ∧ Q u H)) : EV (tDGet td ty) σ H w := fun Q k => h1 _ (h2 _ (q Q k))
theorem ev_din {b : Bool} (h1 : EV td σ H v) (h2 : EV ty σ H (kV (KeyT.key k))) (q : ∀ Q : VK, Q (.bl b) H → (∃ b' o, v = .ref b' ∧ DGet H b' (kV (KeyT.key k)) o ∧ Q (.bl o.isSome) H)) : EV (tDIn ty td) σ H (.bl b) := fun Q k => h2 _ (h1 _ (q Q k))
theorem ev_dnin {b : Bool} (h1 : EV td σ H v) (h2 : EV ty σ H (kV (KeyT.key k))) (q : ∀ Q : VK, Q (.bl b) H → (∃ b' o, v = .ref b' ∧ DGet H b' (kV (KeyT.key k)) o ∧ Q (.bl (!o.isSome)) H)) : EV (tDNotIn ty td) σ H (.bl b) := fun Q k => h2 _ (h1 _ (q Q k))
theorem k_lenD (hv : v = .ref a) (h : H a = some (.dK kvs)) (ha : AllD R G xs kvs) : ∀ Q : VK, Q (.int (xs.length : Int)) H → rLenDK [v] H Q := fun Q q => ⟨a, kvs, by rw [hv], h, by rw [← ha.len]; exact q⟩
/-- a walk over a dict's keys -/
theorem keys_item {i : Nat} {k : κ} {v : V} {H' : Hp} (ha : AllD R G xs kvs) (hx : (xs.map (·.1))[i]? = some k) (hy : H' = H ∧ ∃ k v', kvs[i]? = some (k, v') ∧ v = kV k) : H' = H ∧ v = kV (KeyT.key k) := by
  obtain ⟨e, k', v', h1, h2⟩ := hy
  refine ⟨e, ?_⟩
  have h3 : (kvs.map (·.1))[i]? = some k' := by rw [List.getElem?_map, h1]; rfl
  rw [ha.keys, List.getElem?_map] at h3
  rw [List.getElem?_map] at hx
  cases e2 : xs[i]? with
  | none => rw [e2] at hx; cases hx
  | some p =>
    rw [e2] at hx h3
    cases hx
    cases h3
    exact h2
theorem keys_hn (ha : AllD R G xs kvs) : (xs.map (·.1)).length = kvs.length := by rw [List.length_map]; exact ha.len
end
/-! sorted over a dict of texts -/
def sortS (xs : List (List Nat)) : List (List Nat) := xs.mergeSort fun a b => decide (a ≤ b)
theorem le_nat_total (a b : List Nat) : (decide (a ≤ b) || decide (b ≤ a)) = true := by
  rcases List.le_total a b with h | h <;> simp [h]
theorem sortS_perm (xs : List (List Nat)) : (sortS xs).Perm xs := List.mergeSort_perm _ _
theorem sortS_sorted (xs : List (List Nat)) : (sortS xs).Pairwise (· ≤ ·) := by
  have h := List.pairwise_mergeSort (le := fun a b : List Nat => decide (a ≤ b)) (fun a b c h1 h2 => by simp at h1 h2 ⊢; exact List.le_trans h1 h2) (fun a b => le_nat_total a b) xs
  exact h.imp fun h => by simpa using h
theorem sortedS_one {a b : List (List Nat)} (hp : a.Perm b) (ha : a.Pairwise (· ≤ ·)) (hb : b.Pairwise (· ≤ ·)) : a = b :=
  List.Perm.eq_of_pairwise (fun x y _ _ h1 h2 => List.le_antisymm h1 h2) ha hb hp
theorem sS_back (z : Str) : sS z.cps.toList = z := by
  show (⟨z.cps.toList.toArray⟩ : Str) = z
  rw [Array.toArray_toList]
theorem risingS_le : ∀ (r : List Str) (p : Str), PyProof.Rows.risingS p r = true → (p.cps.toList :: r.map fun z => z.cps.toList).Pairwise (· ≤ ·)
  | [], p, _ => by simp
  | x :: r, p, h => by
    unfold PyProof.Rows.risingS at h
    simp only [Bool.and_eq_true, Bool.not_eq_true', decide_eq_false_iff_not] at h
    have ih := risingS_le r x h.2
    rw [List.map_cons, List.pairwise_cons]
    have hx : p.cps.toList ≤ x.cps.toList := by
      have h1 := h.1
      rw [PyProof.Rows.ltCps_eq] at h1
      exact List.not_lt.mp (of_decide_eq_false h1)
    refine ⟨fun z hz => ?_, ih⟩
    rcases List.mem_cons.mp hz with rfl | hz
    · exact hx
    · exact List.le_trans hx ((List.pairwise_cons.mp ih).1 z hz)
theorem sortedS_le {r : List Str} (h : PyProof.Rows.sortedS r = true) : (r.map fun z => z.cps.toList).Pairwise (· ≤ ·) := by
  cases r with
  | nil => exact .nil
  | cons x r => exact risingS_le r x h
def sortSM (xs : List (List Nat)) : Option (List (List Nat)) := if decide (xs.length < 64) = true then some (sortS xs) else none
theorem sortS_same {xs : List (List Nat)} {ys : List Str} (h : ys.Perm (xs.map sS)) (h2 : PyProof.Rows.sortedS ys = true) : ys = (sortS xs).map sS := by
  have e : ys.map (fun z => z.cps.toList) = sortS xs := by
    refine sortedS_one ?_ (sortedS_le h2) (sortS_sorted xs)
    have h3 := h.map fun z : Str => z.cps.toList
    rw [List.map_map] at h3
    have e4 : xs.map ((fun z : Str => z.cps.toList) ∘ sS) = xs := by
      have : xs.map ((fun z : Str => z.cps.toList) ∘ sS) = xs.map id := List.map_congr_left fun x _ => sS_list x
      rw [this, List.map_id]
    rw [e4] at h3
    exact h3.trans (sortS_perm xs).symm
  rw [← e, List.map_map]
  have : ys.map (sS ∘ fun z : Str => z.cps.toList) = ys.map id := List.map_congr_left fun x _ => sS_back x
  rw [this, List.map_id]
section
variable {H G : Hp} {K : PySem.W.Frag} {v : V} {a : Addr} {α : Type} {R : Rep α}
theorem k_sortS {xs ys : List (List Nat)} (h : pL pS xs v H) (e : sortSM xs = some ys) : ∀ Q : VK, (∀ p, H p = none → Q (.ref p) (upd H p (.lst (ys.map vS)))) → rSortedS K [v] H Q := by
  obtain ⟨a, vs, rfl, h, ha, _⟩ := h
  obtain ⟨rfl, ok⟩ := ha.strs
  obtain ⟨c, rfl⟩ := guardS e
  refine fun Q q => ⟨a, xs.map sS, rfl, SqL.of (by rw [← vS_map]; exact h), by rw [List.length_map]; exact c, fun ys p h1 h2 h3 => ?_⟩
  rw [sortS_same h1 h2, ← vS_map]
  exact q p h3
theorem sortS_len {xs ys : List (List Nat)} (h : pL pS xs v H) (e : sortSM xs = some ys) : ys.length ≤ sizeLine := by
  obtain ⟨a, vs, rfl, h, ha, hl⟩ := h
  obtain ⟨c, rfl⟩ := guardS e
  rw [(sortS_perm xs).length_eq]; exact hl
theorem sortS_ok {xs ys : List (List Nat)} (h : pL pS xs v H) (e : sortSM xs = some ys) : All2 pS G ys (ys.map vS) := by
  obtain ⟨a, vs, rfl, h, ha, hl⟩ := h
  obtain ⟨rfl, ok⟩ := ha.strs
  obtain ⟨c, rfl⟩ := guardS e
  exact All2.ofStr _ _ fun x hx => ok x ((sortS_perm xs).mem_iff.mp hx)
/-- sorted over a dict -/
def rSortDS : List V → Hp → VK → Prop := fun xs H Q => ∃ (a : Addr) (kvs : List (Key × V)) (ks : List Str), xs = [.ref a] ∧ Rd H a (.dK kvs) ∧ kvs.map (·.1) = ks.map Sum.inr ∧ ks.length < 64 ∧
  ∀ ys p, ys.Perm ks → PyProof.Rows.sortedS ys = true → H p = none → Q (.ref p) (upd H p (.lst (ys.map V.str)))
def rSortDI : List V → Hp → VK → Prop := fun xs H Q => ∃ (a : Addr) (kvs : List (Key × V)) (ks : List Int), xs = [.ref a] ∧ Rd H a (.dK kvs) ∧ kvs.map (·.1) = ks.map Sum.inl ∧ ks.length < 64 ∧
  ∀ (ys : List Int) (p : Addr), ys.Perm ks → ys.Pairwise (· ≤ ·) → H p = none → Q (.ref p) (upd H p (.lst (ys.map V.int)))
theorem call_sortDS {X : Cx} (hc : X.calm = true) : CallR X (.builtin "sorted") rSortDS := call_sortedD hc
theorem call_sortDI {X : Cx} (hc : X.calm = true) : CallR X (.builtin "sorted") rSortDI := call_sortedDI hc
theorem k_sortDS {xs : List (List Nat × α)} {kvs : List (Key × V)} {ys : List (List Nat)} (h : Rd H a (.dK kvs)) (ha : AllD R G xs kvs) (hv : v = .ref a) (e : sortSM (xs.map (·.1)) = some ys) : ∀ Q : VK, (∀ p, H p = none → Q (.ref p) (upd H p (.lst (ys.map vS)))) → rSortDS [v] H Q := by
  obtain ⟨c, rfl⟩ := guardS e
  refine fun Q q => ⟨a, kvs, (xs.map (·.1)).map sS, by rw [hv], h, ?_, by rw [List.length_map]; exact c, fun ys p h1 h2 h3 => ?_⟩
  · rw [ha.keys, List.map_map, List.map_map]; rfl
  · rw [sortS_same h1 h2, ← vS_map]
    exact q p h3
theorem sortDS_ok {G : Hp} {xs : List (List Nat × α)} {kvs : List (Key × V)} {ys : List (List Nat)} (ha : AllD R G xs kvs) (e : sortSM (xs.map (·.1)) = some ys) : All2 pS G ys (ys.map vS) := by
  obtain ⟨c, rfl⟩ := guardS e
  exact All2.ofStr _ _ fun x hx => ha.good x ((sortS_perm _).mem_iff.mp hx)
theorem sortDS_len {xs ys : List (List Nat)} (e : sortSM xs = some ys) : ys.length ≤ sizeLine := by
  obtain ⟨c, rfl⟩ := guardS e
  rw [(sortS_perm xs).length_eq, sizeLine_16]; omega
def sortIDM (xs : List Int) : Option (List Int) := if decide (xs.length < 64) = true then some (sortI xs) else none
theorem k_sortDI {xs : List (Int × α)} {kvs : List (Key × V)} {ys : List Int} (h : Rd H a (.dK kvs)) (ha : AllD R G xs kvs) (hv : v = .ref a) (e : sortIDM (xs.map (·.1)) = some ys) : ∀ Q : VK, (∀ p, H p = none → Q (.ref p) (upd H p (.lst (ys.map V.int)))) → rSortDI [v] H Q := by
  obtain ⟨c, rfl⟩ := guardS e
  refine fun Q q => ⟨a, kvs, xs.map (·.1), by rw [hv], h, ?_, c, fun ys p h1 h2 h3 => ?_⟩
  · rw [ha.keys, List.map_map]; rfl
  · have e : ys = sortI (xs.map (·.1)) := sorted_one (h1.trans (sortI_perm _).symm) h2 (sortI_sorted _)
    subst e
    exact q p h3
theorem sortDI_len {xs ys : List Int} (e : sortIDM xs = some ys) : ys.length ≤ sizeLine := by
  obtain ⟨c, rfl⟩ := guardS e
  rw [(sortI_perm xs).length_eq, sizeLine_16]; omega
/-- dict(pairs) -/
def rDictP (K : PySem.W.Frag) : RC := fun xs H Q => ∃ (a : Addr) (ps : List Addr) (kvs : List (Key × V)), xs = [.ref a] ∧ SqL K H a (ps.map V.ref) ∧ Paired (fun p kv => SqT K H p [kV kv.1, kv.2]) ps kvs ∧
  ∀ p, H p = none → Q (.ref p) (upd H p (.dK (mergeK [] kvs)))
theorem call_dictPr {X : Cx} (hK : X.K = K) (hc : X.calm = true) : CallR X (.type "dict") (rDictP K) := by
  subst hK
  exact call_dictP hc
class KeyR {κ : Type} [KeyT κ] (S : Rep κ) : Prop where
  kr : ∀ {k v G}, S k v G → v = kV (KeyT.key k) ∧ KeyT.good k
instance : KeyR pI := ⟨fun h => ⟨h, trivial⟩⟩
instance : KeyR pS := ⟨fun h => h⟩
def dictL {κ : Type} [KeyT κ] (xs : List (κ × α)) : List (κ × α) := xs.foldl (fun acc p => putL acc p.1 p.2) []
def dictM {κ : Type} [KeyT κ] (xs : List (κ × α)) : Option (List (κ × α)) := some (dictL xs)
theorem putL_len {κ : Type} [KeyT κ] (xs : List (κ × α)) (k : κ) (x : α) : (putL xs k x).length ≤ xs.length + 1 := by
  unfold putL
  split <;> simp
theorem k_dictP {κ : Type} [KeyT κ] {S : Rep κ} [KeyR S] {R : Rep α} {xs : List (κ × α)} (h : ∃ vs, GotL (pT2 S R) G H xs v vs) (sm : L2.Same G H) : ∃ kvs, AllD R G (dictL xs) kvs ∧ (dictL xs).length ≤ sizeLine ∧
    ∀ Q : VK, (∀ p, H p = none → Q (.ref p) (upd H p (.dK kvs))) → rDictP K [v] H Q := by
  obtain ⟨vs, ⟨a, rfl, h⟩, ha, hl⟩ := h
  have key : ∃ (ps : List Addr) (kvs : List (Key × V)), vs = ps.map V.ref ∧ Paired (fun p kv => SqT K H p [kV kv.1, kv.2]) ps kvs ∧
      ∀ (acc : List (κ × α)) (kacc : List (Key × V)), AllD R G acc kacc → AllD R G (xs.foldl (fun acc p => putL acc p.1 p.2) acc) (mergeK kacc kvs) ∧ (xs.foldl (fun acc p => putL acc p.1 p.2) acc).length ≤ acc.length + xs.length := by
    clear h hl
    induction ha with
    | nil => exact ⟨[], [], rfl, .nil, fun acc kacc h => ⟨h, by simp⟩⟩
    | @cons x w xs vs hx _ ih =>
      obtain ⟨ps, kvs, e, hp, hf⟩ := ih
      obtain ⟨b, u, z, e1, e2, h1, h2⟩ := hx
      refine ⟨b :: ps, (KeyT.key x.1, z) :: kvs, by rw [List.map_cons, ← e, e1], .cons (SqT.of (by rw [sm _ _ e2, (KeyR.kr h1).1])) hp, fun acc kacc ha => ?_⟩
      have h3 : AllD R G (putL acc x.1 x.2) (putK kacc (KeyT.key x.1) z) := by
        unfold putL putK
        rw [ha.any]
        split
        · exact ha.upd h2
        · exact ha.snoc (KeyR.kr h1).2 h2
      obtain ⟨h4, h5⟩ := hf _ _ h3
      refine ⟨h4, ?_⟩
      rw [List.foldl_cons, List.length_cons]
      have := putL_len acc x.1 x.2
      omega
  obtain ⟨ps, kvs, e, hp, hf⟩ := key
  obtain ⟨h1, h2⟩ := hf [] [] .nil
  refine ⟨_, h1, Nat.le_trans h2 (by simpa using hl), fun Q q => ⟨a, ps, kvs, rfl, SqL.of (by rw [h, e]), hp, q⟩⟩
end
section
variable {H : Hp} {σ : St} {D : Ends} {d : Addr} {u : HO} {te : TE} {rest : TS} {Q : VK} {i : Nat}
theorem cps_lockE (h : H d = some u) (m : Mut (some u)) (k : ∀ od, te σ (upd H d (.frz od u)) fun v H' => H' d = some (.frz od u) ∧ Q v (upd H' d u)) : tLockE te σ H Q := ⟨d, u, h, m, k⟩
theorem cps_asgLock {τ : V → St} (e : ∀ x, σ.set i (some x) = τ x) (h : H d = some u) (m : Mut (some u)) (k : ∀ od, te σ (upd H d (.frz od u)) fun x H2 => H2 d = some (.frz od u) ∧ rest D (τ x) (upd H2 d u)) :
    tSeq (tLock (tAsg te (gName i))) rest D σ H := by
  refine ⟨d, u, h, m, fun od => ?_⟩
  show te σ (upd H d (.frz od u)) fun x H2 => H2 d = some (.frz od u) ∧ rest D (σ.set i (some x)) (upd H2 d u)
  have e2 : (fun x H2 => H2 d = some (.frz od u) ∧ rest D (σ.set i (some x)) (upd H2 d u)) = fun x H2 => H2 d = some (.frz od u) ∧ rest D (τ x) (upd H2 d u) := by
    funext x H2
    rw [e x]
  rw [e2]
  exact k od
theorem cps_keys {td : TE} {R : It → Hp → Prop} (h : td σ H fun x H1 => ∃ d o, x = .ref d ∧ ((∃ kvs, H1 d = some (.frz o (.dK kvs)) ∧ R (Itk d o kvs) H1) ∨ ∃ kvs, H1 d = some (.frz o (.dT kvs)) ∧ R (Itkt d o kvs) H1)) : iKeys td σ H R := h
end
end MK

namespace MK
open PySem PySem.Spec L2
def rLenDR : RC := fun xs H Q => ∃ a kvs, xs = [V.ref a] ∧ Rd H a (.dK kvs) ∧ Q (.int kvs.length) H
theorem call_lenDR {X : Cx} : CallR X (.builtin "len") rLenDR := by
  intro pins s σ H xs us Q I r h
  obtain ⟨a, kvs, rfl, ha, q⟩ := h
  obtain ⟨u, rfl, ru⟩ := vals1 r
  cases ru
  exact d_len I ha fun t s' I' => ⟨.int kvs.length, H, I', ⟨t, rfl⟩, q⟩
def rMinS (K : PySem.W.Frag) : RC := fun xs H Q => ∃ (a : Addr) (ys : List (List Nat)) (l : List Nat), xs = [.ref a] ∧ SqL K H a (ys.map vS) ∧ minL ys = some l ∧ Q (vS l) H
theorem cr_minS {X : Cx} {K : PySem.W.Frag} (hK : X.K = K) (hc : X.calm = true) (hu : X.A.units + 1 < cLine) : CallR X (.builtin "min") (rMinS K) := by
  subst hK
  intro pins s σ H xs us Q I r1 h
  obtain ⟨a, ys, l, rfl, hs, hl0, q⟩ := h
  cases ys with
  | nil => cases hl0
  | cons y0 r0 =>
    obtain ⟨its, rv, hl, _⟩ := I.list hs
    obtain ⟨as, hr⟩ := Dp.readsAll I _ _ its (dp_strs (y0 :: r0)) rv
    rw [Vals.ref1 r1]
    refine PySem.W.min_list_data (x := .str (sS y0)) (xs := r0.map fun l => PyData.str (sS l)) (I.ok.hd hc) hl.isList hr (alike_strs (y0 :: r0)) (by have e := depth_strs (y0 :: r0); rw [List.map_cons] at e; rw [e]; exact hu) (fun i v h' tk bs hv hrd k => ?_)
    rw [minD_strs] at hrd
    cases someI hl0
    cases hrd
    exact ⟨vS _, H, I.kept k, ⟨_, rfl⟩, q⟩
def minI : List Int → Option Int
  | [] => none
  | x :: xs => some (xs.foldl min x)
def maxI : List Int → Option Int
  | [] => none
  | x :: xs => some (xs.foldl max x)
theorem foldl_min_spec : ∀ (xs : List Int) (x : Int), xs.foldl min x ∈ x :: xs ∧ ∀ y ∈ x :: xs, xs.foldl min x ≤ y
  | [], x => by simp
  | y :: r, x => by
    obtain ⟨h1, h2⟩ := foldl_min_spec r (min x y)
    rw [List.foldl_cons]
    constructor
    · rcases List.mem_cons.mp h1 with h | h
      · rw [h]
        by_cases e : x ≤ y
        · rw [Int.min_eq_left e]; simp
        · rw [Int.min_eq_right (by omega)]; simp
      · exact List.mem_cons_of_mem _ (List.mem_cons_of_mem _ h)
    · intro z hz
      have h3 := h2 (min x y) (by simp)
      rcases List.mem_cons.mp hz with rfl | hz
      · omega
      · rcases List.mem_cons.mp hz with rfl | hz
        · omega
        · exact h2 z (List.mem_cons_of_mem _ hz)
theorem foldl_max_spec : ∀ (xs : List Int) (x : Int), xs.foldl max x ∈ x :: xs ∧ ∀ y ∈ x :: xs, y ≤ xs.foldl max x
  | [], x => by simp
  | y :: r, x => by
    obtain ⟨h1, h2⟩ := foldl_max_spec r (max x y)
    rw [List.foldl_cons]
    constructor
    · rcases List.mem_cons.mp h1 with h | h
      · rw [h]
        by_cases e : y ≤ x
        · rw [Int.max_eq_left e]; simp
        · rw [Int.max_eq_right (by omega)]; simp
      · exact List.mem_cons_of_mem _ (List.mem_cons_of_mem _ h)
    · intro z hz
      have h3 := h2 (max x y) (by simp)
      rcases List.mem_cons.mp hz with rfl | hz
      · omega
      · rcases List.mem_cons.mp hz with rfl | hz
        · omega
        · exact h2 z (List.mem_cons_of_mem _ hz)
theorem minI_spec {xs : List Int} {m : Int} (h : minI xs = some m) : m ∈ xs ∧ ∀ y ∈ xs, m ≤ y := by
  cases xs with
  | nil => cases h
  | cons x xs => cases someI h; exact foldl_min_spec xs x
theorem maxI_spec {xs : List Int} {m : Int} (h : maxI xs = some m) : m ∈ xs ∧ ∀ y ∈ xs, y ≤ m := by
  cases xs with
  | nil => cases h
  | cons x xs => cases someI h; exact foldl_max_spec xs x
theorem cr_minIK {X : Cx} {K : PySem.W.Frag} (hK : X.K = K) (hc : X.calm = true) : CallR X (.builtin "min") (rMin K) := by
  subst hK; exact cr_min hc
theorem cr_maxIK {X : Cx} {K : PySem.W.Frag} (hK : X.K = K) (hc : X.calm = true) : CallR X (.builtin "max") (rMax K) := by
  subst hK; exact cr_max hc
section
variable {H G : Hp} {K : PySem.W.Frag} {v : V} {κ α : Type} [KeyT κ] {R : Rep α}
theorem k_lenDR {a : Addr} {xs : List (κ × α)} {kvs : List (Key × V)} (hv : v = .ref a) (h : Rd H a (.dK kvs)) (ha : AllD R G xs kvs) : ∀ Q : VK, Q (.int (xs.length : Int)) H → rLenDR [v] H Q :=
  fun Q q => ⟨a, kvs, by rw [hv], h, by rw [← ha.len]; exact q⟩
theorem k_minI {ns : List Int} {m : Int} (h : pL pI ns v H) (e : minI ns = some m) : ∀ Q : VK, Q (.int m) H → rMin K [v] H Q := by
  obtain ⟨a, vs, rfl, h, ha, _⟩ := h
  cases ha.int
  refine fun Q q => ⟨a, ns, rfl, SqL.of h, ?_, fun n h1 h2 => ?_⟩
  · cases ns with
    | nil => cases e
    | cons x xs => simp
  · obtain ⟨h3, h4⟩ := minI_spec e
    have := h2 m h3
    have := h4 n h1
    rw [show n = m by omega]; exact q
theorem k_maxI {ns : List Int} {m : Int} (h : pL pI ns v H) (e : maxI ns = some m) : ∀ Q : VK, Q (.int m) H → rMax K [v] H Q := by
  obtain ⟨a, vs, rfl, h, ha, _⟩ := h
  cases ha.int
  refine fun Q q => ⟨a, ns, rfl, SqL.of h, ?_, fun n h1 h2 => ?_⟩
  · cases ns with
    | nil => cases e
    | cons x xs => simp
  · obtain ⟨h3, h4⟩ := maxI_spec e
    have := h2 m h3
    have := h4 n h1
    rw [show n = m by omega]; exact q
theorem k_minS {ys : List (List Nat)} {l : List Nat} (h : pL pS ys v H) (e : minL ys = some l) : ∀ Q : VK, Q (vS l) H → rMinS K [v] H Q := by
  obtain ⟨a, vs, rfl, h, ha, _⟩ := h
  obtain ⟨rfl, ok⟩ := ha.strs
  exact fun Q q => ⟨a, ys, l, rfl, SqL.of h, e, q⟩
theorem minS_ok {ys : List (List Nat)} {l : List Nat} (h : pL pS ys v H) (e : minL ys = some l) : OkS l := by
  obtain ⟨a, vs, rfl, h, ha, _⟩ := h
  obtain ⟨rfl, ok⟩ := ha.strs
  exact ok l (minL_mem e)
variable {te ta tb : TE} {σ : St} {Q : VK} {tt : TT}
theorem cut_ev2 {P : V → Hp → Prop} (h : ∀ Q' : VK, (∀ v H', P v H' → Q' v H') → te σ H Q') (k : ∀ v H', P v H' → Q v H') : te σ H Q := h Q k
theorem cps_andV (h : ta σ H fun x H1 => ∃ c, x = .bl c ∧ if c = true then tb σ H1 Q else Q (.bl false) H1) : tAndV ta tb σ H Q := h
theorem cps_orV (h : ta σ H fun x H1 => ∃ c, x = .bl c ∧ if c = true then Q (.bl true) H1 else tb σ H1 Q) : tOrV ta tb σ H Q := h
theorem cps_notV (h : ta σ H fun x H1 => ∃ c, x = .bl c ∧ Q (.bl (!c)) H1) : tNotV ta σ H Q := h
theorem cps_ifV (h : tt σ H fun c H1 => if c = true then ta σ H1 Q else tb σ H1 Q) : tIf tt ta tb σ H Q := h
theorem isiO {o : Option α} {t n : String} (h : pO R o v H) (hs : ∀ x, R x v H → TyX K H v (.type t)) (k1 : kitB t n = some true) (k2 : kitB "NoneType" n = some false) : ∀ Q : VK, Q (.bl o.isSome) H → rIsi K [v, .ty n] H Q := by
  cases o with
  | none =>
    rw [show v = .non from h]
    exact isiT tyN k2
  | some x => exact isiT (hs x h) k1
end
end MK

namespace MK
open PySem PySem.Spec L2 PyProof.Rows
def sgn (c : Nat) : Str := ⟨#[c]⟩
theorem strs_signs : ∀ (l : List Nat) (vs : List Value), vs.length = l.length → (∀ (j : Nat) (v : Value), vs[j]? = some v → ∃ (c : Nat) (u : Tok), l[j]? = some c ∧ v = Value.str (sgn c) u) → StrsAre vs (l.map sgn)
  | [], vs, hl, _ => by
    cases vs with
    | nil => exact .nil
    | cons v vs => simp at hl
  | c :: l, vs, hl, h => by
    cases vs with
    | nil => simp at hl
    | cons v vs =>
      obtain ⟨c', u, e1, e2⟩ := h 0 v rfl
      cases e1
      subst e2
      exact .cons _ _ (strs_signs l vs (by simpa using hl) fun j v hj => h (j + 1) v (by simpa using hj))
theorem strs_of_items {x : Str} {acc : Array Value} (h : ItemsOf (SignAt x) acc x.cps.size) : StrsAre acc.toList (x.cps.toList.map sgn) := by
  refine strs_signs _ _ (by rw [Array.length_toList, Array.length_toList]; exact h.1) fun j v hj => ?_
  obtain ⟨c, u, e1, e2⟩ := h.2 j v (by rw [← Array.getElem?_toList]; exact hj)
  exact ⟨c, u, by rw [Array.getElem?_toList]; exact e1, e2⟩
section
variable {prog : Program} {w : World} {A : Around} {E : Value → Shared → Prop} {s : Shared}
theorem sorted_text {x : Str} {t : Tok} {Q : Value → Shared → Prop} (hh : A.handled = none) (h64 : x.length < 64)
    (h : ∀ (h1 h' : Heap) tk ys its ep, (∀ b o, s.heap.get? b = some o → h1.get? b = some o) → (∀ b o, h1.get? b = some o → h'.get? b = some o) → h'.get? h1.objs.size = some (seqObj "list" its ep) → StrsAre its.toList ys → ys.Perm (x.cps.toList.map sgn) → sortedS ys = true → Q (.ref h1.objs.size) { s with heap := h', toks := tk }) :
    wpAny (model prog w) A (call (.builtin "sorted") [.str x t]) Q E s := by
  refine Calls.call_function_entry kind_sorted plain_sorted entry_sorted (args_sorted1 _) ?_
  unfold Builtin.«sorted»
  refine wpAny_bind (m := checkCount "sorted" 1 1 _) (wpAny_pure ?_)
  have hx : x.cps.size < 64 := h64
  refine wpAny_bind (wpAny_collect_str (A := A.in1) hh x t (fun s' acc hk hg hd ho hacc => ?_) (by rw [sizeLine_16]; omega))
  have hS := strs_of_items hacc
  have hlen : acc.toList.length = x.cps.size := by rw [Array.length_toList]; exact hacc.1
  refine wpAny_bind (wpAny_newList ?_ (by rw [hlen, sizeLine_16]; omega))
  have hoL : (s'.heap.push (seqObj "list" acc.toList.toArray 0)).get? s'.heap.objs.size = some (seqObj "list" acc.toList.toArray 0) := Heap.get?_push_size _ rfl
  refine wpAny_bind (wpAny_holding (wpAny_call_entry slot_list_sort ⟨_, hoL, rfl⟩ entry_list_sort
    (list_sort_treeK strKind_oneLt hoL hS.keysOf (fun v₁ v₂ rest e => keyKind_strs (by rw [← e]; exact hS)) (by rw [hlen]; exact hx) fun st' a1 a2 => ⟨_, rfl, ?_⟩) (args_list_sort _)))
  refine wpAny_pure ⟨_, rfl, ?_⟩
  obtain ⟨ys, g1, g2, g3⟩ := sorted_out_str hS a1 a2
  obtain ⟨ep, he'⟩ := sortedHeap_at (vs := acc.toList) (out := (arrOf st').map (·.2)) hoL
  have e : ({ s' with heap := sortedHeap (s'.heap.push (seqObj "list" acc.toList.toArray 0)) s'.heap.objs.size acc.toList ((arrOf st').map (·.2)) } : Shared) = { s with heap := sortedHeap (s'.heap.push (seqObj "list" acc.toList.toArray 0)) s'.heap.objs.size acc.toList ((arrOf st').map (·.2)), toks := s'.toks } := by
    cases s
    cases s'
    simp only at hg hd ho
    subst hg
    subst hd
    subst ho
    rfl
  rw [e]
  refine h s'.heap _ _ ys _ ep hk (fun b o hb => ?_) he' g1 g2 g3
  have hb2 := Heap.get?_push_of_some (seqObj "list" acc.toList.toArray 0) hb
  rw [sortedHeap_old (Nat.ne_of_lt (Heap.lt_size hb)) (Heap.lt_size hb2)]
  exact hb2
end
def sortT (l : List Nat) : List (List Nat) := sortS (charsL l)
def sortTM (l : List Nat) : Option (List (List Nat)) := if decide (l.length < 64) = true then some (sortT l) else none
def rSortT' : RC := fun xs H Q => ∃ z : Str, xs = [.str z] ∧ z.length < 64 ∧ ∀ (ys : List Str) (p : Addr), ys.Perm (z.cps.toList.map sgn) → sortedS ys = true → H p = none → Q (.ref p) (upd H p (.lst (ys.map V.str)))
theorem cr_sortedTx {X : Cx} (hc : X.calm = true) : CallR X (.builtin "sorted") rSortT' := by
  intro pins s σ H xs us Q I r h
  obtain ⟨z, rfl, h64, q⟩ := h
  obtain ⟨u, rfl, t, rfl⟩ := vals1 r
  refine sorted_text (I.ok.hd hc) h64 fun h0 h' tk ys its ep hk0 hk he h1 h2 h3 => ?_
  have hlen : (ys.map V.str).length ≤ sizeLine := by
    rw [List.length_map, h2.length_eq, List.length_map, Array.length_toList, sizeLine_16]
    have : z.cps.size < 64 := h64
    omega
  have I1 : Inv X pins σ H { s with heap := h0, toks := tk } := I.kept (t' := tk) hk0
  exact ⟨.ref h0.objs.size, upd H h0.objs.size (.lst (ys.map V.str)), I1.laid (t' := tk) hk (Nat.le_refl _) ⟨hlen, its.toList, ep, vals_of_strs h1, by rw [Array.toArray_toList]; exact he⟩, rfl, q ys _ h2 h3 (I1.hok.fresh (Nat.le_refl _))⟩
section
variable {H G : Hp}
theorem sgn_chars (l : List Nat) : l.map sgn = (charsL l).map sS := by
  unfold charsL
  rw [List.map_map]
  apply List.map_congr_left
  intro c _
  rfl
theorem k_sortT {l : List Nat} {ys : List (List Nat)} (e : sortTM l = some ys) : ∀ Q : VK, (∀ p, H p = none → Q (.ref p) (upd H p (.lst (ys.map vS)))) → rSortT' [vS l] H Q := by
  obtain ⟨c, rfl⟩ := guardS e
  refine fun Q q => ⟨sS l, rfl, by rw [sS_len]; exact c, fun ys p h1 h2 h3 => ?_⟩
  rw [sS_list, sgn_chars] at h1
  rw [sortS_same h1 h2, ← vS_map]
  exact q p h3
theorem sortT_ok {l : List Nat} {ys : List (List Nat)} (h : OkS l) (e : sortTM l = some ys) : All2 pS G ys (ys.map vS) := by
  obtain ⟨c, rfl⟩ := guardS e
  refine All2.ofStr _ _ fun x hx => ?_
  have hx := (sortS_perm _).mem_iff.mp hx
  obtain ⟨i, hi⟩ := List.getElem?_of_mem hx
  exact str_ok h hi
theorem sortT_len {l : List Nat} {ys : List (List Nat)} (e : sortTM l = some ys) : ys.length ≤ sizeLine := by
  obtain ⟨c, rfl⟩ := guardS e
  unfold sortT
  rw [(sortS_perm _).length_eq, charsL_length, sizeLine_16]; omega
end
/-! list(text) -/
def rListT : RC := fun xs H Q => ∃ z : Str, xs = [.str z] ∧ z.length ≤ sizeLine ∧ ∀ p, H p = none → Q (.ref p) (upd H p (.lst ((z.cps.toList.map sgn).map V.str)))
theorem call_listT {X : Cx} (hc : X.calm = true) : CallR X (.type "list") rListT := by
  intro pins s σ H xs us Q I r h
  obtain ⟨z, rfl, hz, q⟩ := h
  obtain ⟨u, rfl, t, rfl⟩ := vals1 r
  refine call_list_str (I.ok.hd hc) z t (fun h' tk acc c' hk he hacc => ?_) hz
  have hS := strs_of_items hacc
  have hlen : ((z.cps.toList.map sgn).map V.str).length ≤ sizeLine := by rw [List.length_map, List.length_map, Array.length_toList]; exact hz
  exact ⟨.ref _, upd H s.heap.objs.size (.lst ((z.cps.toList.map sgn).map V.str)), I.laid (t' := tk) hk (Nat.le_refl _) ⟨hlen, acc.toList, c', vals_of_strs hS, by rw [Array.toArray_toList]; exact he⟩, rfl, q _ (I.hok.fresh (Nat.le_refl _))⟩
section
variable {H G : Hp}
theorem k_listT {l : List Nat} (h : OkS l) : ∀ Q : VK, (∀ p, H p = none → Q (.ref p) (upd H p (.lst ((charsL l).map vS)))) → rListT [vS l] H Q := by
  refine fun Q q => ⟨sS l, rfl, by rw [sS_len]; exact h.len, fun p h3 => ?_⟩
  rw [sS_list, sgn_chars, ← vS_map]
  exact q p h3
theorem chars_ok {l : List Nat} (h : OkS l) : All2 pS G (charsL l) ((charsL l).map vS) := by
  refine All2.ofStr _ _ fun x hx => ?_
  obtain ⟨i, hi⟩ := List.getElem?_of_mem hx
  exact str_ok h hi
theorem chars_len {l : List Nat} (h : OkS l) : (charsL l).length ≤ sizeLine := by rw [charsL_length]; exact h.len
end
end MK

namespace MK
open PySem PySem.Spec L2
theorem rgV_eq (a b : Int) : rgV a b = (rangeL a (b - a).toNat).map V.int := by
  unfold rgV rangeL
  rw [List.map_map]
  rfl
section
variable {H : Hp} {ta tb : TE} {σ : St} {Q : VK}
theorem cps_lrg1 (h : ta σ H fun x H1 => ∃ n, x = .int n ∧ RgOk 0 n ∧ ∀ q, H1 q = none → Q (.ref q) (upd H1 q (.lst (rgV 0 n)))) : tLstRg (tRg1 ta) σ H Q := h
theorem cps_lrg2 (h : ta σ H fun x H1 => tb σ H1 fun y H2 => ∃ i j, x = .int i ∧ y = .int j ∧ RgOk i j ∧ ∀ q, H2 q = none → Q (.ref q) (upd H2 q (.lst (rgV i j)))) : tLstRg (tRg2 ta tb) σ H Q := h
theorem k_lrg1 {n : Int} {xs : List Int} (e : rng1M n = some xs) (k : ∀ q, H q = none → Q (.ref q) (upd H q (.lst (xs.map V.int)))) : ∃ m, V.int n = .int m ∧ RgOk 0 m ∧ ∀ q, H q = none → Q (.ref q) (upd H q (.lst (rgV 0 m))) := by
  obtain ⟨c, hx⟩ := guardS e
  subst hx
  rw [sizeLine_16] at c
  refine ⟨n, rfl, ⟨by omega, by omega, by omega, by omega, by omega⟩, fun q hq => ?_⟩
  rw [rgV_eq, show (n - 0).toNat = n.toNat by omega]
  exact k q hq
theorem k_lrg2 {i j : Int} {xs : List Int} (e : rngM i j = some xs) (k : ∀ q, H q = none → Q (.ref q) (upd H q (.lst (xs.map V.int)))) : ∃ a b, V.int i = .int a ∧ V.int j = .int b ∧ RgOk a b ∧ ∀ q, H q = none → Q (.ref q) (upd H q (.lst (rgV a b))) := by
  obtain ⟨c, hx⟩ := guardS e
  subst hx
  rw [sizeLine_16] at c
  refine ⟨i, j, rfl, rfl, ⟨by omega, by omega, by omega, by omega, by omega⟩, fun q hq => ?_⟩
  rw [rgV_eq]
  exact k q hq
theorem lrg1_len {n : Int} {xs : List Int} (e : rng1M n = some xs) : xs.length ≤ sizeLine := by
  obtain ⟨c, hx⟩ := guardS e
  subst hx
  rw [rangeL_len]; omega
theorem lrg2_len {i j : Int} {xs : List Int} (e : rngM i j = some xs) : xs.length ≤ sizeLine := by
  obtain ⟨c, hx⟩ := guardS e
  subst hx
  rw [rangeL_len]; omega
/-! pop, insert, extend, reverse -/
def popM {α : Type} (xs : List α) : Option (α × List α) := (xs[xs.length - 1]?).map fun y => (y, xs.dropLast)
def popAtM {α : Type} (xs : List α) (i : Int) : Option (α × List α) := if decide (-(2 ^ 63) ≤ i ∧ i < 2 ^ 63) = true then (L2.ixN xs.length i).bind fun k => (xs[k]?).map fun y => (y, xs.eraseIdx k) else none
def extM {α : Type} (xs ys : List α) : Option (List α) := if decide (xs.length + ys.length ≤ sizeLine) = true then some (xs ++ ys) else none
def insM {α : Type} (xs : List α) (i : Int) (y : α) : Option (List α) := if decide (xs.length < sizeLine ∧ 0 ≤ i ∧ i < 2 ^ 63) = true then some (xs.take i.toNat ++ [y] ++ xs.drop i.toNat) else none
variable {α : Type} {R : Rep α} {G : Hp}
theorem All2.dropLast {xs : List α} {vs : List V} (h : All2 R G xs vs) : All2 R G xs.dropLast vs.dropLast := by
  induction h with
  | nil => exact .nil
  | @cons x v xs vs h t ih =>
    cases t with
    | nil => exact .nil
    | cons h2 t2 => exact .cons h ih
theorem All2.eraseIdx {xs : List α} {vs : List V} (h : All2 R G xs vs) : ∀ k : Nat, All2 R G (xs.eraseIdx k) (vs.eraseIdx k) := by
  induction h with
  | nil => intro k; cases k <;> exact .nil
  | @cons x v xs vs h t ih =>
    intro k
    cases k with
    | zero => exact t
    | succ k => exact .cons h (ih k)
theorem pop_all {xs ys : List α} {vs : List V} {x : α} (ha : All2 R G xs vs) (e : popM xs = some (x, ys)) : ∃ w, vs[vs.length - 1]? = some w ∧ R x w G ∧ All2 R G ys vs.dropLast ∧ ys.length ≤ xs.length := by
  unfold popM at e
  cases h : xs[xs.length - 1]? with
  | none => rw [h] at e; cases e
  | some z =>
    rw [h] at e
    cases e
    obtain ⟨w, h1, h2⟩ := ha.get h
    refine ⟨w, by rw [← All2.len ha]; exact h1, h2, ha.dropLast, by rw [List.length_dropLast]; omega⟩
theorem popAt_all {xs ys : List α} {vs : List V} {x : α} {i : Int} (ha : All2 R G xs vs) (e : popAtM xs i = some (x, ys)) : ∃ k w, (-(2 ^ 63) ≤ i ∧ i < 2 ^ 63) ∧ seqIndex? i vs.length = some k ∧ vs[k]? = some w ∧ R x w G ∧ All2 R G ys (vs.eraseIdx k) ∧ ys.length ≤ xs.length := by
  unfold popAtM at e
  by_cases c : -(2 ^ 63) ≤ i ∧ i < 2 ^ 63
  · rw [if_pos (decide_eq_true c)] at e
    obtain ⟨k, e1, e2⟩ := bindS e
    cases h : xs[k]? with
    | none => rw [h] at e2; cases e2
    | some z =>
      rw [h] at e2
      cases e2
      obtain ⟨w, h1, h2⟩ := ha.get h
      rw [All2.len ha] at e1
      exact ⟨k, w, c, (L2.ixN_seq e1).1, h1, h2, ha.eraseIdx k, List.length_eraseIdx_le _ _⟩
  · rw [if_neg (by simpa using c)] at e
    cases e
theorem pop_hw {a : Addr} {vs : List V} {w : V} (h : H a = some (.lst vs)) (hw : vs[vs.length - 1]? = some w) (k : Q w (upd H a (.lst vs.dropLast))) : rPop (.ref a) [] H Q := ⟨a, vs, w, rfl, rfl, h, hw, k⟩
theorem popAt_hw {a : Addr} {vs : List V} {w : V} {i : Int} {k : Nat} (h : H a = some (.lst vs)) (hi : -(2 ^ 63) ≤ i ∧ i < 2 ^ 63) (hk : seqIndex? i vs.length = some k) (hw : vs[k]? = some w) (q : Q w (upd H a (.lst (vs.eraseIdx k)))) : rPopAt (.ref a) [.int i] H Q :=
  ⟨a, vs, i, k, w, rfl, rfl, h, hi.1, hi.2, hk, hw, q⟩
theorem ext_hw {a b : Addr} {vs ws : List V} (h : H a = some (.lst vs)) (h2 : H b = some (.lst ws)) (hl : vs.length + ws.length ≤ sizeLine) (q : Q .non (upd H a (.lst (vs ++ ws)))) : rExtend (.ref a) [.ref b] H Q :=
  ⟨a, b, vs, ws, rfl, rfl, h, h2, hl, q⟩
theorem rev_hw {a : Addr} {vs : List V} (h : H a = some (.lst vs)) (q : Q .non (upd H a (.lst vs.reverse))) : rReverse (.ref a) [] H Q := ⟨a, vs, rfl, rfl, h, q⟩
theorem ext_all {xs ys zs : List α} {vs ws : List V} (ha : All2 R G xs vs) (hb : All2 R G ys ws) (e : extM xs ys = some zs) : vs.length + ws.length ≤ sizeLine ∧ All2 R G zs (vs ++ ws) ∧ zs.length ≤ sizeLine := by
  obtain ⟨c, rfl⟩ := guardS e
  exact ⟨by rw [← All2.len ha, ← All2.len hb]; exact c, All2.app ha hb, by rw [List.length_append]; exact c⟩
theorem isiOn {K : PySem.W.Frag} {v : V} {o : Option α} {t n : String} (h : pO R o v H) (hs : ∀ x, R x v H → TyX K H v (.type t)) (k1 : kitB t n = some false) (k2 : kitB "NoneType" n = some false) : ∀ Q : VK, Q (.bl false) H → rIsi K [v, .ty n] H Q := by
  cases o with
  | none =>
    rw [show v = .non from h]
    exact isiT tyN k2
  | some x => exact isiT (hs x h) k1
def rRevL2 (K : PySem.W.Frag) : V → Hp → VK → Prop := fun x H Q => ∃ a xs, x = .ref a ∧ SqL K H a xs ∧ ∀ p, H p = none → Q (.ref p) (upd H p (.lst xs.reverse))
theorem cps_revL2 {K : PySem.W.Frag} {te : TE} (h : te σ H fun x H1 => rRevL2 K x H1 Q) : tRevL K te σ H Q := h
theorem k_revL2 {K : PySem.W.Frag} {v : V} {xs : List α} (h : ∃ vs, GotL R G H xs v vs) : ∃ vs, All2 R G xs.reverse vs ∧ xs.reverse.length ≤ sizeLine ∧ ∀ Q : VK, (∀ p, H p = none → Q (.ref p) (upd H p (.lst vs))) → rRevL2 K v H Q := k_revL h
def downL (lo : Int) (n : Nat) : List Int := (List.range n).map fun (i : Nat) => lo + (i : Int) * (-1)
def rngDM (i j : Int) : Option (List Int) := if decide (-(2 ^ 62) ≤ i ∧ i < 2 ^ 62 ∧ -(2 ^ 62) ≤ j ∧ j < 2 ^ 62 ∧ i - j ≤ sizeLine) = true then some (downL i (i - j).toNat) else none
theorem rngD_ok {i j : Int} {xs : List Int} (h : rngDM i j = some xs) : RgC i j (-1) (i - j).toNat ∧ xs = downL i (i - j).toNat ∧ (i - j).toNat ≤ sizeLine := by
  obtain ⟨c, rfl⟩ := guardS h
  exact ⟨RgC.neg c.1 c.2.1 c.2.2.1 c.2.2.2.1, rfl, by omega⟩
theorem downL_len (lo : Int) (n : Nat) : (downL lo n).length = n := by simp [downL]
theorem rngD_item {lo : Int} {n i : Nat} {x : Int} {v : V} {H' : Hp} (hx : (downL lo n)[i]? = some x) (hy : YFn (fun i => .int (lo + (i : Nat) * (-1))) i H v H') : H' = H ∧ v = .int x := by
  unfold downL at hx
  rw [List.getElem?_map] at hx
  by_cases hi : i < n
  · rw [List.getElem?_range hi] at hx
    cases hx
    exact hy
  · rw [List.getElem?_eq_none (by simp; omega)] at hx
    cases hx
theorem cps_rng3 {R : It → Hp → Prop} {ta : TA} (h : ta σ H fun vs H1 => ∃ (i j c : Int) (n : Nat), vs = [.int i, .int j, .int c] ∧ RgC i j c n ∧ R (Itc i c n) H1) : iRng3 ta σ H R := h
theorem tyIp {K : PySem.W.Frag} {x : Int} {v : V} (h : pI x v H) : TyX K H v (.type "int") := by
  have e : v = .int x := h
  rw [e]; exact tyI x
theorem tyBp {K : PySem.W.Frag} {x : Bool} {v : V} (h : pB x v H) : TyX K H v (.type "bool") := by
  have e : v = .bl x := h
  rw [e]; exact tyB x
theorem tySp {K : PySem.W.Frag} {x : List Nat} {v : V} (h : pS x v H) : TyX K H v (.type "str") := by
  rw [h.1]; exact tyS x
end
end MK

namespace MN
open PySem L2 MK
/-- it ends, and what it gives has the property -/
def Hd {α : Type} (o : Option α) (P : α → Prop) : Prop := ∃ x, o = some x ∧ P x
section
variable {α β σ ρ : Type}
theorem Hd.bind {o : Option α} {f : α → Option β} {P : α → Prop} {Q : β → Prop} (h : Hd o P) (k : ∀ x, P x → Hd (f x) Q) : Hd (o.bind f) Q := by
  obtain ⟨x, rfl, hx⟩ := h
  exact k x hx
theorem Hd.step {o : Option α} {x : α} {f : α → Option β} {Q : β → Prop} (e : o = Option.some x) (h : Hd (f x) Q) : Hd (o.bind f) Q := by rw [e]; exact h
theorem Hd.ret {x : α} {P : α → Prop} (h : P x) : Hd (some x) P := ⟨x, rfl, h⟩
theorem Hd.sb {x : α} {f : α → Option β} {Q : β → Prop} (h : Hd (f x) Q) : Hd ((some x).bind f) Q := h
theorem Hd.mono {o : Option α} {P Q : α → Prop} (h : Hd o P) (k : ∀ x, P x → Q x) : Hd o Q := by
  obtain ⟨x, e, hx⟩ := h
  exact ⟨x, e, k x hx⟩
theorem Hd.eq {o : Option α} {x : α} (h : o = some x) : Hd o (· = x) := ⟨x, h, rfl⟩
theorem Hd.to {o : Option α} {x : α} (h : Hd o (· = x)) : o = some x := by
  obtain ⟨y, e, rfl⟩ := h
  exact e
theorem Hd.ite {b : Bool} {A B : Option α} {P : α → Prop} (h1 : b = true → Hd A P) (h2 : b = false → Hd B P) : Hd (if b = true then A else B) P := by
  cases b with
  | true => exact h1 rfl
  | false => exact h2 rfl
theorem Hd.ited {c : Prop} [Decidable c] {A B : Option α} {P : α → Prop} (h1 : c → Hd A P) (h2 : ¬c → Hd B P) : Hd (if decide c = true then A else B) P := by
  by_cases h : c
  · rw [if_pos (decide_eq_true h)]; exact h1 h
  · rw [if_neg (by simpa using h)]; exact h2 h
theorem Hd.nd {c : Prop} [Decidable c] {x : α} {P : α → Prop} (h : c) (hp : P x) : Hd (if decide c = true then Option.some x else none) P := by
  rw [if_pos (decide_eq_true h)]; exact ⟨x, rfl, hp⟩
theorem hd_mod {i j : Int} (h : 0 < j) : Hd (modM i j) (fun r => r = i % j ∧ 0 ≤ r ∧ r < j) := Hd.nd h ⟨rfl, Int.emod_nonneg _ (by omega), Int.emod_lt_of_pos _ h⟩
theorem hd_fdiv {i j : Int} (h : 0 < j) (h2 : j < 1073741824) : Hd (fdivM i j) (fun r => r = i / j) := Hd.nd ⟨h, h2⟩ rfl
theorem log_lt {i : Int} {n : Nat} (h : i.natAbs < 2 ^ n) : i.natAbs.log2 ≤ n := by
  by_cases z : i.natAbs = 0
  · rw [z]; simp
  · exact Nat.le_of_lt ((Nat.log2_lt z).mpr h)
theorem hd_mul {i j : Int} {n m : Nat} (h : i.natAbs < 2 ^ n) (h2 : j.natAbs < 2 ^ m) (k : n + m < 1000000) : Hd (mulM i j) (fun r => r = i * j) := by
  have a := log_lt h
  have b := log_lt h2
  exact Hd.nd (by omega) rfl
theorem hd_mul_s {i j : Int} (h : -(2 ^ 64) < i ∧ i < 2 ^ 64) (h2 : -(2 ^ 64) < j ∧ j < 2 ^ 64) : Hd (mulM i j) (fun r => r = i * j) :=
  hd_mul (n := 64) (m := 64) (by omega) (by omega) (by omega)
theorem bits_le {i : Int} {n : Nat} (h : i.natAbs < 2 ^ n) : Builtin.Int.intBits i ≤ n := by
  unfold Builtin.Int.intBits
  split
  · omega
  · rename_i hz
    have := (Nat.log2_lt (n := i.natAbs) (k := n) (by simpa using hz)).mpr h
    omega
theorem hd_pow {i j : Int} (h : i.natAbs < 2 ^ 64) (h0 : 0 ≤ j) (h1 : j ≤ 64) : Hd (powM i j) (fun r => r = i ^ j.toNat) := by
  have a := bits_le h
  refine Hd.nd ⟨h0, ?_⟩ rfl
  have e : (Builtin.Int.intBits i : Int) * j ≤ 64 * 64 := Int.mul_le_mul (by omega) h1 h0 (by omega)
  omega
theorem hd_cat {a b : List Nat} (h : a.length + b.length ≤ 16777216) : Hd (catM a b) (fun r => r = a ++ b) := Hd.nd (by rw [sizeLine_16]; exact h) rfl
theorem hd_rep {l : List Nat} {n : Int} {m k : Nat} (h1 : l.length ≤ m) (h2 : n ≤ k) (h3 : -(2 ^ 63) ≤ n) (h4 : k < 2 ^ 62) (h5 : m * k ≤ 16777216) : Hd (repM l n) (fun r => r = (List.replicate n.toNat l).flatten ∧ r.length = n.toNat * l.length) := by
  refine Hd.nd ⟨h3, by omega, ?_⟩ ⟨rfl, ?_⟩
  · rw [sizeLine_16]
    exact Nat.le_trans (Nat.mul_le_mul h1 (by omega)) h5
  · rw [List.length_flatten, List.map_replicate, List.sum_replicate_nat]
theorem hd_rng1 {n : Int} (h1 : -(2 ^ 60) ≤ n) (h : n ≤ 16777216) : Hd (rng1M n) (fun r => r = rangeL 0 n.toNat) := Hd.nd (by rw [sizeLine_16]; omega) rfl
theorem hd_rng {lo hi : Int} (h1 : -(2 ^ 60) ≤ lo) (h2 : -(2 ^ 60) ≤ hi) (h3 : lo < 2 ^ 60) (h4 : hi < 2 ^ 60) (h : hi - lo ≤ 16777216) : Hd (rngM lo hi) (fun r => r = rangeL lo (hi - lo).toNat) := Hd.nd (by rw [sizeLine_16]; omega) rfl
theorem mem_rangeL {x lo : Int} {n : Nat} : x ∈ rangeL lo n ↔ lo ≤ x ∧ x < lo + n := by
  unfold rangeL
  rw [List.mem_map]
  constructor
  · rintro ⟨i, hi, rfl⟩
    have := List.mem_range.mp hi
    omega
  · rintro ⟨h1, h2⟩
    exact ⟨(x - lo).toNat, List.mem_range.mpr (by omega), by omega⟩
theorem ix_at {xs : List α} {i : Int} (h0 : 0 ≤ i) (h1 : i < xs.length) : ∃ x, idxM xs i = some x ∧ xs[i.toNat]? = some x := by
  have hl : i.toNat < xs.length := by omega
  refine ⟨xs[i.toNat], ?_, by simp [hl]⟩
  unfold idxM L2.atI
  have e : L2.ixN xs.length i = some i.toNat := by
    unfold L2.ixN
    rw [if_pos h0, if_pos h1]
  rw [e]
  show xs[i.toNat]? = _
  simp [hl]
theorem hd_idx {xs : List α} {i : Int} (h0 : 0 ≤ i) (h1 : i < xs.length) : Hd (idxM xs i) (fun x => x ∈ xs ∧ xs[i.toNat]? = some x) := by
  obtain ⟨x, e, e2⟩ := ix_at h0 h1
  exact ⟨x, e, List.mem_of_getElem? e2, e2⟩
theorem hd_sidx {l : List Nat} {i : Int} (h0 : 0 ≤ i) (h1 : i < l.length) : Hd (sidxM l i) (fun t => t.length = 1 ∧ ∃ c, c ∈ l ∧ t = [c] ∧ l[i.toNat]? = some c) := by
  obtain ⟨c, e, e2⟩ := ix_at h0 h1
  unfold sidxM
  have e' : L2.atI l i = some c := e
  rw [e']
  exact ⟨[c], rfl, rfl, c, List.mem_of_getElem? e2, rfl, e2⟩
theorem hd_join {s : List Nat} {ys : List (List Nat)} (h : (ys.map List.length).sum + ys.length * s.length ≤ 16777216) : Hd (joinM s ys) (fun r => r = TL.joinL s ys) := Hd.nd h rfl
theorem joinL_nil : ∀ ys : List (List Nat), TL.joinL [] ys = ys.flatten
  | [] => rfl
  | [p] => by simp [TL.joinL]
  | p :: q :: r => by
    rw [TL.joinL, joinL_nil (q :: r)]
    simp
theorem hd_app {xs : List α} {y : α} (h : xs.length < 16777216) : Hd (appM xs y) (fun r => r = xs ++ [y]) := Hd.nd (by rw [sizeLine_16]; exact h) rfl
theorem hd_catL {a b : List α} (h : a.length + b.length ≤ 16777216) : Hd (catLM a b) (fun r => r = a ++ b) := Hd.nd (by rw [sizeLine_16]; exact h) rfl
/-! loops -/
theorem Hd.foldO {f : α → σ → Option σ} {I : σ → Prop} : ∀ {xs : List α} {s : σ}, I s → (∀ x ∈ xs, ∀ s, I s → Hd (f x s) I) → Hd (MK.foldO f xs s) I
  | [], s, h, _ => ⟨s, rfl, h⟩
  | x :: xs, s, h, k => Hd.bind (k x (by simp) s h) fun s' h' => Hd.foldO h' fun y hy => k y (List.mem_cons_of_mem _ hy)
/-- a loop that neither breaks nor leaves -/
theorem Hd.loopN {f : α → σ → Option (Ctl ρ σ)} {I : σ → Prop} : ∀ {xs : List α} {s : σ}, I s → (∀ x ∈ xs, ∀ s, I s → Hd (f x s) (fun c => ∃ s', c = .nx s' ∧ I s')) → Hd (MK.loopM f xs s) (fun c => ∃ s', c = .nx s' ∧ I s')
  | [], s, h, _ => ⟨.nx s, rfl, s, rfl, h⟩
  | x :: xs, s, h, k => by
    refine Hd.bind (k x (by simp) s h) ?_
    rintro _ ⟨s', rfl, h'⟩
    exact Hd.loopN h' fun y hy => k y (List.mem_cons_of_mem _ hy)
/-- a loop with every way out -/
theorem Hd.loopM {f : α → σ → Option (Ctl ρ σ)} {I B : σ → Prop} {R : ρ → Prop} : ∀ {xs : List α} {s : σ}, I s → (∀ x ∈ xs, ∀ s, I s → Hd (f x s) (fun c => match c with | .nx s' => I s' | .bk s' => B s' | .rt r => R r)) → Hd (MK.loopM f xs s) (fun c => match c with | .nx s' => I s' ∨ B s' | .bk _ => False | .rt r => R r)
  | [], s, h, _ => ⟨.nx s, rfl, .inl h⟩
  | x :: xs, s, h, k => by
    refine Hd.bind (k x (by simp) s h) ?_
    intro c hc
    match c, hc with
    | .nx s', h' => exact Hd.loopM h' fun y hy => k y (List.mem_cons_of_mem _ hy)
    | .bk s', h' => exact ⟨.nx s', rfl, .inr h'⟩
    | .rt r, h' => exact ⟨.rt r, rfl, h'⟩
theorem Hd.ctl {X : Type} {c : Ctl X σ} {k : σ → Option X} {I : σ → Prop} {P : X → Prop} (h : ∃ s', c = .nx s' ∧ I s') (hk : ∀ s, I s → Hd (k s) P) : Hd (ctlK c k) P := by
  obtain ⟨s', rfl, h'⟩ := h
  exact hk s' h'
/-- comprehensions -/
theorem Hd.mapP {f : α → Option β} {P : β → Prop} : ∀ {xs : List α}, (∀ x ∈ xs, Hd (f x) P) → Hd (MK.mapP f xs) (fun ys => ys.length = xs.length ∧ ∀ y ∈ ys, P y)
  | [], _ => ⟨[], rfl, rfl, by simp⟩
  | x :: xs, k => by
    refine Hd.bind (k x (by simp)) fun y hy => Hd.bind (Hd.mapP fun z hz => k z (List.mem_cons_of_mem _ hz)) fun ys h => ⟨_, rfl, by simp [h.1], ?_⟩
    intro z hz
    rcases List.mem_cons.mp hz with rfl | hz
    · exact hy
    · exact h.2 z hz
theorem mapP_fn {f : α → Option β} {g : α → β} : ∀ {xs : List α}, (∀ x ∈ xs, f x = some (g x)) → MK.mapP f xs = some (xs.map g)
  | [], _ => rfl
  | x :: xs, k => by
    unfold MK.mapP
    rw [k x (by simp), Option.bind_some, mapP_fn fun z hz => k z (List.mem_cons_of_mem _ hz)]
    rfl
theorem lcP_fn {f : α → Option (Option β)} {g : α → Option β} : ∀ {xs : List α}, (∀ x ∈ xs, f x = some (g x)) → MK.lcP f xs = some (xs.filterMap g)
  | [], _ => rfl
  | x :: xs, k => by
    unfold MK.lcP
    rw [k x (by simp), Option.bind_some, lcP_fn fun z hz => k z (List.mem_cons_of_mem _ hz), Option.bind_some, List.filterMap_cons]
    cases g x <;> rfl
theorem Hd.lcP {f : α → Option (Option β)} {P : β → Prop} : ∀ {xs : List α}, (∀ x ∈ xs, Hd (f x) (fun r => ∀ y, r = Option.some y → P y)) → Hd (MK.lcP f xs) (fun ys => ys.length ≤ xs.length ∧ ∀ y ∈ ys, P y)
  | [], _ => ⟨[], rfl, Nat.le_refl _, by simp⟩
  | x :: xs, k => by
    refine Hd.bind (k x (by simp)) fun y hy => Hd.bind (Hd.lcP fun z hz => k z (List.mem_cons_of_mem _ hz)) fun ys h => ⟨_, rfl, ?_⟩
    cases y with
    | none => exact ⟨by have := h.1; simp; omega, h.2⟩
    | some y =>
      refine ⟨by have := h.1; simp; omega, ?_⟩
      intro z hz
      rcases List.mem_cons.mp hz with rfl | hz
      · exact hy _ rfl
      · exact h.2 z hz
theorem Hd.lcS {f : α → σ → Option (Option β × σ)} {I : σ → Prop} {P : β → Prop} : ∀ {xs : List α} {s : σ}, I s → (∀ x ∈ xs, ∀ s, I s → Hd (f x s) (fun r => I r.2 ∧ ∀ y, r.1 = Option.some y → P y)) → Hd (MK.lcS f xs s) (fun r => I r.2 ∧ r.1.length ≤ xs.length ∧ ∀ y ∈ r.1, P y)
  | [], s, h, _ => ⟨([], s), rfl, h, Nat.le_refl _, by simp⟩
  | x :: xs, s, h, k => by
    refine Hd.bind (k x (by simp) s h) fun y hy => Hd.bind (Hd.lcS hy.1 fun z hz => k z (List.mem_cons_of_mem _ hz)) fun ys h => ⟨_, rfl, ?_⟩
    obtain ⟨o, s'⟩ := y
    cases o with
    | none => exact ⟨h.1, by have := h.2.1; simp; omega, h.2.2⟩
    | some y =>
      refine ⟨h.1, by have := h.2.1; simp; omega, ?_⟩
      intro z hz
      rcases List.mem_cons.mp hz with rfl | hz
      · exact hy.2 _ rfl
      · exact h.2.2 z hz
/-- with each item kept -/
theorem Hd.lcSA {f : α → σ → Option (Option β × σ)} {I : σ → Prop} {P : β → Prop} : ∀ {xs : List α} {s : σ}, I s → (∀ x ∈ xs, ∀ s, I s → Hd (f x s) (fun r => I r.2 ∧ ∃ y, r.1 = Option.some y ∧ P y)) → Hd (MK.lcS f xs s) (fun r => I r.2 ∧ r.1.length = xs.length ∧ ∀ y ∈ r.1, P y)
  | [], s, h, _ => ⟨([], s), rfl, h, rfl, by simp⟩
  | x :: xs, s, h, k => by
    refine Hd.bind (k x (by simp) s h) fun y hy => Hd.bind (Hd.lcSA hy.1 fun z hz => k z (List.mem_cons_of_mem _ hz)) fun ys h => ⟨_, rfl, ?_⟩
    obtain ⟨o, s'⟩ := y
    obtain ⟨h1, y, h2, h3⟩ := hy
    cases h2
    refine ⟨h.1, by have := h.2.1; simp; omega, ?_⟩
    intro z hz
    rcases List.mem_cons.mp hz with rfl | hz
    · exact h3
    · exact h.2.2 z hz
/-! cuts -/
theorem cutL_len_le {xs : List α} {lo hi : Option Int} : (cutL xs lo hi).length ≤ xs.length := by
  unfold cutL
  rw [List.length_take, List.length_drop]
  omega
theorem sIx_in {n : Nat} {d : Nat} {i : Int} (h0 : 0 ≤ i) : HT.sIx n d (some i) = min i.toNat n := by
  unfold HT.sIx
  simp only [if_neg (show ¬ i < 0 by omega)]
  try omega
theorem cutL_hi {xs : List α} {i : Int} (h : 0 ≤ i) : cutL xs none (some i) = xs.take i.toNat := by
  unfold cutL
  rw [sIx_in h]
  have e : HT.sIx xs.length 0 none = 0 := rfl
  rw [e, List.drop_zero, Nat.sub_zero]
  by_cases g : i.toNat ≤ xs.length
  · rw [Nat.min_eq_left g]
  · rw [Nat.min_eq_right (by omega), List.take_of_length_le (by omega), List.take_of_length_le (by omega)]
theorem cutL_lo {xs : List α} {i : Int} (h : 0 ≤ i) : cutL xs (some i) none = xs.drop i.toNat := by
  unfold cutL
  rw [sIx_in h]
  have e : HT.sIx xs.length xs.length none = xs.length := rfl
  rw [e]
  by_cases g : i.toNat ≤ xs.length
  · rw [Nat.min_eq_left g, List.take_of_length_le (by rw [List.length_drop]; omega)]
  · rw [Nat.min_eq_right (by omega), Nat.sub_self, List.take_zero, List.drop_of_length_le (by omega)]
theorem cutL_mid {xs : List α} {i j : Int} (h : 0 ≤ i) (h2 : 0 ≤ j) : cutL xs (some i) (some j) = (xs.drop i.toNat).take (j.toNat - i.toNat) := by
  unfold cutL
  rw [sIx_in h, sIx_in h2]
  by_cases g : i.toNat ≤ xs.length
  · rw [Nat.min_eq_left g]
    by_cases g2 : j.toNat ≤ xs.length
    · rw [Nat.min_eq_left g2]
    · rw [Nat.min_eq_right (show xs.length ≤ j.toNat by omega), List.take_of_length_le (by rw [List.length_drop]; omega), List.take_of_length_le (by rw [List.length_drop]; omega)]
  · rw [Nat.min_eq_right (show xs.length ≤ i.toNat by omega), List.drop_of_length_le (Nat.le_refl _), List.drop_of_length_le (show xs.length ≤ i.toNat by omega), List.take_nil, List.take_nil]
end
end MN

namespace MN
open PySem L2 MK
/-- y stands in x at place i -/
def At (x y : List Nat) (i : Nat) : Prop := (x.drop i).take y.length = y
theorem At.le {x y : List Nat} {i : Nat} (h : At x y i) (hy : 1 ≤ y.length) : i + y.length ≤ x.length := by
  have h := congrArg List.length h
  rw [List.length_take, List.length_drop] at h
  omega
theorem inS_iff (y x : List Nat) : inS y x = true ↔ ∃ i, i + y.length ≤ x.length ∧ At x y i := by
  unfold inS
  rw [PySem.StrLaws.found_iff]
  constructor
  · rintro ⟨i, h1, h2⟩
    rw [PySem.StrLaws.subAt_eq] at h2
    rw [sS_list, sS_list] at h2
    rw [sS_len, sS_len] at h1
    refine ⟨i, h1, ?_⟩
    rw [sS_len] at h2
    exact eq_of_beq h2
  · rintro ⟨i, h1, h2⟩
    refine ⟨i, by rw [sS_len, sS_len]; exact h1, ?_⟩
    rw [PySem.StrLaws.subAt_eq, sS_list, sS_list, sS_len]
    exact beq_iff_eq.mpr h2
theorem whileF_ok {σ : Type} {c : σ → Option Bool} {f : σ → Option σ} {I : σ → Prop} (m : σ → Nat) (hc : ∀ s, I s → Hd (c s) (fun b => b = true → Hd (f s) (fun s' => I s' ∧ m s' < m s))) :
    ∀ (n : Nat) (s : σ), I s → m s < n → Hd (whileF c f n s) (fun s' => I s' ∧ c s' = some false)
  | 0, s, _, h => absurd h (Nat.not_lt_zero _)
  | n + 1, s, h, hm => by
    unfold whileF
    obtain ⟨b, e, hb⟩ := hc s h
    rw [e]
    show Hd (if b = true then (f s).bind (whileF c f n) else some s) _
    cases b with
    | false => exact ⟨s, rfl, h, e⟩
    | true =>
      show Hd ((f s).bind (whileF c f n)) _
      exact Hd.bind (hb rfl) fun s' hs' => whileF_ok m hc n s' hs'.1 (by omega)
/-- two folds step by step -/
theorem foldO_two {α σ τ : Type} {f : α → σ → Option σ} {g : α → τ → Option τ} {R : σ → τ → Prop} : ∀ {xs : List α} {s : σ} {t : τ}, R s t → (∀ x ∈ xs, ∀ s t, R s t → Hd (f x s) (fun s' => Hd (g x t) (fun t' => R s' t'))) →
    Hd (MK.foldO f xs s) (fun s' => Hd (MK.foldO g xs t) (fun t' => R s' t'))
  | [], s, t, h, _ => ⟨s, rfl, t, rfl, h⟩
  | x :: xs, s, t, h, k => by
    obtain ⟨s', e, t', e2, h'⟩ := k x (by simp) s t h
    obtain ⟨s2, e3, t2, e4, h2⟩ := foldO_two (xs := xs) h' fun y hy => k y (List.mem_cons_of_mem _ hy)
    exact ⟨s2, by unfold MK.foldO; rw [e]; exact e3, t2, by unfold MK.foldO; rw [e2]; exact e4, h2⟩
/-- an indexed fold: the state behind i turns -/
theorem foldO_ix {σ : Type} {f : Int → σ → Option σ} {I : Nat → σ → Prop} (n : Nat) {s : σ} (h : I 0 s) (k : ∀ i < n, ∀ s, I i s → Hd (f (i : Int) s) (I (i + 1))) : Hd (foldO f (rangeL 0 n) s) (I n) := by
  have key : ∀ (m j : Nat) (s : σ), j + m = n → I j s → Hd (foldO f (rangeL (j : Int) m) s) (I n) := by
    intro m
    induction m with
    | zero => intro j s e h; have : j = n := by omega
              subst this; exact ⟨s, rfl, h⟩
    | succ m ih =>
      intro j s e h
      have e1 : rangeL (j : Int) (m + 1) = (j : Int) :: rangeL ((j + 1 : Nat) : Int) m := by
        unfold rangeL
        rw [List.range_succ_eq_map, List.map_cons, List.map_map]
        congr 1
        apply List.map_congr_left
        intro x _
        show (j : Int) + ((x + 1 : Nat) : Int) = ((j + 1 : Nat) : Int) + (x : Int)
        omega
      rw [e1]
      unfold foldO
      refine Hd.bind (k j (by omega) s h) fun s' h' => ih (j + 1) s' (by omega) h'
  exact key n 0 s (by omega) h
theorem sum_le_len {ys : List (List Nat)} {n : Nat} (h : ∀ y ∈ ys, y.length ≤ n) : (ys.map List.length).sum ≤ n * ys.length := by
  induction ys with
  | nil => simp
  | cons y r ih =>
    rw [List.map_cons, List.sum_cons, List.length_cons, Nat.mul_succ]
    have := h y (by simp)
    have := ih fun z hz => h z (List.mem_cons_of_mem _ hz)
    omega
theorem sum_ones' {ys : List (List Nat)} (h : ∀ y ∈ ys, y.length = 1) : (ys.map List.length).sum = ys.length := by
  induction ys with
  | nil => rfl
  | cons y r ih =>
    rw [List.map_cons, List.sum_cons, List.length_cons, h y (by simp), ih fun z hz => h z (List.mem_cons_of_mem _ hz)]
    omega
theorem ix_neg1 {α : Type} {xs : List α} (h : 1 ≤ xs.length) : Hd (idxM xs (-1)) (fun x => x ∈ xs) := by
  have hl : xs.length - 1 < xs.length := by omega
  refine ⟨xs[xs.length - 1], ?_, List.getElem_mem hl⟩
  unfold idxM L2.atI
  have e : L2.ixN xs.length (-1) = some (xs.length - 1) := by
    unfold L2.ixN
    rw [if_neg (by omega), if_pos (by omega)]
    congr 1
    omega
  rw [e]
  show xs[xs.length - 1]? = _
  simp [hl]
end MN

namespace MN
open PySem L2 MK
theorem lookL_putL {κ α : Type} [KeyT κ] (xs : List (κ × α)) (k j : κ) (v : α) : lookL (putL xs k v) j = if j = k then some v else lookL xs j := by
  unfold putL lookL
  split
  · rename_i h
    induction xs with
    | nil => simp at h
    | cons p r ih =>
      rw [List.map_cons, List.find?_cons, List.find?_cons]
      by_cases e : p.1 = k
      · by_cases e2 : j = k
        · simp [e, e2]
        · have e3 : ¬ k = j := fun h => e2 h.symm
          have e4 : ∀ q : List (κ × α), (q.map fun p => if p.1 = k then (p.1, v) else p).find? (fun p => decide (p.1 = j)) = q.find? (fun p => decide (p.1 = j)) ∨ True := fun _ => .inr trivial
          simp only [e, if_true, e2, if_false, e3, decide_false]
          clear ih h e4
          induction r with
          | nil => rfl
          | cons q r ih2 =>
            rw [List.map_cons, List.find?_cons, List.find?_cons]
            by_cases e5 : q.1 = k
            · have e6 : ¬ q.1 = j := fun h => e2 (h.symm.trans e5)
              simp only [e5, if_true, e3, decide_false]
              exact ih2
            · simp only [e5, if_false]
              by_cases e6 : q.1 = j
              · simp [e6]
              · simp only [e6, decide_false]
                exact ih2
      · rw [List.any_cons] at h
        simp only [e, decide_false, Bool.false_or] at h
        simp only [e, if_false]
        by_cases e2 : p.1 = j
        · have e3 : ¬ j = k := fun h => e (e2.trans h)
          simp [e2, e3]
        · simp only [e2, decide_false]
          exact ih h
  · rename_i h
    rw [List.find?_append]
    by_cases e2 : j = k
    · subst e2
      have e3 : xs.find? (fun p => decide (p.1 = j)) = none := by
        rw [List.find?_eq_none]
        intro p hp hq
        exact h (List.any_eq_true.mpr ⟨p, hp, hq⟩)
      rw [e3]
      simp
    · have e3 : ¬ k = j := fun h => e2 h.symm
      simp [e2, e3]
theorem hasL_putL {κ α : Type} [KeyT κ] (xs : List (κ × α)) (k j : κ) (v : α) : hasL (putL xs k v) j = (decide (j = k) || hasL xs j) := by
  unfold hasL
  rw [lookL_putL]
  by_cases e : j = k
  · simp [e]
  · simp [e]
theorem hasL_fold {κ α : Type} [KeyT κ] : ∀ (ps acc : List (κ × α)) (j : κ), hasL (ps.foldl (fun acc p => putL acc p.1 p.2) acc) j = (ps.any (fun p => decide (j = p.1)) || hasL acc j)
  | [], acc, j => by simp
  | p :: ps, acc, j => by
    rw [List.foldl_cons, hasL_fold ps, hasL_putL, List.any_cons]
    cases decide (j = p.1) <;> cases ps.any (fun p => decide (j = p.1)) <;> rfl
theorem hasL_dictL {κ α : Type} [KeyT κ] (ps : List (κ × α)) (j : κ) : hasL (dictL ps) j = ps.any fun p => decide (j = p.1) := by
  unfold dictL
  rw [hasL_fold]
  have e : hasL ([] : List (κ × α)) j = false := rfl
  rw [e, Bool.or_false]
/-- a walk down keeps the least -/
theorem foldO_down {f : Int → Option Int → Option (Option Int)} {P : Int → Bool} : ∀ (xs : List Int) (s : Option Int), (∀ x ∈ xs, ∀ s, f x s = some (if P x = true then some x else s)) → MK.foldO f xs.reverse s = some ((xs.find? P).or s)
  | [], s, _ => by simp [MK.foldO]
  | x :: xs, s, k => by
    have ih := foldO_down xs s fun y hy => k y (List.mem_cons_of_mem _ hy)
    have snoc : ∀ (ys : List Int) (y : Int) (s : Option Int), MK.foldO f (ys ++ [y]) s = (MK.foldO f ys s).bind (f y) := by
      intro ys
      induction ys with
      | nil => intro y s; show (f y s).bind (MK.foldO f []) = f y s; cases f y s <;> rfl
      | cons z zs ihz =>
        intro y s
        show (f z s).bind (MK.foldO f (zs ++ [y])) = ((f z s).bind (MK.foldO f zs)).bind (f y)
        cases e : f z s with
        | none => rfl
        | some s' => exact ihz y s'
    rw [List.reverse_cons, snoc, ih]
    show f x _ = _
    rw [k x (by simp), List.find?_cons]
    cases P x <;> simp
theorem downL_rev (n : Nat) : downL ((n : Int) - 1) n = (rangeL 0 n).reverse := by
  apply List.ext_getElem?
  intro i
  by_cases hi : i < n
  · rw [List.getElem?_reverse (by rw [rangeL_len]; exact hi), rangeL_len]
    unfold downL rangeL
    rw [List.getElem?_map, List.getElem?_map, List.getElem?_range hi, List.getElem?_range (by omega)]
    show some ((n : Int) - 1 + (i : Int) * (-1)) = some (0 + ((n - 1 - i : Nat) : Int))
    congr 1
    omega
  · rw [List.getElem?_eq_none (by rw [downL_len]; omega), List.getElem?_eq_none (by rw [List.length_reverse, rangeL_len]; omega)]
/-- a loop that hands back the first -/
theorem loopM_find {ρ : Type} {f : Int → Unit → Option (Ctl ρ Unit)} {P : Int → Bool} {g : Int → ρ} : ∀ (xs : List Int), (∀ x ∈ xs, f x () = some (if P x = true then .rt (g x) else .nx ())) → MK.loopM f xs () = some (match xs.find? P with | some x => .rt (g x) | none => .nx ())
  | [], _ => rfl
  | x :: xs, k => by
    unfold MK.loopM
    rw [k x (by simp), Option.bind_some, List.find?_cons]
    cases e : P x with
    | true => rfl
    | false => exact loopM_find xs fun y hy => k y (List.mem_cons_of_mem _ hy)
/-- how many of the marks stand ahead of a place -/
def cnt (ms : List Int) : Nat → Int
  | 0 => 0
  | i + 1 => cnt ms i + (if decide ((i : Int) ∈ ms) = true then 1 else 0)
theorem cnt_le (ms : List Int) (i k : Nat) : cnt ms i ≤ cnt ms (i + k) := by
  induction k with
  | zero => exact Int.le_refl _
  | succ k ih =>
    show cnt ms i ≤ cnt ms (i + k) + _
    split <;> omega
theorem cnt_lt (ms : List Int) (i k : Nat) : cnt ms i < cnt ms (i + k) ↔ ∃ m ∈ ms, (i : Int) ≤ m ∧ m < (i : Int) + k := by
  induction k with
  | zero =>
    constructor
    · intro h; exact absurd h (Int.lt_irrefl _)
    · rintro ⟨m, _, h1, h2⟩; omega
  | succ k ih =>
    have e : cnt ms (i + (k + 1)) = cnt ms (i + k) + (if decide (((i + k : Nat) : Int) ∈ ms) = true then 1 else 0) := rfl
    rw [e]
    have le := cnt_le ms i k
    by_cases hm : ((i + k : Nat) : Int) ∈ ms
    · rw [if_pos (decide_eq_true hm)]
      exact ⟨fun _ => ⟨_, hm, by omega, by omega⟩, fun _ => by omega⟩
    · rw [if_neg (by simpa using hm), Int.add_zero, ih]
      constructor
      · rintro ⟨m, h0, h1, h2⟩; exact ⟨m, h0, h1, by omega⟩
      · rintro ⟨m, h0, h1, h2⟩
        refine ⟨m, h0, h1, ?_⟩
        by_cases e2 : m = ((i + k : Nat) : Int)
        · exact absurd (e2 ▸ h0) hm
        · omega
end MN

namespace Lk05
open PySem L2 MK
def Lit0 : List Nat := [97, 98, 99, 100, 101, 102, 103, 104, 105, 106, 107, 108, 109, 110, 111, 112, 113, 114, 115, 116, 117, 118, 119, 120, 121, 122]
def Lit1 : List Nat := []
def m_law_pot_of (script_1 : (List Int)) (k_4 : Int) : Option (List Int) :=
  (if (decide (k_4 < ((script_1).length : Int))) = true then ((idxM script_1 k_4).bind fun t_11 =>
  (some ((if t_11 < 0 then -t_11 else t_11) % (((10) ^ (Int.toNat (60))) ^ (Int.toNat (4))))).bind fun cell_12 =>
  some cell_12) else (some (0))).bind fun j_7 =>
  (mulM j_7 (if (decide (((10) ^ (Int.toNat (18))) ≤ j_7)) = true then 1 else 0)).bind fun t_17 =>
  (powM (((j_7 % (2147483629)) + ((7919) * k_4)) + (1)) (5)).bind fun t_18 =>
  some ([t_17, (t_18 % (2147483647))])
def m_law_pick (pot_1 : (List Int)) (many_7 : Int) : Option (Int × (List Int)) :=
  (idxM pot_1 (0)).bind fun t_10 =>
  if (decide ((0) < t_10)) = true then ((idxM pot_1 (0)).bind fun t_15 =>
  (modM t_15 many_7).bind fun t_19 =>
  (idxM pot_1 (0)).bind fun t_20 =>
  (fdivM t_20 many_7).bind fun t_24 =>
  (setM pot_1 (0) t_24).bind fun xs_25 =>
  some (t_19, xs_25)) else
  (idxM pot_1 (1)).bind fun t_34 =>
  (setM pot_1 (1) (((t_34 * (69621)) + (12345)) % (2147483647))).bind fun xs_38 =>
  (idxM xs_38 (1)).bind fun t_47 =>
  (idxM xs_38 (1)).bind fun t_51 =>
  (mulM t_47 t_51).bind fun t_55 =>
  (modM ((t_55 % (2147483629)) / (64)) many_7).bind fun t_56 =>
  some (t_56, xs_38)
def m_law_signs_of_c1 (r_7 : (Int × (List Int))) (t_31 : Int) (x_43 : Int) : Option (List Nat) :=
  (mulM t_31 x_43).bind fun t_64 =>
    (sidxM Lit0 ((r_7.1 + t_64) % (26))).bind fun t_65 =>
    some t_65
def m_law_signs_of (pot_1 : (List Int)) : Option ((List (List Nat)) × (List Int)) :=
  (m_law_pick pot_1 (26)).bind fun r_7 =>
  (m_law_pick r_7.2 (8)).bind fun r_21 =>
  (idxM [(1), (3), (5), (7), (9), (11), (15), (25)] r_21.1).bind fun t_31 =>
  (rng1M (26)).bind fun xs_36 =>
  (mapP (m_law_signs_of_c1 r_7 t_31) xs_36).bind fun ys_67 =>
  some (ys_67, r_21.2)
def m_law_standard_text_l1 (many_10 : Int) (x_28 : Int) (s_29 : ((List Nat) × (List Nat) × (List Int))) : Option ((List Nat) × (List Nat) × (List Int)) :=
  (if (decide (((s_29.2.1).length : Int) < many_10)) = true then ((m_law_pick s_29.2.2 (3)).bind fun r_55 =>
  (repM s_29.2.1 ((1) + r_55.1)).bind fun t_65 =>
  (catM t_65 s_29.1).bind fun t_66 =>
  some (s_29.2.1, t_66, r_55.2)) else (some (s_29.1, s_29.2.1, s_29.2.2))).bind fun j_51 =>
    some (j_51.1, j_51.2.1, j_51.2.2)
def m_law_standard_text (pot_1 : (List Int)) (signs_7 : (List (List Nat))) (many_10 : Int) : Option ((List Nat) × (List Int)) :=
  (idxM signs_7 (1)).bind fun t_13 =>
  (idxM signs_7 (0)).bind fun t_18 =>
  (rng1M (10)).bind fun xs_23 =>
  (foldO (m_law_standard_text_l1 many_10) xs_23 (t_13, t_18, pot_1)).bind fun res_43 =>
  some ((cutL res_43.2.1 none (some many_10)), res_43.2.2)
def m_law_text_of_c1 (r_68 : ((List (List Nat)) × (List Int))) (t_99 : Int) (x_111 : Int) (s_125 : ((List Int))) : Option (Option (List Nat) × ((List Int))) :=
  (m_law_pick s_125 t_99).bind fun r_133 =>
    (idxM r_68.1 r_133.1).bind fun t_143 =>
    some (some t_143, r_133.2)
def m_law_text_of (pot_1 : (List Int)) (most_7 : Int) : Option ((List Nat) × (List Int)) :=
  (m_law_pick pot_1 (6)).bind fun r_10 =>
  (m_law_pick r_10.2 (most_7 + (1))).bind fun r_20 =>
  (m_law_pick r_20.2 (6)).bind fun r_30 =>
  (if (decide (r_30.1 = (0))) = true then ((m_law_pick r_30.2 (4)).bind fun r_48 =>
  (idxM [(0), (1), (2), most_7] r_48.1).bind fun t_58 =>
  some (t_58, r_48.2)) else (some (r_20.1, r_30.2))).bind fun j_40 =>
  (m_law_signs_of j_40.2).bind fun r_68 =>
  (m_law_pick r_68.2 (4)).bind fun r_89 =>
  (idxM [(2), (2), (3), (26)] r_89.1).bind fun t_99 =>
  (rng1M j_40.1).bind fun xs_104 =>
  (lcS (m_law_text_of_c1 r_68 t_99) xs_104 r_89.2).bind fun ys_149 =>
  (joinM Lit1 ys_149.1).bind fun t_162 =>
  (if (decide (r_10.1 = (1))) = true then ((idxM r_68.1 (0)).bind fun t_168 =>
  (repM t_168 j_40.1).bind fun t_173 =>
  some t_173) else (some t_162)).bind fun j_164 =>
  (if (decide (r_10.1 = (2))) = true then ((m_law_pick ys_149.2 (5)).bind fun r_183 =>
  (repM (cutL j_164 none (some ((1) + r_183.1))) j_40.1).bind fun t_193 =>
  some ((cutL t_193 none (some j_40.1)), r_183.2)) else (some (j_164, ys_149.2))).bind fun j_179 =>
  (if (decide (r_10.1 = (3))) = true then ((m_law_standard_text j_179.2 r_68.1 j_40.1).bind fun r_204 =>
  some (r_204.1, r_204.2)) else (some (j_179.1, j_179.2))).bind fun j_200 =>
  (if ((decide (r_10.1 = (4))) && (decide ((0) < j_40.1))) = true then ((m_law_pick j_200.2 j_40.1).bind fun r_225 =>
  (idxM r_68.1 (0)).bind fun t_235 =>
  (repM t_235 r_225.1).bind fun t_240 =>
  (idxM r_68.1 (1)).bind fun t_241 =>
  (catM t_240 t_241).bind fun t_246 =>
  (idxM r_68.1 (0)).bind fun t_247 =>
  (repM t_247 ((j_40.1 - r_225.1) - (1))).bind fun t_252 =>
  (catM t_246 t_252).bind fun t_253 =>
  some (t_253, r_225.2)) else (some (j_200.1, j_200.2))).bind fun j_221 =>
  (if (decide (r_10.1 = (5))) = true then ((catM (cutL j_221.1 none (some (j_40.1 / (2)))) (List.reverse (cutL j_221.1 none (some (j_40.1 / (2)))))).bind fun t_265 =>
  (catM t_265 j_221.1).bind fun t_266 =>
  (some (cutL t_266 none (some j_40.1))).bind fun text_267 =>
  some text_267) else (some j_221.1)).bind fun j_261 =>
  some (j_261, j_221.2)
def m_law_spots_of_c1 (t_25 : Int) (x_37 : Int) (s_51 : ((List Int))) : Option (Option Int × ((List Int))) :=
  (m_law_pick s_51 (8)).bind fun r_59 =>
    if (decide (r_59.1 < t_25)) = true then (some (some x_37, r_59.2)) else (some (none, r_59.2))
def m_law_spots_of (pot_1 : (List Int)) (text_7 : (List Nat)) : Option ((List Int) × (List Int)) :=
  (m_law_pick pot_1 (6)).bind fun r_15 =>
  (idxM [(0), (1), (2), (3), (5), (8)] r_15.1).bind fun t_25 =>
  (rng1M ((text_7).length : Int)).bind fun xs_30 =>
  (lcS (m_law_spots_of_c1 t_25) xs_30 r_15.2).bind fun ys_71 =>
  some (ys_71.1, ys_71.2)
def m_law_word_of (pot_1 : (List Int)) (text_7 : (List Nat)) : Option ((List Nat) × (List Int)) :=
  (m_law_pick pot_1 (6)).bind fun r_11 =>
  (m_law_pick r_11.2 (26)).bind fun r_21 =>
  (sidxM Lit0 r_21.1).bind fun t_31 =>
  if ((decide (text_7 = Lit1)) || (decide (r_11.1 = (5)))) = true then ((m_law_pick r_21.2 (60)).bind fun r_33 =>
  (repM t_31 ((1) + r_33.1)).bind fun t_43 =>
  some (t_43, r_33.2)) else
  (m_law_pick r_21.2 ((text_7).length : Int)).bind fun r_44 =>
  (m_law_pick r_44.2 (((text_7).length : Int) - r_44.1)).bind fun r_54 =>
  (m_law_pick r_54.2 (((cutL text_7 (some r_44.1) (some ((r_44.1 + (1)) + r_54.1)))).length : Int)).bind fun r_64 =>
  if (decide (r_11.1 = (3))) = true then ((catM (cutL (cutL text_7 (some r_44.1) (some ((r_44.1 + (1)) + r_54.1))) none (some r_64.1)) t_31).bind fun t_75 =>
  (catM t_75 (cutL (cutL text_7 (some r_44.1) (some ((r_44.1 + (1)) + r_54.1))) (some (r_64.1 + (1))) none)).bind fun t_76 =>
  some (t_76, r_64.2)) else
  if (decide (r_11.1 = (4))) = true then ((catM (cutL text_7 (some r_44.1) (some ((r_44.1 + (1)) + r_54.1))) t_31).bind fun t_78 =>
  (catM t_78 text_7).bind fun t_79 =>
  some ((cutL t_79 none (some (60))), r_64.2)) else
  if (decide (r_11.1 = (2))) = true then ((m_law_pick r_64.2 (3)).bind fun r_81 =>
  some ((cutL (cutL text_7 (some r_44.1) (some ((r_44.1 + (1)) + r_54.1))) none (some ((1) + r_81.1))), r_81.2)) else
  some ((cutL text_7 (some r_44.1) (some ((r_44.1 + (1)) + r_54.1))), r_64.2)
def m_marks_ahead_c1 (x_17 : Int) : Option (Int × Bool) :=
  some (x_17, true)
def m_marks_ahead_l2 (ys_44 : (List (Int × Bool))) (x_76 : Int) (s_77 : (List Int)) : Option (List Int) :=
  (idxM s_77 (-(1))).bind fun t_97 =>
    (appM s_77 (t_97 + (if (hasL (dictL ys_44) x_76) = true then 1 else 0))).bind fun xs_107 =>
    some xs_107
def m_marks_ahead (row_1 : (List Nat)) (marks_4 : (List Int)) : Option (List Int) :=
  (mapP (m_marks_ahead_c1) marks_4).bind fun ys_44 =>
  (dictM ys_44).bind fun d_61 =>
  (rng1M ((row_1).length : Int)).bind fun xs_71 =>
  (foldO (m_marks_ahead_l2 ys_44) xs_71 [(0)]).bind fun res_91 =>
  some res_91
def m_over_l1 (row_1 : (List Nat)) (word_7 : (List Nat)) (many_12 : Int) (r_13 : (List Int)) (x_33 : Int) (s_34 : Unit) : Option (Ctl (Option Int) Unit) :=
  (idxM r_13 (x_33 + many_12)).bind fun t_53 =>
    (idxM r_13 x_33).bind fun t_57 =>
    if ((decide (t_57 < t_53)) && (decide ((cutL row_1 (some x_33) (some (x_33 + many_12))) = word_7))) = true then (some (.rt (some x_33))) else
    some (.nx ())
def m_over (row_1 : (List Nat)) (marks_4 : (List Int)) (word_7 : (List Nat)) : Option (Option Int) :=
  (some ((word_7).length : Int)).bind fun many_12 =>
  (m_marks_ahead row_1 marks_4).bind fun r_13 =>
  (rng1M ((((row_1).length : Int) - many_12) + (1))).bind fun xs_28 =>
  (loopM (m_over_l1 row_1 word_7 many_12 r_13) xs_28 ()).bind fun res_48 =>
  ctlK res_48 fun s_62 =>
  some none
def m_law_is_same (found_1 : (Option Int)) (due_4 : (Option Int)) : Option Bool :=
  if (due_4).isNone = true then (some (found_1).isNone) else
  some ((found_1).isSome && ((!false) && (decide (found_1 = due_4))))
def m_law_c4 (many_144 : Int) (x_150 : Int) (x_182 : Int) : Option (Option Int) :=
  if ((decide (x_150 ≤ x_182)) && (decide (x_182 < (x_150 + many_144)))) = true then (some (some x_182)) else (some none)
def m_law_l3 (r_72 : ((List Nat) × (List Int))) (r_116 : ((List Int) × (List Int))) (r_133 : ((List Nat) × (List Int))) (many_144 : Int) (x_150 : Int) (s_151 : (Option Int)) : Option (Option Int) :=
  (lcP (m_law_c4 many_144 x_150) r_116.1).bind fun ys_206 =>
    (if (decide ((cutL r_72.1 (some x_150) (some (x_150 + many_144))) = r_133.1)) = true then (some (!decide (ys_206 = ([] : List Int)))) else (some false)).bind fun b_218 =>
    (if b_218 = true then (some (some x_150)) else (some s_151)).bind fun j_230 =>
    some j_230
def m_law_l2 (r_72 : ((List Nat) × (List Int))) (x_88 : Int) (s_89 : (List Int)) : Option (Ctl (Ctl Bool Unit) (List Int)) :=
  (m_law_spots_of s_89 r_72.1).bind fun r_116 =>
    (m_law_word_of r_116.2 r_72.1).bind fun r_133 =>
    (some ((r_133.1).length : Int)).bind fun many_144 =>
    (rngDM (((r_72.1).length : Int) - many_144) (-(1))).bind fun xs_145 =>
    (foldO (m_law_l3 r_72 r_116 r_133 many_144) xs_145 none).bind fun res_165 =>
    ((m_over r_72.1 r_116.1 r_133.1).bind fun r_257 => (m_law_is_same r_257 res_165).bind fun r_265 => if (!r_265) = true then (some true) else (some (!decide (r_116.1 = r_116.1)))).bind fun b_256 =>
    if b_256 = true then (some (.rt (.rt false))) else
    some (.nx r_133.2)
def m_law_l1 (script_1 : (List Int)) (x_9 : Int) (s_10 : Unit) : Option (Ctl Bool Unit) :=
  (m_law_pot_of script_1 x_9).bind fun r_39 =>
    (m_law_pick r_39 (3)).bind fun r_57 =>
    (idxM [(40), (40), (60)] r_57.1).bind fun t_67 =>
    (m_law_text_of r_57.2 t_67).bind fun r_72 =>
    (rng1M (6)).bind fun xs_83 =>
    (loopM (m_law_l2 r_72) xs_83 r_72.2).bind fun res_103 =>
    ctlK res_103 fun s_280 =>
    some (.nx ())
def m_law (script_1 : (List Int)) : Option Bool :=
  (rng1M (if (if (20) < ((script_1).length : Int) then (20) else ((script_1).length : Int)) > (1) then (if (20) < ((script_1).length : Int) then (20) else ((script_1).length : Int)) else (1))).bind fun xs_4 =>
  (loopM (m_law_l1 script_1) xs_4 ()).bind fun res_24 =>
  ctlK res_24 fun s_296 =>
  some true
end Lk05

namespace Lk05
open PySem L2 MK MN
def Pot (p : List Int) : Prop := ∃ a b : Int, p = [a, b] ∧ 0 ≤ a ∧ 0 ≤ b ∧ b < 2147483647
theorem Pot.g0 {p : List Int} (h : Pot p) : Hd (idxM p 0) (fun x => 0 ≤ x ∧ ∃ b, p = [x, b] ∧ 0 ≤ b ∧ b < 2147483647) := by
  obtain ⟨a, b, rfl, h0, h1, h2⟩ := h
  exact ⟨a, rfl, h0, b, rfl, h1, h2⟩
theorem Pot.g1 {p : List Int} (h : Pot p) : Hd (idxM p 1) (fun x => 0 ≤ x ∧ x < 2147483647 ∧ ∃ a, p = [a, x] ∧ 0 ≤ a) := by
  obtain ⟨a, b, rfl, h0, h1, h2⟩ := h
  exact ⟨b, rfl, h1, h2, a, rfl, h0⟩
theorem big_lt : ((10 : Int) ^ (Int.toNat 60)) ^ (Int.toNat 4) = ((10 ^ 240 : Nat) : Int) := by decide +kernel
theorem big_lt2 : (10 ^ 240 : Nat) < 2 ^ 800 := by decide +kernel
theorem pot_of_ok {ns : List Int} {k : Int} (h0 : 0 ≤ k) (h1 : k ≤ 100) : Hd (m_law_pot_of ns k) Pot := by
  unfold m_law_pot_of
  refine Hd.bind (P := fun x : Int => 0 ≤ x ∧ x.natAbs < 2 ^ 800) (Hd.ited ?_ ?_) ?_
  · intro hk
    refine Hd.bind (hd_idx h0 hk) fun x hx => Hd.sb (Hd.sb (Hd.ret ?_))
    rw [big_lt]
    have a := Int.emod_nonneg (if x < 0 then -x else x) (show ((10 ^ 240 : Nat) : Int) ≠ 0 by decide +kernel)
    have b := Int.emod_lt_of_pos (if x < 0 then -x else x) (show (0 : Int) < ((10 ^ 240 : Nat) : Int) by decide +kernel)
    refine ⟨a, Nat.lt_trans ?_ big_lt2⟩
    generalize (10 ^ 240 : Nat) = N at a b ⊢
    omega
  · intro _
    exact Hd.ret ⟨by omega, by decide +kernel⟩
  · rintro x ⟨hx0, hx1⟩
    refine Hd.bind (hd_mul (n := 800) (m := 1) hx1 (by split <;> decide) (by omega)) ?_
    rintro _ rfl
    have h1 := Int.emod_nonneg x (show (2147483629 : Int) ≠ 0 by omega)
    have h2 := Int.emod_lt_of_pos x (show (0 : Int) < 2147483629 by omega)
    refine Hd.bind (hd_pow (by omega) (by omega) (by omega)) ?_
    rintro _ rfl
    refine Hd.ret ⟨_, _, rfl, Int.mul_nonneg hx0 (by split <;> omega), Int.emod_nonneg _ (by omega), Int.emod_lt_of_pos _ (by omega)⟩
theorem pick_ok {p : List Int} {n : Int} (h : Pot p) (h0 : 0 < n) (h1 : n < 1000000) : Hd (m_law_pick p n) (fun r => 0 ≤ r.1 ∧ r.1 < n ∧ Pot r.2) := by
  unfold m_law_pick
  obtain ⟨a, b, rfl, ha, hb, hb2⟩ := h
  refine Hd.step (x := a) rfl (Hd.ited (fun hp => ?_) (fun hp => ?_))
  · refine Hd.step (x := a) rfl (Hd.bind (hd_mod h0) fun r hr => Hd.step (x := a) rfl (Hd.bind (hd_fdiv h0 (by omega)) fun q hq => Hd.step (x := [q, b]) rfl ?_))
    refine Hd.ret ⟨hr.2.1, hr.2.2, _, _, rfl, ?_, hb, hb2⟩
    rw [hq]
    exact Int.ediv_nonneg ha (by omega)
  · have e0 := Int.emod_nonneg (b * 69621 + 12345) (show (2147483647 : Int) ≠ 0 by omega)
    have e1 := Int.emod_lt_of_pos (b * 69621 + 12345) (show (0 : Int) < 2147483647 by omega)
    refine Hd.step (x := b) rfl (Hd.step (x := [a, (b * 69621 + 12345) % 2147483647]) rfl (Hd.step (x := (b * 69621 + 12345) % 2147483647) rfl (Hd.step (x := (b * 69621 + 12345) % 2147483647) rfl ?_)))
    refine Hd.bind (hd_mul_s (by omega) (by omega)) fun m hm => Hd.bind (hd_mod h0) fun r hr => Hd.ret ⟨hr.2.1, hr.2.2, _, _, rfl, ha, e0, e1⟩
theorem signs_ok {p : List Int} (h : Pot p) : Hd (m_law_signs_of p) (fun r => Pot r.2 ∧ r.1.length = 26 ∧ ∀ y ∈ r.1, y.length = 1) := by
  unfold m_law_signs_of
  refine Hd.bind (pick_ok h (by omega) (by omega)) fun a ha => Hd.bind (pick_ok ha.2.2 (by omega) (by omega)) fun b hb => ?_
  refine Hd.bind (hd_idx hb.1 (by simpa using hb.2.1)) fun t ht => Hd.bind (hd_rng1 (by omega) (by omega)) ?_
  rintro xs rfl
  refine Hd.bind (Hd.mapP (P := fun y => y.length = 1) ?_) fun ys hy => Hd.ret ⟨hb.2.2, by rw [hy.1, rangeL_len]; rfl, hy.2⟩
  intro x hx
  have hx := mem_rangeL.mp hx
  have ht : 0 ≤ t ∧ t ≤ 25 := by
    have := ht.1
    simp only [List.mem_cons, List.not_mem_nil, or_false] at this
    omega
  unfold m_law_signs_of_c1
  refine Hd.bind (hd_mul_s (by omega) (by omega)) fun m hm => Hd.bind (hd_sidx (Int.emod_nonneg _ (by omega)) (Int.emod_lt_of_pos _ (by decide))) fun t ht => Hd.ret ht.1
theorem standard_ok {p : List Int} {ss : List (List Nat)} {n : Int} (h : Pot p) (hl : ss.length = 26) (hs : ∀ y ∈ ss, y.length = 1) (h0 : 0 ≤ n) (h1 : n ≤ 100) : Hd (m_law_standard_text p ss n) (fun r => r.1.length ≤ n ∧ Pot r.2) := by
  unfold m_law_standard_text
  refine Hd.bind (hd_idx (by omega) (by omega)) fun a ha => Hd.bind (hd_idx (by omega) (by omega)) fun b hb => Hd.bind (hd_rng1 (by omega) (by omega)) ?_
  rintro xs rfl
  have la := hs a ha.1
  have lb := hs b hb.1
  refine Hd.bind (P := fun s => s.1.length ≤ 100 ∧ s.2.1.length ≤ 400 ∧ Pot s.2.2) (Hd.foldO ⟨by simp [la], by simp [lb], h⟩ ?_) ?_
  · rintro x hx ⟨s, t, p⟩ ⟨h2, h3, h4⟩
    unfold m_law_standard_text_l1
    refine Hd.bind (P := fun s : List Nat × List Nat × List Int => s.1.length ≤ 100 ∧ s.2.1.length ≤ 400 ∧ Pot s.2.2) (Hd.ited ?_ ?_) fun j hj => Hd.ret hj
    · intro hn
      refine Hd.bind (pick_ok h4 (by omega) (by omega)) fun r hr => ?_
      have hn : t.length < 100 := by
        have : (t.length : Int) < n := hn
        omega
      have h2 : s.length ≤ 100 := h2
      refine Hd.bind (hd_rep (m := 99) (k := 3) (by omega) (by omega) (by omega) (by omega) (by omega)) fun q hq => ?_
      have hq2 : q.length ≤ 3 * t.length := by rw [hq.2]; exact Nat.mul_le_mul (by omega) (Nat.le_refl _)
      refine Hd.bind (hd_cat (by show q.length + s.length ≤ _; omega)) ?_
      rintro _ rfl
      exact Hd.ret ⟨by show t.length ≤ 100; omega, by rw [List.length_append]; show q.length + s.length ≤ 400; omega, hr.2.2⟩
    · intro _
      exact Hd.ret ⟨h2, h3, h4⟩
  · intro s hs
    refine Hd.ret ⟨?_, hs.2.2⟩
    rw [cutL_hi h0, List.length_take]
    omega
theorem sum_ones : ∀ {ys : List (List Nat)}, (∀ y ∈ ys, y.length = 1) → (ys.map List.length).sum = ys.length
  | [], _ => rfl
  | y :: ys, h => by
    rw [List.map_cons, List.sum_cons, h y (by simp), sum_ones fun z hz => h z (List.mem_cons_of_mem _ hz), List.length_cons]
    omega
theorem text_ok {p : List Int} {n : Int} (h : Pot p) (h0 : 2 ≤ n) (h1 : n ≤ 100) : Hd (m_law_text_of p n) (fun r => (r.1.length : Int) ≤ n ∧ Pot r.2) := by
  unfold m_law_text_of
  refine Hd.bind (pick_ok h (by omega) (by omega)) fun a ha => Hd.bind (pick_ok ha.2.2 (by omega) (by omega)) fun b hb => Hd.bind (pick_ok hb.2.2 (by omega) (by omega)) fun c hc => ?_
  refine Hd.bind (P := fun s : Int × List Int => 0 ≤ s.1 ∧ s.1 ≤ n ∧ Pot s.2) (Hd.ited ?_ ?_) fun j hj => ?_
  · intro _
    refine Hd.bind (pick_ok hc.2.2 (by omega) (by omega)) fun d hd => Hd.bind (hd_idx hd.1 (by simpa using hd.2.1)) fun t ht => Hd.ret ?_
    have := ht.1
    simp only [List.mem_cons, List.not_mem_nil, or_false] at this
    exact ⟨by omega, by omega, hd.2.2⟩
  · intro _
    exact Hd.ret ⟨by omega, by omega, hc.2.2⟩
  obtain ⟨many, q⟩ := j
  obtain ⟨m0, m1, hq⟩ := hj
  simp only at m0 m1 hq ⊢
  refine Hd.bind (signs_ok hq) ?_
  rintro ⟨ss, q2⟩ ⟨hq2, sl, s1⟩
  simp only at hq2 sl s1 ⊢
  refine Hd.bind (pick_ok hq2 (by omega) (by omega)) fun d hd => Hd.bind (hd_idx hd.1 (by simpa using hd.2.1)) fun t ht => Hd.bind (hd_rng1 (by omega) (by omega)) ?_
  rintro xs rfl
  have ht : 1 ≤ t ∧ t ≤ 26 := by
    have := ht.1
    simp only [List.mem_cons, List.not_mem_nil, or_false] at this
    omega
  refine Hd.bind (Hd.lcSA (I := Pot) (P := fun y => y.length = 1) hd.2.2 ?_) ?_
  · intro x hx s hs
    unfold m_law_text_of_c1
    refine Hd.bind (pick_ok hs (by omega) (by omega)) fun r hr => Hd.bind (hd_idx hr.1 (by (first | omega | (dsimp only at *; omega)))) fun u hu => Hd.ret ⟨hr.2.2, u, rfl, s1 u hu.1⟩
  rintro ⟨ys, q3⟩ ⟨hq3, hyl, hy1⟩
  simp only at hq3 hyl hy1 ⊢
  rw [rangeL_len] at hyl
  have hsum := sum_ones hy1
  refine Hd.bind (hd_join (by rw [hsum]; simp [Lit1]; omega)) ?_
  rintro _ rfl
  have hx0 : (TL.joinL Lit1 ys).length = ys.length := by
    rw [show Lit1 = [] from rfl, joinL_nil, List.length_flatten, hsum]
  refine Hd.bind (P := fun x : List Nat => (x.length : Int) = many) (Hd.ited ?_ ?_) fun x1 hx1 => ?_
  · intro _
    refine Hd.bind (hd_idx (by omega) (by omega)) fun u hu => Hd.bind (hd_rep (m := 1) (k := 100) (by rw [s1 u hu.1]; omega) (by omega) (by omega) (by omega) (by omega)) fun v hv => Hd.ret ?_
    rw [hv.2, s1 u hu.1]; omega
  · intro _
    exact Hd.ret (by rw [hx0]; omega)
  refine Hd.bind (P := fun s : List Nat × List Int => (s.1.length : Int) ≤ many ∧ Pot s.2) (Hd.ited ?_ ?_) fun x2 hx2 => ?_
  · intro _
    refine Hd.bind (pick_ok hq3 (by omega) (by omega)) fun r hr => ?_
    have e : (cutL x1 none (some (1 + r.1))).length ≤ 5 := by
      rw [cutL_hi (by omega), List.length_take]; omega
    refine Hd.bind (hd_rep (m := 5) (k := 100) e (by omega) (by omega) (by omega) (by omega)) fun v hv => Hd.ret ⟨?_, hr.2.2⟩
    rw [cutL_hi m0, List.length_take]; omega
  · intro _
    exact Hd.ret ⟨by (first | omega | (dsimp only at *; omega)), hq3⟩
  refine Hd.bind (P := fun s : List Nat × List Int => (s.1.length : Int) ≤ many ∧ Pot s.2) (Hd.ited ?_ ?_) fun x3 hx3 => ?_
  · intro _
    refine Hd.bind (standard_ok hx2.2 sl s1 m0 (by omega)) fun r hr => Hd.ret hr
  · intro _
    exact Hd.ret hx2
  refine Hd.bind (P := fun s : List Nat × List Int => (s.1.length : Int) ≤ many ∧ Pot s.2) (Hd.ite ?_ ?_) fun x4 hx4 => ?_
  · intro hm
    have hm : 0 < many := by simp at hm; omega
    refine Hd.bind (pick_ok hx3.2 (by omega) (by omega)) fun r hr => Hd.bind (hd_idx (by omega) (by omega)) fun u hu => ?_
    have hu := s1 u hu.1
    refine Hd.bind (hd_rep (m := 1) (k := 100) (by omega) (by omega) (by omega) (by omega) (by omega)) fun v hv => Hd.bind (hd_idx (by omega) (by omega)) fun w hw => ?_
    have hw := s1 w hw.1
    rw [hu] at hv
    refine Hd.bind (hd_cat (by omega)) ?_
    rintro _ rfl
    refine Hd.bind (hd_idx (by omega) (by omega)) fun u2 hu2 => ?_
    have hu2 := s1 u2 hu2.1
    refine Hd.bind (hd_rep (m := 1) (k := 100) (by omega) (by omega) (by omega) (by omega) (by omega)) fun v2 hv2 => ?_
    rw [hu2] at hv2
    refine Hd.bind (hd_cat (by rw [List.length_append]; omega)) ?_
    rintro _ rfl
    exact Hd.ret ⟨by rw [List.length_append, List.length_append]; omega, hr.2.2⟩
  · intro _
    exact Hd.ret hx3
  refine Hd.bind (P := fun s : List Nat => (s.length : Int) ≤ many) (Hd.ited ?_ ?_) fun x5 hx5 => Hd.ret ⟨by (first | omega | (dsimp only at *; omega)), hx4.2⟩
  · intro _
    have l1 := cutL_len_le (xs := x4.1) (lo := none) (hi := some (many / 2))
    refine Hd.bind (hd_cat (by rw [List.length_reverse]; omega)) ?_
    rintro _ rfl
    refine Hd.bind (hd_cat (by rw [List.length_append, List.length_reverse]; omega)) ?_
    rintro _ rfl
    refine Hd.sb (Hd.ret ?_)
    rw [cutL_hi m0, List.length_take]; omega
  · intro _
    exact Hd.ret hx4.1
theorem word_ok {p : List Int} {t : List Nat} (h : Pot p) (ht : t.length ≤ 60) : Hd (m_law_word_of p t) (fun r => 1 ≤ r.1.length ∧ r.1.length ≤ 60 ∧ Pot r.2) := by
  unfold m_law_word_of
  refine Hd.bind (pick_ok h (by omega) (by omega)) fun a ha => Hd.bind (pick_ok ha.2.2 (by omega) (by omega)) fun b hb => Hd.bind (hd_sidx hb.1 hb.2.1) fun l hl => Hd.ite ?_ ?_
  · intro _
    refine Hd.bind (pick_ok hb.2.2 (by omega) (by omega)) fun c hc => Hd.bind (hd_rep (m := 1) (k := 60) (by rw [hl.1]; omega) (by omega) (by omega) (by omega) (by omega)) fun v hv => Hd.ret ?_
    rw [hl.1] at hv
    exact ⟨by (first | omega | (dsimp only at *; omega)), by (first | omega | (dsimp only at *; omega)), hc.2.2⟩
  intro hne
  have h1 : 1 ≤ t.length := by
    cases t with
    | nil => simp [Lit1] at hne
    | cons x xs => simp
  refine Hd.bind (pick_ok hb.2.2 (by omega) (by omega)) fun c hc => Hd.bind (pick_ok hc.2.2 (by omega) (by omega)) fun d hd => ?_
  have hw : (cutL t (some c.1) (some (c.1 + 1 + d.1))).length = (1 + d.1).toNat := by
    rw [cutL_mid hc.1 (by omega), List.length_take, List.length_drop]
    omega
  generalize cutL t (some c.1) (some (c.1 + 1 + d.1)) = w at hw ⊢
  refine Hd.bind (pick_ok hd.2.2 (by omega) (by omega)) fun e he => Hd.ited ?_ fun _ => Hd.ited ?_ fun _ => Hd.ited ?_ fun _ => Hd.ret ⟨by (first | omega | (dsimp only at *; omega)), by (first | omega | (dsimp only at *; omega)), he.2.2⟩
  · intro _
    rw [cutL_hi he.1, cutL_lo (by omega)]
    refine Hd.bind (hd_cat (by rw [List.length_take, hl.1]; omega)) ?_
    rintro _ rfl
    refine Hd.bind (hd_cat (by rw [List.length_append, List.length_take, List.length_drop, hl.1]; omega)) ?_
    rintro _ rfl
    refine Hd.ret ⟨?_, ?_, he.2.2⟩
    · rw [List.length_append, List.length_append, List.length_take, List.length_drop, hl.1]; omega
    · rw [List.length_append, List.length_append, List.length_take, List.length_drop, hl.1]; omega
  · intro _
    refine Hd.bind (hd_cat (by rw [hl.1]; omega)) ?_
    rintro _ rfl
    refine Hd.bind (hd_cat (by rw [List.length_append, hl.1]; omega)) ?_
    rintro _ rfl
    refine Hd.ret ⟨?_, ?_, he.2.2⟩
    · rw [cutL_hi (by omega), List.length_take, List.length_append, List.length_append, hl.1]; omega
    · rw [cutL_hi (by omega), List.length_take, List.length_append, List.length_append, hl.1]; omega
  · intro _
    refine Hd.bind (pick_ok he.2.2 (by omega) (by omega)) fun f hf => Hd.ret ⟨?_, ?_, hf.2.2⟩
    · rw [cutL_hi (by omega), List.length_take]; omega
    · rw [cutL_hi (by omega), List.length_take]; omega
end Lk05

namespace Lk05
open PySem L2 MK MN
theorem zero_ok (ms : List Int) : ∀ j ≤ 0, ([0] : List Int)[j]? = some (cnt ms j) := by
  intro j hj
  have e : j = 0 := by omega
  subst e
  rfl
theorem ahead_ok {t : List Nat} {ms : List Int} (ht : t.length ≤ 1000) : Hd (m_marks_ahead t ms) (fun r => r.length = t.length + 1 ∧ ∀ i ≤ t.length, r[i]? = some (cnt ms i)) := by
  unfold m_marks_ahead
  rw [mapP_fn (f := m_marks_ahead_c1) (g := fun x => (x, true)) (fun x _ => rfl)]
  refine Hd.sb ?_
  show Hd ((dictM (ms.map fun x => (x, true))).bind _) _
  unfold dictM
  refine Hd.sb (Hd.bind (hd_rng1 (by omega) (by omega)) ?_)
  rintro _ rfl
  rw [Int.toNat_natCast]
  refine Hd.bind (foldO_ix (I := fun i (s : List Int) => s.length = i + 1 ∧ ∀ j ≤ i, s[j]? = some (cnt ms j)) t.length (s := [0]) ⟨rfl, zero_ok ms⟩ ?_) fun s hs => Hd.ret hs
  rintro i hi s ⟨h1, h2⟩
  unfold m_marks_ahead_l2
  have e1 : idxM s (-1) = some (cnt ms i) := by
    unfold idxM L2.atI
    have e : L2.ixN s.length (-1) = some i := by
      unfold L2.ixN
      rw [if_neg (by omega), if_pos (by omega)]
      congr 1
      omega
    rw [e]
    exact h2 i (Nat.le_refl _)
  rw [e1]
  refine Hd.sb (Hd.bind (hd_app (by omega)) ?_)
  rintro _ rfl
  have e2 : hasL (dictL (ms.map fun x => (x, true))) (i : Int) = decide ((i : Int) ∈ ms) := by
    rw [hasL_dictL, List.any_map, Bool.eq_iff_iff, List.any_eq_true, decide_eq_true_eq]
    constructor
    · rintro ⟨x, hx, e⟩
      have e : (i : Int) = x := of_decide_eq_true e
      rw [e]; exact hx
    · intro h
      exact ⟨_, h, decide_eq_true rfl⟩
  rw [e2]
  refine Hd.ret ⟨by rw [List.length_append, h1]; rfl, fun j hj => ?_⟩
  by_cases hji : j ≤ i
  · rw [List.getElem?_append_left (by omega)]
    exact h2 j hji
  · have : j = i + 1 := by omega
    subst this
    rw [List.getElem?_append_right (by omega), h1, Nat.sub_self]
    rfl
/-- the word stands at a place over a mark -/
def overAt (t w : List Nat) (ms : List Int) (x : Int) : Bool := decide (cutL t (some x) (some (x + (w.length : Int))) = w) && ms.any fun m => decide (x ≤ m) && decide (m < x + (w.length : Int))
theorem over_eq {t w : List Nat} {ms : List Int} (ht : t.length ≤ 1000) (hw : w.length ≤ 1000) : m_over t ms w = some ((rangeL 0 ((t.length : Int) - w.length + 1).toNat).find? (overAt t w ms)) := by
  unfold m_over
  refine Hd.to (Hd.sb (Hd.bind (ahead_ok ht) fun r hr => Hd.bind (hd_rng1 (by omega) (by omega)) ?_))
  rintro _ rfl
  rw [loopM_find (f := m_over_l1 t w (w.length : Int) r) (P := overAt t w ms) (g := fun x => some x)]
  · refine Hd.sb ?_
    cases e : (rangeL 0 ((t.length : Int) - w.length + 1).toNat).find? (overAt t w ms) with
    | none => exact Hd.ret rfl
    | some x => exact Hd.ret rfl
  · intro x hx
    have hx := mem_rangeL.mp hx
    unfold m_over_l1
    have g1 : idxM r (x + (w.length : Int)) = some (cnt ms (x.toNat + w.length)) := by
      obtain ⟨y, e, e2⟩ := ix_at (xs := r) (i := x + (w.length : Int)) (by omega) (by omega)
      rw [show (x + (w.length : Int)).toNat = x.toNat + w.length by omega, hr.2 _ (by omega)] at e2
      rw [e, e2]
    have g2 : idxM r x = some (cnt ms x.toNat) := by
      obtain ⟨y, e, e2⟩ := ix_at (xs := r) (i := x) (by omega) (by omega)
      rw [hr.2 _ (by omega)] at e2
      rw [e, e2]
    rw [g1, g2]
    show (if _ = true then _ else _) = _
    have e : (decide (cnt ms x.toNat < cnt ms (x.toNat + w.length)) && decide (cutL t (some x) (some (x + (w.length : Int))) = w)) = overAt t w ms x := by
      unfold overAt
      rw [Bool.and_comm]
      congr 1
      rw [Bool.eq_iff_iff, decide_eq_true_eq, cnt_lt, List.any_eq_true]
      constructor
      · rintro ⟨m, h0, h1, h2⟩
        exact ⟨m, h0, by rw [decide_eq_true (show x ≤ m by omega), decide_eq_true (show m < x + (w.length : Int) by omega)]; rfl⟩
      · rintro ⟨m, h0, h1⟩
        simp only [Bool.and_eq_true, decide_eq_true_eq] at h1
        exact ⟨m, h0, by omega, by omega⟩
    rw [e]
    cases overAt t w ms x <;> rfl
end Lk05

namespace Lk05
open PySem L2 MK MN
theorem spots_ok {p : List Int} {t : List Nat} (h : Pot p) (ht : t.length ≤ 1000) : Hd (m_law_spots_of p t) (fun r => Pot r.2) := by
  unfold m_law_spots_of
  refine Hd.bind (pick_ok h (by omega) (by omega)) fun a ha => Hd.bind (hd_idx ha.1 (by simpa using ha.2.1)) fun k hk => Hd.bind (hd_rng1 (by omega) (by omega)) ?_
  rintro _ rfl
  refine Hd.bind (Hd.lcS (I := Pot) (P := fun _ => True) ha.2.2 fun x _ s hs => ?_) fun ys hys => Hd.ret hys.1
  unfold m_law_spots_of_c1
  exact Hd.bind (pick_ok hs (by omega) (by omega)) fun r hr => Hd.ited (fun _ => Hd.ret ⟨hr.2.2, fun _ _ => trivial⟩) fun _ => Hd.ret ⟨hr.2.2, fun _ _ => trivial⟩
theorem same_ok (o : Option Int) : m_law_is_same o o = some true := by
  unfold m_law_is_same
  cases o with
  | none => rfl
  | some x => simp
theorem l3_ok {t : (List Nat) × (List Int)} {ms : (List Int) × (List Int)} {w : (List Nat) × (List Int)} (x : Int) (s : Option Int) :
    m_law_l3 t ms w (w.1.length : Int) x s = some (if overAt t.1 w.1 ms.1 x = true then some x else s) := by
  unfold m_law_l3
  rw [lcP_fn (f := m_law_c4 (w.1.length : Int) x) (g := fun m => if ((decide (x ≤ m)) && (decide (m < (x + (w.1.length : Int))))) = true then some m else none) (fun m _ => by unfold m_law_c4; split <;> rfl)]
  have e : (!decide (ms.1.filterMap (fun m => if ((decide (x ≤ m)) && (decide (m < (x + (w.1.length : Int))))) = true then some m else none) = ([] : List Int))) = ms.1.any fun m => decide (x ≤ m) && decide (m < x + (w.1.length : Int)) := by
    generalize ms.1 = l
    induction l with
    | nil => rfl
    | cons m r ih =>
      rw [List.filterMap_cons, List.any_cons]
      cases h : decide (x ≤ m) && decide (m < x + (w.1.length : Int)) with
      | true => simp
      | false => simpa using ih
  show ((if _ = true then _ else _ : Option Bool).bind _) = _
  rw [e]
  unfold overAt
  cases decide (cutL t.1 (some x) (some (x + (w.1.length : Int))) = w.1) with
  | false => rfl
  | true =>
    rw [if_pos rfl, Bool.true_and]
    show ((if _ = true then _ else _ : Option (Option Int)).bind _) = _
    cases ms.1.any fun m => decide (x ≤ m) && decide (m < x + (w.1.length : Int)) <;> rfl
theorem l2_ok {t : (List Nat) × (List Int)} {x : Int} {s : List Int} (h : Pot s) (ht : t.1.length ≤ 60) : Hd (m_law_l2 t x s) (fun c => ∃ s', c = .nx s' ∧ Pot s') := by
  unfold m_law_l2
  refine Hd.bind (spots_ok h (by omega)) fun ms hms => Hd.bind (word_ok hms ht) fun w hw => Hd.sb ?_
  obtain ⟨w1, w2, hq⟩ := hw
  have er : rngDM ((t.1.length : Int) - (w.1.length : Int)) (-1) = some (rangeL 0 ((t.1.length : Int) - w.1.length + 1).toNat).reverse := by
    unfold rngDM
    rw [if_pos (decide_eq_true (by rw [sizeLine_16]; omega))]
    congr 1
    rw [show ((t.1.length : Int) - (w.1.length : Int) - -1).toNat = ((t.1.length : Int) - w.1.length + 1).toNat by omega]
    by_cases c : (w.1.length : Int) ≤ t.1.length
    · rw [← downL_rev]
      congr 1
      omega
    · rw [show ((t.1.length : Int) - w.1.length + 1).toNat = 0 by omega]
      rfl
  rw [er]
  refine Hd.sb ?_
  rw [foldO_down (f := m_law_l3 t ms w (w.1.length : Int)) (P := overAt t.1 w.1 ms.1) _ _ (fun x _ s => l3_ok x s), over_eq (by omega) (by omega)]
  refine Hd.sb ?_
  refine Hd.bind (P := fun b => b = false) (Hd.sb ?_) ?_
  · rw [Option.or_none, same_ok]
    refine Hd.sb ?_
    rw [if_neg (by decide)]
    exact Hd.ret (by simp)
  · rintro _ rfl
    rw [if_neg (by decide)]
    exact Hd.ret ⟨_, rfl, hq⟩
theorem law_true (ns : List Int) (h : ns.length ≤ 63) : m_law ns = some true := by
  refine Hd.to ?_
  unfold m_law
  refine Hd.bind (hd_rng1 (by split <;> split <;> omega) (by split <;> split <;> omega)) ?_
  rintro _ rfl
  refine Hd.bind (Hd.loopN (I := fun _ => True) trivial ?_) fun c hc => Hd.ctl hc fun s _ => Hd.ret rfl
  intro x hx s _
  have hx := mem_rangeL.mp hx
  have hx2 : x ≤ 63 := by
    have := hx.2
    split at this <;> split at this <;> omega
  unfold m_law_l1
  refine Hd.bind (pot_of_ok hx.1 (by omega)) fun p hp => Hd.bind (pick_ok hp (by omega) (by omega)) fun a ha => Hd.bind (hd_idx ha.1 (by simpa using ha.2.1)) fun n hn => ?_
  have hn : n = 40 ∨ n = 60 := by
    have := hn.1
    simp only [List.mem_cons, List.not_mem_nil, or_false] at this
    omega
  refine Hd.bind (text_ok ha.2.2 (by omega) (by omega)) fun t ht => Hd.bind (hd_rng1 (by omega) (by omega)) ?_
  rintro _ rfl
  refine Hd.bind (Hd.loopN ht.2 fun y _ s hs => l2_ok hs (by omega)) fun c hc => Hd.ctl hc fun s _ => Hd.ret ⟨_, rfl, trivial⟩
end Lk05

namespace Lk05
open PySem PySem.Spec L2 MK
def topS (i : Nat) : Stmt := PySem.Challenge.pw_likemarks_k05_words_over_marks.main.body.getD i (.Pass ⟨0, 0, 0, 0⟩)
abbrev s0 : Stmt := topS 4
abbrev s1 : Stmt := topS 5
abbrev s2 : Stmt := topS 6
abbrev s3 : Stmt := topS 7
abbrev s4 : Stmt := topS 8
abbrev s5 : Stmt := topS 9
abbrev s6 : Stmt := topS 10
abbrev s7 : Stmt := topS 1
abbrev s8 : Stmt := topS 2
abbrev s9 : Stmt := topS 11
abbrev s10 : Stmt := topS 12
theorem lit0 : (Str.ofString "abcdefghijklmnopqrstuvwxyz") = sS Lit0 := by decide +kernel
theorem lit0_ok : OkS Lit0 := OkS.lit (by decide +kernel)
theorem lit1 : (Str.ofString "") = sS Lit1 := by decide +kernel
theorem lit1_ok : OkS Lit1 := OkS.lit (by decide +kernel)
structure Txt (K : PySem.W.Frag) (mg : Str → Option Value) (fa : Nat → Addr) (fd : Nat → FuncData) : Prop where
  f0 : Fun K "_law_pot_of" "_law_pot_of" s0 (fa 0) (fd 0)
  g0 : mg "_law_pot_of" = some (.ref (fa 0))
  b0 : Binds K (fd 0) ["_law_script", "_law_k"] []
  f1 : Fun K "_law_pick" "_law_pick" s1 (fa 1) (fd 1)
  g1 : mg "_law_pick" = some (.ref (fa 1))
  b1 : Binds K (fd 1) ["_law_pot", "_law_many"] []
  f2 : Fun K "_law_signs_of" "_law_signs_of" s2 (fa 2) (fd 2)
  g2 : mg "_law_signs_of" = some (.ref (fa 2))
  b2 : Binds K (fd 2) ["_law_pot"] []
  f3 : Fun K "_law_standard_text" "_law_standard_text" s3 (fa 3) (fd 3)
  g3 : mg "_law_standard_text" = some (.ref (fa 3))
  b3 : Binds K (fd 3) ["_law_pot", "_law_signs", "_law_many"] []
  f4 : Fun K "_law_text_of" "_law_text_of" s4 (fa 4) (fd 4)
  g4 : mg "_law_text_of" = some (.ref (fa 4))
  b4 : Binds K (fd 4) ["_law_pot", "_law_most"] []
  f5 : Fun K "_law_spots_of" "_law_spots_of" s5 (fa 5) (fd 5)
  g5 : mg "_law_spots_of" = some (.ref (fa 5))
  b5 : Binds K (fd 5) ["_law_pot", "_law_text"] []
  f6 : Fun K "_law_word_of" "_law_word_of" s6 (fa 6) (fd 6)
  g6 : mg "_law_word_of" = some (.ref (fa 6))
  b6 : Binds K (fd 6) ["_law_pot", "_law_text"] []
  f7 : Fun K "marks_ahead" "marks_ahead" s7 (fa 7) (fd 7)
  g7 : mg "marks_ahead" = some (.ref (fa 7))
  b7 : Binds K (fd 7) ["row", "marks"] []
  f8 : Fun K "over" "over" s8 (fa 8) (fd 8)
  g8 : mg "over" = some (.ref (fa 8))
  b8 : Binds K (fd 8) ["row", "marks", "word"] []
  f9 : Fun K "_law_is_same" "_law_is_same" s9 (fa 9) (fd 9)
  g9 : mg "_law_is_same" = some (.ref (fa 9))
  b9 : Binds K (fd 9) ["_law_found", "_law_due"] []
  f10 : Fun K "law" "law" s10 (fa 10) (fd 10)
  g10 : mg "law" = some (.ref (fa 10))
  b10 : Binds K (fd 10) ["_law_script"] []
  n_abs : mg "abs" = none
  n_bool : mg "bool" = none
  n_dict : mg "dict" = none
  n_int : mg "int" = none
  n_isinstance : mg "isinstance" = none
  n_len : mg "len" = none
  n_list : mg "list" = none
  n_max : mg "max" = none
  n_min : mg "min" = none
  n_range : mg "range" = none
section
variable {P : Program} {w : World} {K : PySem.W.Frag} {mg : Str → Option Value} {base : Heap} {fa : Nat → Addr} {fd : Nat → FuncData}
theorem sc_law_pot_of : FnScope ["_law_script", "_law_k", "_law_cell"] ["_law_script", "_law_k"] (defScope s0) := ⟨rfl, rfl, rfl, by decide +kernel, rfl, by decide +kernel, by decide +kernel⟩
def sp_law_pot_of (K : PySem.W.Frag) : Sp := fun vs H Q E => ∃ (script_1 : (List Int)) (v_2 : V) (k_4 : Int) (v_5 : V) (G : Hp) (r : (List Int)), vs = [v_2, v_5] ∧ L2.Same G H ∧ (pScr K) script_1 v_2 G ∧ pI k_4 v_5 G ∧ m_law_pot_of script_1 k_4 = some r ∧ (∀ p vs G1 H1, Post [] G H G1 H1 → H p = none → G1 p = none → H1 p = some (.lst vs) → All2 pI G1 r vs → r.length ≤ sizeLine → Q (.ref p) H1)
theorem ok_law_pot_of (T : Txt K mg fa fd) : FnOk P w K mg base CX0 1 (fa 0) (fd 0) ["_law_script", "_law_k"] (sp_law_pot_of K) := by
  refine T.f0.ok sc_law_pot_of (fun vs H Q E h => ?_) (fun cdv A outer s H vs Q E hr h => ?_)
  · obtain ⟨_, _, _, _, _, _, rfl, _⟩ := h; rfl
  · obtain ⟨script_1, v_2, k_4, v_5, G0, r0, rfl, hs0, h_3, h_6, hm, hq⟩ := h
    obtain rfl := h_6
    refine ⟨_, (pss_cons (ps_set (i := 2) sc_law_pot_of.nd rfl (Or.inl rfl) pe_int)
      (pss_cons (ps_if (pt_cmpR op_lt (pv 1) (pe_callB (call_lenQ (K := K) rfl) (by rfl) T.n_len PySem.boot_len (pa_cons (pv 0) pa_nil)) (nomark _)) (pss_cons (ps_set (i := 2) sc_law_pot_of.nd rfl (Or.inl rfl) (pe_op op_mod (pe_callB call_absI (by rfl) T.n_abs (by decide +kernel) (pa_cons (pe_ix (ix_listK (K := K) rfl) (pv 0) (pv 1) (fun _ _ => rfl)) pa_nil)) (pe_op op_powX (pe_op op_powX pe_int pe_int) pe_int)))
      pss_nil) pss_nil)
      (pss_cons (ps_ret (pe_lst (pa_cons (pe_op op_mulW (pv 2) (pe_callTy call_int1I (by rfl) T.n_int (by decide +kernel) (pa_cons (pe_cmpR op_ge (pv 2) (pe_op op_powX pe_int pe_int) (nomark _)) pa_nil))) (pa_cons (pe_op op_mod (pe_op op_powX (pe_op op_add (pe_op op_add (pe_op op_mod (pv 2) pe_int) (pe_op op_mul pe_int (pv 1))) pe_int) pe_int) pe_int) pa_nil))))
      pss_nil))), ?_⟩
    have w0 : W H G0 [] G0 [] H := W.init hs0
    refine st_conv (σ' := [some v_2, some (V.int k_4), none]) rfl ?_
    refine cps_asg (fun x => [some v_2, some (V.int k_4), some x]) (fun _ => rfl) ?_
    refine ev_use ev_c ?_
    refine s_if0 ?_
    refine et_use (et_test (ev_op (ev_var rfl) (ev_cb (ea_cons (ev_var rfl) ea_nil) (kk_lenScr (Mn.mono h_3 w0.sub))) (k_ltI _ _))) ?_
    obtain ⟨j_7, hm_if, hm⟩ := bindS hm
    refine cut_if4 (P := (fun σ1 H1 => ∃ G1, σ1 = [some v_2, some (V.int k_4), some (V.int j_7)] ∧ L2.Same G0 G1 ∧ W H G0 [] G1 [] H1)) _ ?_ ?_ ?_
    · intro hb_8 N_9 kn_10
      have hm := iteT' hm_if hb_8
      refine cps_asg (fun x => [some v_2, some (V.int k_4), some x]) (fun _ => rfl) ?_
      obtain ⟨t_11, e_t_11, hm⟩ := bindS hm
      obtain ⟨cell_12, e_cell_12, hm⟩ := bindS hm
      refine ev_use (castI e_cell_12 (ev_op (ev_cb (ea_cons (ev_op (ev_var rfl) (ev_var rfl) (k_idxScr (Mn.mono h_3 w0.sub) e_t_11)) ea_nil) (kk_abs _)) (ev_op (ev_op ev_c ev_c (k_powC _ _ (by decide +kernel))) ev_c (k_powC _ _ (by decide +kernel))) (k_modC _ _ (by decide +kernel)))) ?_
      refine cps_next ?_
      obtain rfl := someI hm
      exact kn_10 _ _ ⟨_, rfl, (L2.Same.refl _), w0⟩
    · intro hb_8 N_9 kn_10
      have hm := iteF' hm_if hb_8
      refine cps_next ?_
      obtain rfl := someI hm
      exact kn_10 _ _ ⟨_, rfl, (L2.Same.refl _), w0⟩
    rintro _ H_13 ⟨G_14, rfl, s_15, w_16⟩
    refine cps_ret ?_
    refine cps_lst ?_
    refine cps_cons ?_
    obtain ⟨t_17, e_t_17, hm⟩ := bindS hm
    refine ev_use (ev_op (ev_var rfl) (ev_cb (ea_cons (ev_op (ev_var rfl) (ev_op ev_c ev_c (k_powC _ _ (by decide +kernel))) (k_geI _ _)) ea_nil) (kk_intB _)) (k_mul e_t_17)) ?_
    refine cps_cons ?_
    obtain ⟨t_18, e_t_18, hm⟩ := bindS hm
    refine ev_use (ev_op (ev_op (ev_op (ev_op (ev_op (ev_var rfl) ev_c (k_modC _ _ (by decide +kernel))) (ev_op ev_c (ev_var rfl) (k_mulC _ _ (Or.inl ⟨by decide, by decide⟩))) (k_add _ _)) ev_c (k_add _ _)) ev_c (k_pow e_t_18)) ev_c (k_modC _ _ (by decide +kernel))) ?_
    refine cps_nil ?_
    refine ⟨lenle rfl, fun p_19 hp_19 => ?_⟩
    have ha_20 : All2 pI G_14 [t_17, (t_18 % (2147483647))] [(V.int t_17), (V.int (t_18 % (2147483647)))] := (All2.cons rfl (All2.cons rfl .nil))
    have hE_22 := W.freshE w_16 hp_19
    have w_21 := W.cell w_16 hp_19 (.lst [(V.int t_17), (V.int (t_18 % (2147483647)))])
    have er := (someI hm).symm
    subst er
    exact hq _ _ _ _ (W.post w_21) hE_22 (W.out w_21 _ (List.Mem.head _)) (W.at w_21 0) ha_20 (lenle rfl) 

theorem sc_law_pick : FnScope ["_law_pot", "_law_many", "_law_digit"] ["_law_pot", "_law_many"] (defScope s1) := ⟨rfl, rfl, rfl, by decide +kernel, rfl, by decide +kernel, by decide +kernel⟩
def sp_law_pick (K : PySem.W.Frag) : Sp := fun vs H Q E => ∃ (a_3 : Addr) (pot_1 : (List Int)) (many_7 : Int) (v_8 : V) (G : Hp) (r : (Int × (List Int))), vs = [.ref a_3, v_8] ∧ L2.Same G H ∧ G a_3 = none ∧ H a_3 = some (.lst (pot_1.map V.int)) ∧ pot_1.length ≤ sizeLine ∧ pI many_7 v_8 G ∧ m_law_pick pot_1 many_7 = some r ∧ (∀ v G1 H1, Post [a_3] G H G1 H1 → pI r.1 v G1 → H1 a_3 = some (.lst (r.2.map V.int)) → r.2.length ≤ sizeLine → Q v H1)
theorem ok_law_pick (T : Txt K mg fa fd) : FnOk P w K mg base CX0 1 (fa 1) (fd 1) ["_law_pot", "_law_many"] (sp_law_pick K) := by
  refine T.f1.ok sc_law_pick (fun vs H Q E h => ?_) (fun cdv A outer s H vs Q E hr h => ?_)
  · obtain ⟨_, _, _, _, _, _, rfl, _⟩ := h; rfl
  · obtain ⟨a_3, pot_1, many_7, v_8, G0, r0, rfl, hs0, h_4, h_5, h_6, h_9, hm, hq⟩ := h
    obtain rfl := h_9
    refine ⟨_, (pss_cons (ps_if (pt_cmpR op_gt (pe_ix (ix_listK (K := K) rfl) (pv 0) pe_int (fun _ _ => rfl)) pe_int (nomark _)) (pss_cons (ps_set (i := 2) sc_law_pick.nd rfl (Or.inl rfl) (pe_op op_mod (pe_ix (ix_listK (K := K) rfl) (pv 0) pe_int (fun _ _ => rfl)) (pv 1)))
      (pss_cons (ps_asg (pe_op op_fdiv (pe_ix (ix_listK (K := K) rfl) (pv 0) pe_int (fun _ _ => rfl)) (pv 1)) (pg_sub (pv 0) pe_int set_list))
      (pss_cons (ps_ret (pv 2))
      pss_nil))) pss_nil)
      (pss_cons (ps_asg (pe_op op_mod (pe_op op_add (pe_op op_mul (pe_ix (ix_listK (K := K) rfl) (pv 0) pe_int (fun _ _ => rfl)) pe_int) pe_int) pe_int) (pg_sub (pv 0) pe_int set_list))
      (pss_cons (ps_ret (pe_op op_mod (pe_op op_fdiv (pe_op op_mod (pe_op op_mulW (pe_ix (ix_listK (K := K) rfl) (pv 0) pe_int (fun _ _ => rfl)) (pe_ix (ix_listK (K := K) rfl) (pv 0) pe_int (fun _ _ => rfl))) pe_int) pe_int) (pv 1)))
      pss_nil))), ?_⟩
    have w0 : W H G0 [a_3] G0 [(a_3, .lst (pot_1.map V.int))] H := W.init1 hs0 h_5 h_4
    refine st_conv (σ' := [some (V.ref a_3), some (V.int many_7), none]) rfl ?_
    refine s_if0 ?_
    obtain ⟨t_10, e_t_10, hm⟩ := bindS hm
    obtain ⟨v_11, r_12, k_13⟩ := k_idxC (K := K) (W.at w0 0) (All2.ofInt _ G0) e_t_10
    obtain rfl := r_12
    refine et_use (et_test (ev_op (ev_op (ev_var rfl) ev_c k_13) ev_c (k_gtI _ _))) ?_
    refine if_cases _ (fun hb_14 => ?_) (fun hb_14 => ?_)
    · have hm := iteT' hm hb_14
      refine cps_asg (fun x => [some (V.ref a_3), some (V.int many_7), some x]) (fun _ => rfl) ?_
      obtain ⟨t_15, e_t_15, hm⟩ := bindS hm
      obtain ⟨v_16, r_17, k_18⟩ := k_idxC (K := K) (W.at w0 0) (All2.ofInt _ G0) e_t_15
      obtain rfl := r_17
      obtain ⟨t_19, e_t_19, hm⟩ := bindS hm
      refine ev_use (ev_op (ev_op (ev_var rfl) ev_c k_18) (ev_var rfl) (k_mod e_t_19)) ?_
      refine cps_asgG ?_
      obtain ⟨t_20, e_t_20, hm⟩ := bindS hm
      obtain ⟨v_21, r_22, k_23⟩ := k_idxC (K := K) (W.at w0 0) (All2.ofInt _ G0) e_t_20
      obtain rfl := r_22
      obtain ⟨t_24, e_t_24, hm⟩ := bindS hm
      refine ev_use (ev_op (ev_op (ev_var rfl) ev_c k_23) (ev_var rfl) (k_fdiv e_t_24)) ?_
      refine cps_sub ?_
      refine ev_use (ev_var rfl) ?_
      refine ev_use ev_c ?_
      obtain ⟨xs_25, e_xs_25, hm⟩ := bindS hm
      obtain ⟨j_26, hj_27, ha_28, hl_29⟩ := set_all (All2.ofInt _ G0) rfl e_xs_25
      refine set_hw (W.at w0 0) hj_27 ?_
      have hl_30 : xs_25.length ≤ sizeLine := by rw [hl_29]; exact h_6
      have w_31 : W H G0 [a_3] _ [(a_3, .lst ((pot_1.map V.int).set j_26 (V.int t_24)))] _ := W.write w0 0 rfl (.lst ((pot_1.map V.int).set j_26 (V.int t_24)))
      have q_33 := All2.int ha_28
      have w_32 : W H G0 [a_3] _ [(a_3, .lst (xs_25.map V.int))] _ := W.recell w_31 (by rw [← q_33])
      refine cps_ret ?_
      refine ev_use (ev_var rfl) ?_
      have er := (someI hm).symm
      subst er
      exact hq _ _ _ (W.post w_32) rfl (W.at w_32 0) hl_30
    have hm := iteF' hm hb_14
    refine cps_nextR ?_
    refine cps_asgG ?_
    obtain ⟨t_34, e_t_34, hm⟩ := bindS hm
    obtain ⟨v_35, r_36, k_37⟩ := k_idxC (K := K) (W.at w0 0) (All2.ofInt _ G0) e_t_34
    obtain rfl := r_36
    refine ev_use (ev_op (ev_op (ev_op (ev_op (ev_var rfl) ev_c k_37) ev_c (k_mulC _ _ (Or.inr ⟨by decide, by decide⟩))) ev_c (k_add _ _)) ev_c (k_modC _ _ (by decide +kernel))) ?_
    refine cps_sub ?_
    refine ev_use (ev_var rfl) ?_
    refine ev_use ev_c ?_
    obtain ⟨xs_38, e_xs_38, hm⟩ := bindS hm
    obtain ⟨j_39, hj_40, ha_41, hl_42⟩ := set_all (All2.ofInt _ G0) rfl e_xs_38
    refine set_hw (W.at w0 0) hj_40 ?_
    have hl_43 : xs_38.length ≤ sizeLine := by rw [hl_42]; exact h_6
    have w_44 : W H G0 [a_3] _ [(a_3, .lst ((pot_1.map V.int).set j_39 (V.int (((t_34 * (69621)) + (12345)) % (2147483647)))))] _ := W.write w0 0 rfl (.lst ((pot_1.map V.int).set j_39 (V.int (((t_34 * (69621)) + (12345)) % (2147483647)))))
    have q_46 := All2.int ha_41
    have w_45 : W H G0 [a_3] _ [(a_3, .lst (xs_38.map V.int))] _ := W.recell w_44 (by rw [← q_46])
    refine cps_ret ?_
    obtain ⟨t_47, e_t_47, hm⟩ := bindS hm
    obtain ⟨v_48, r_49, k_50⟩ := k_idxC (K := K) (W.at w_45 0) (All2.ofInt _ G0) e_t_47
    obtain rfl := r_49
    obtain ⟨t_51, e_t_51, hm⟩ := bindS hm
    obtain ⟨v_52, r_53, k_54⟩ := k_idxC (K := K) (W.at w_45 0) (All2.ofInt _ G0) e_t_51
    obtain rfl := r_53
    obtain ⟨t_55, e_t_55, hm⟩ := bindS hm
    obtain ⟨t_56, e_t_56, hm⟩ := bindS hm
    refine ev_use (ev_op (ev_op (ev_op (ev_op (ev_op (ev_var rfl) ev_c k_50) (ev_op (ev_var rfl) ev_c k_54) (k_mul e_t_55)) ev_c (k_modC _ _ (by decide +kernel))) ev_c (k_fdivC _ _ ⟨by decide, by decide⟩)) (ev_var rfl) (k_mod e_t_56)) ?_
    have er := (someI hm).symm
    subst er
    exact hq _ _ _ (W.post w_45) rfl (W.at w_45 0) hl_43

theorem sc_law_signs_of : FnScope ["_law_pot", "_law_first", "_law_step", "_law_k"] ["_law_pot"] (defScope s2) := ⟨rfl, rfl, rfl, by decide +kernel, rfl, by decide +kernel, by decide +kernel⟩
def sp_law_signs_of (K : PySem.W.Frag) : Sp := fun vs H Q E => ∃ (a_3 : Addr) (pot_1 : (List Int)) (G : Hp) (r : ((List (List Nat)) × (List Int))), vs = [.ref a_3] ∧ L2.Same G H ∧ G a_3 = none ∧ H a_3 = some (.lst (pot_1.map V.int)) ∧ pot_1.length ≤ sizeLine ∧ m_law_signs_of pot_1 = some r ∧ (∀ p vs G1 H1, Post [a_3] G H G1 H1 → H p = none → G1 p = none → H1 p = some (.lst vs) → All2 pS G1 r.1 vs → r.1.length ≤ sizeLine → H1 a_3 = some (.lst (r.2.map V.int)) → r.2.length ≤ sizeLine → Q (.ref p) H1)
theorem ok_law_signs_of (T : Txt K mg fa fd) : FnOk P w K mg base CX0 2 (fa 2) (fd 2) ["_law_pot"] (sp_law_signs_of K) := by
  refine T.f2.ok sc_law_signs_of (fun vs H Q E h => ?_) (fun cdv A outer s H vs Q E hr h => ?_)
  · obtain ⟨_, _, _, _, rfl, _⟩ := h; rfl
  · obtain ⟨a_3, pot_1, G0, r0, rfl, hs0, h_4, h_5, h_6, hm, hq⟩ := h
    refine ⟨_, (pss_cons (ps_set (i := 1) sc_law_signs_of.nd rfl (Or.inr rfl) (pe_call (ok_law_pick T) (hr.mono (by decide)) (by rfl) T.g1 T.f1.kp T.b1 .nil pass0 (pa_cons (pv 0) (pa_cons pe_int pa_nil))))
      (pss_cons (ps_set (i := 2) sc_law_signs_of.nd rfl (Or.inr rfl) (pe_ix (ix_tupK (K := K) rfl) (pe_tup (pa_cons pe_int (pa_cons pe_int (pa_cons pe_int (pa_cons pe_int (pa_cons pe_int (pa_cons pe_int (pa_cons pe_int (pa_cons pe_int pa_nil))))))))) (pe_call (ok_law_pick T) (hr.mono (by decide)) (by rfl) T.g1 T.f1.kp T.b1 .nil pass0 (pa_cons (pv 0) (pa_cons pe_int pa_nil))) (fun _ _ => rfl)))
      (pss_cons (ps_ret (pe_lc (own := [("_law_k", 3)]) rfl sc_law_signs_of.nd (pi_range1 (by rfl) T.n_range (pa_cons pe_int pa_nil)) (blkOk_by (N := ["_law_pot", "_law_first", "_law_step", "_law_k"]) (sc := (defScope s2)) (by decide +kernel)) (fun _ _ _ _ _ => (pg_name (i := 3) sc_law_signs_of.nd rfl (Or.inl rfl))) (fun _ _ _ _ _ => pts_nil) (fun _ _ _ _ _ => (pe_ix ix_str pe_str (pe_op op_mod (pe_op op_add (pv 1) (pe_op op_mulW (pv 2) (pv 3))) pe_int) (fun _ _ => rfl)))))
      pss_nil))), ?_⟩
    have w0 : W H G0 [a_3] G0 [(a_3, .lst (pot_1.map V.int))] H := W.init1 hs0 h_5 h_4
    refine st_conv (σ' := [some (V.ref a_3), none, none, none]) rfl ?_
    refine cps_asg (fun x => [some (V.ref a_3), some x, none, none]) (fun _ => rfl) ?_
    refine cps_call ?_
    refine cps_cons ?_
    refine ev_use (ev_var rfl) ?_
    refine cps_cons ?_
    refine ev_use ev_c ?_
    refine cps_nil ?_
    obtain ⟨r_7, e_r_7, hm⟩ := bindS hm
    refine ⟨a_3, pot_1, (26), (V.int (26)), _, r_7, rfl, w0.sub, (W.out w0 _ (List.Mem.head _)), (W.at w0 0), h_6, rfl, e_r_7, fun v_13 G_8 H_10 q_9 r_14 hc_15 hcl_16 => ?_⟩
    have w_11 : W H G0 [a_3] G_8 [(a_3, .lst (r_7.2.map V.int))] H_10 := W.callM w0 0 rfl q_9 hc_15
    obtain rfl := r_14
    refine cps_asg (fun x => [some (V.ref a_3), some (V.int r_7.1), some x, none]) (fun _ => rfl) ?_
    refine cps_op ?_
    refine cps_tup ?_
    refine cps_cons ?_
    refine ev_use ev_c ?_
    refine cps_cons ?_
    refine ev_use ev_c ?_
    refine cps_cons ?_
    refine ev_use ev_c ?_
    refine cps_cons ?_
    refine ev_use ev_c ?_
    refine cps_cons ?_
    refine ev_use ev_c ?_
    refine cps_cons ?_
    refine ev_use ev_c ?_
    refine cps_cons ?_
    refine ev_use ev_c ?_
    refine cps_cons ?_
    refine ev_use ev_c ?_
    refine cps_nil ?_
    refine ⟨lenle rfl, fun p_17 hp_17 => ?_⟩
    have s_19 := same_lay (o := .tup [(V.int (1)), (V.int (3)), (V.int (5)), (V.int (7)), (V.int (9)), (V.int (11)), (V.int (15)), (V.int (25))]) w_11 hp_17
    have w_18 := W.lay w_11 hp_17 (.tup [(V.int (1)), (V.int (3)), (V.int (5)), (V.int (7)), (V.int (9)), (V.int (11)), (V.int (15)), (V.int (25))])
    refine cps_call ?_
    refine cps_cons ?_
    refine ev_use (ev_var rfl) ?_
    refine cps_cons ?_
    refine ev_use ev_c ?_
    refine cps_nil ?_
    obtain ⟨r_21, e_r_21, hm⟩ := bindS hm
    refine ⟨a_3, r_7.2, (8), (V.int (8)), _, r_21, rfl, w_18.sub, (W.out w_18 _ (List.Mem.head _)), (W.at w_18 0), hcl_16, rfl, e_r_21, fun v_27 G_22 H_24 q_23 r_28 hc_29 hcl_30 => ?_⟩
    have w_25 : W H G0 [a_3] G_22 [(a_3, .lst (r_21.2.map V.int))] H_24 := W.callM w_18 0 rfl q_23 hc_29
    obtain rfl := r_28
    obtain ⟨t_31, e_t_31, hm⟩ := bindS hm
    have ha_35 : All2 pI G_22 [(1), (3), (5), (7), (9), (11), (15), (25)] [(V.int (1)), (V.int (3)), (V.int (5)), (V.int (7)), (V.int (9)), (V.int (11)), (V.int (15)), (V.int (25))] := (All2.cons rfl (All2.cons rfl (All2.cons rfl (All2.cons rfl (All2.cons rfl (All2.cons rfl (All2.cons rfl (All2.cons rfl .nil))))))))
    obtain ⟨v_32, r_33, k_34⟩ := k_idxTG (K := K) (w_25.sub _ _ ((Post.base q_23) _ _ upd_same)) ha_35 e_t_31
    obtain rfl := r_33
    refine k_34 _ ?_
    refine cps_ret ?_
    refine cps_lc ?_
    refine cps_rng1 ?_
    refine cps_cons ?_
    refine ev_use ev_c ?_
    refine cps_nil ?_
    obtain ⟨xs_36, e_xs_36, hm⟩ := bindS hm
    obtain ⟨hb_37, hx_39, hl_38⟩ := rng1_ok e_xs_36
    refine ⟨_, rfl, hb_37.1, hb_37.2, ?_⟩
    intro D_40 hD_40
    have hE_41 := W.freshE w_25 hD_40
    obtain ⟨ys_67, e_ys_67, hm⟩ := bindS hm
    have w_68 := W.cell w_25 hD_40 (.lst [])
    refine lc_wM walk_range (by rw [hx_39]; exact rangeL_len _ _) e_ys_67 hl_38 (fun av acc H1 => ∃ G1, L2.Same G_22 G1 ∧ W H G0 [a_3] G1 [(D_40, .lst av), (a_3, .lst (r_21.2.map V.int))] H1 ∧ All2 pS G1 acc av) ⟨_, (L2.Same.refl _), w_68, .nil⟩ (fun _ _ _ _ => True.intro) ?_ ?_
    · intro i_42 x_43 r_59 v_44 av_45 acc_46 H_47 H_48 hx_49 hm hP_51 hlt_52 hy_53 N_54 ks_56
      obtain ⟨G_60, s_61, w_62, ha_63⟩ := hP_51
      rw [hx_39] at hx_49
      obtain ⟨rfl, rfl⟩ := rng_item hx_49 hy_53
      refine lc_nm (τ := [some (V.ref a_3), some (V.int r_7.1), some (V.int t_31), some (V.int x_43)]) rfl rfl ?_
      refine iteT_yes ?_
      obtain ⟨t_64, e_t_64, hm⟩ := bindS hm
      obtain ⟨t_65, e_t_65, hm⟩ := bindS hm
      refine ev_use (ev_op (ev_str lit0) (ev_op (ev_op (ev_var rfl) (ev_op (ev_var rfl) (ev_var rfl) (k_mul e_t_64)) (k_add _ _)) ev_c (k_modC _ _ (by decide +kernel))) (k_idxS lit0_ok e_t_65)) ?_
      have w_66 : W H G0 [a_3] _ [(D_40, .lst (av_45 ++ [(vS t_65)])), (a_3, .lst (r_21.2.map V.int))] _ := W.write w_62 0 rfl (.lst (av_45 ++ [(vS t_65)]))
      obtain rfl := someI hm
      exact ⟨_, (W.at w_62 0), hlt_52, ks_56 _ _ ⟨_, s_61, w_66, (All2.app ha_63 (All2.one ⟨rfl, (OkS.idx lit0_ok e_t_65)⟩))⟩⟩
    rintro av_69 H_70 ⟨G_71, s_72, w_73, ha_74⟩
    have hl_75 : ys_67.length ≤ sizeLine := Nat.le_trans (mapP_len e_ys_67) (lenz (by rw [hx_39]; exact rangeL_len _ _) hl_38)
    have er := (someI hm).symm
    subst er
    exact hq _ _ _ _ (W.post w_73) hE_41 (W.out w_73 _ (List.Mem.head _)) (W.at w_73 0) ha_74 hl_75 (W.at w_73 1) hcl_30

theorem sc_law_standard_text : FnScope ["_law_pot", "_law_signs", "_law_many", "_law_one", "_law_other", "_law_turn"] ["_law_pot", "_law_signs", "_law_many"] (defScope s3) := ⟨rfl, rfl, rfl, by decide +kernel, rfl, by decide +kernel, by decide +kernel⟩
def sp_law_standard_text (K : PySem.W.Frag) : Sp := fun vs H Q E => ∃ (a_3 : Addr) (pot_1 : (List Int)) (signs_7 : (List (List Nat))) (v_8 : V) (many_10 : Int) (v_11 : V) (G : Hp) (r : ((List Nat) × (List Int))), vs = [.ref a_3, v_8, v_11] ∧ L2.Same G H ∧ G a_3 = none ∧ H a_3 = some (.lst (pot_1.map V.int)) ∧ pot_1.length ≤ sizeLine ∧ (pL pS) signs_7 v_8 G ∧ pI many_10 v_11 G ∧ m_law_standard_text pot_1 signs_7 many_10 = some r ∧ (∀ v G1 H1, Post [a_3] G H G1 H1 → pS r.1 v G1 → H1 a_3 = some (.lst (r.2.map V.int)) → r.2.length ≤ sizeLine → Q v H1)
theorem ok_law_standard_text (T : Txt K mg fa fd) : FnOk P w K mg base CX0 2 (fa 3) (fd 3) ["_law_pot", "_law_signs", "_law_many"] (sp_law_standard_text K) := by
  refine T.f3.ok sc_law_standard_text (fun vs H Q E h => ?_) (fun cdv A outer s H vs Q E hr h => ?_)
  · obtain ⟨_, _, _, _, _, _, _, _, rfl, _⟩ := h; rfl
  · obtain ⟨a_3, pot_1, signs_7, v_8, many_10, v_11, G0, r0, rfl, hs0, h_4, h_5, h_6, h_9, h_12, hm, hq⟩ := h
    obtain rfl := h_12
    refine ⟨_, (pss_cons (ps_par (i := 3) (j := 4) (by rfl) sc_law_standard_text.nd rfl rfl (by decide) rfl rfl (pa_cons (pe_ix (ix_listK (K := K) rfl) (pv 1) pe_int (fun _ _ => rfl)) (pa_cons (pe_ix (ix_listK (K := K) rfl) (pv 1) pe_int (fun _ _ => rfl)) pa_nil)) (by rfl))
      (pss_cons (ps_for PassesOwn.never rfl (pi_range1 (by rfl) T.n_range (pa_cons pe_int pa_nil)) (pg_name (i := 5) sc_law_standard_text.nd rfl (Or.inl rfl)) (pss_cons (ps_if (pt_cmpR op_lt (pe_callB call_lenS (by rfl) T.n_len PySem.boot_len (pa_cons (pv 4) pa_nil)) (pv 2) (nomark _)) (pss_cons (ps_par (i := 3) (j := 4) (by rfl) sc_law_standard_text.nd rfl rfl (by decide) rfl rfl (pa_cons (pv 4) (pa_cons (pe_op op_catS (pe_op op_repS (pv 4) (pe_op op_add pe_int (pe_call (ok_law_pick T) (hr.mono (by decide)) (by rfl) T.g1 T.f1.kp T.b1 .nil pass0 (pa_cons (pv 0) (pa_cons pe_int pa_nil))))) (pv 3)) pa_nil)) (by rfl))
      pss_nil) pss_nil)
      pss_nil))
      (pss_cons (ps_ret (pe_slice sl_str (pv 4) po_none (po_some (pv 2))))
      pss_nil))), ?_⟩
    have w0 : W H G0 [a_3] G0 [(a_3, .lst (pot_1.map V.int))] H := W.init1 hs0 h_5 h_4
    refine st_conv (σ' := [some (V.ref a_3), some v_8, some (V.int many_10), none, none, none]) rfl ?_
    refine cps_par (fun x y => [some (V.ref a_3), some v_8, some (V.int many_10), some x, some y, none]) (fun _ _ => rfl) ?_
    refine cps_cons ?_
    obtain ⟨t_13, e_t_13, hm⟩ := bindS hm
    obtain ⟨v_14, r_15, k_16⟩ := k_idxG (K := K) h_9 w0.sub e_t_13
    obtain ⟨rfl, ok_17⟩ := r_15
    refine ev_use (ev_op (ev_var rfl) ev_c k_16) ?_
    refine cps_cons ?_
    obtain ⟨t_18, e_t_18, hm⟩ := bindS hm
    obtain ⟨v_19, r_20, k_21⟩ := k_idxG (K := K) h_9 w0.sub e_t_18
    obtain ⟨rfl, ok_22⟩ := r_20
    refine ev_use (ev_op (ev_var rfl) ev_c k_21) ?_
    refine cps_nil ?_
    refine ⟨_, _, rfl, ?_⟩
    refine cps_forG ?_
    refine cps_rng1 ?_
    refine cps_cons ?_
    refine ev_use ev_c ?_
    refine cps_nil ?_
    obtain ⟨xs_23, e_xs_23, hm⟩ := bindS hm
    obtain ⟨hb_24, hx_26, hl_25⟩ := rng1_ok e_xs_23
    refine ⟨_, rfl, hb_24.1, hb_24.2, ?_⟩
    obtain ⟨res_43, e_res_43, hm⟩ := bindS hm
    refine fold_w3 walk_range (by rw [hx_26]; exact rangeL_len _ _) e_res_43 (fun s1 σ1 H1 => ∃ o1_ : Option V, ∃ G1, σ1 = [some (V.ref a_3), some v_8, some (V.int many_10), some (vS s1.1), some (vS s1.2.1), o1_] ∧ L2.Same G0 G1 ∧ W H G0 [a_3] G1 [(a_3, .lst (s1.2.2.map V.int))] H1 ∧ OkS s1.1 ∧ OkS s1.2.1 ∧ s1.2.2.length ≤ sizeLine) ⟨_, _, rfl, (L2.Same.refl _), w0, ok_17, ok_22, h_6⟩ (fun _ _ _ _ => True.intro) ?_ ?_
    · intro i_27 x_28 s_29 c_30 v_31 sg_32 H_33 H_34 hx_35 hm hP_38 hy_39 N_40 kn_41
      obtain ⟨o_44, G_48, rfl, s_49, w_50, ok_45, ok_46, hl_47⟩ := hP_38
      rw [hx_26] at hx_35
      obtain ⟨rfl, rfl⟩ := rng_item hx_35 hy_39
      refine for_nm (τ := [some (V.ref a_3), some v_8, some (V.int many_10), some (vS s_29.1), some (vS s_29.2.1), some (V.int x_28)]) rfl ?_
      refine s_if0 ?_
      refine et_use (et_test (ev_op (ev_cb (ea_cons (ev_var rfl) ea_nil) (kk_lenS ok_46)) (ev_var rfl) (k_ltI _ _))) ?_
      obtain ⟨j_51, hm_if, hm⟩ := bindS hm
      refine cut_if4 (P := (fun σ1 H1 => ∃ G1, σ1 = [some (V.ref a_3), some v_8, some (V.int many_10), some (vS j_51.1), some (vS j_51.2.1), some (V.int x_28)] ∧ L2.Same G_48 G1 ∧ W H G0 [a_3] G1 [(a_3, .lst (j_51.2.2.map V.int))] H1 ∧ OkS j_51.1 ∧ OkS j_51.2.1 ∧ j_51.2.2.length ≤ sizeLine)) _ ?_ ?_ ?_
      · intro hb_52 N_53 kn_54
        have hm := iteT' hm_if hb_52
        refine cps_par (fun x y => [some (V.ref a_3), some v_8, some (V.int many_10), some x, some y, some (V.int x_28)]) (fun _ _ => rfl) ?_
        refine cps_cons ?_
        refine ev_use (ev_var rfl) ?_
        refine cps_cons ?_
        refine cps_op ?_
        refine cps_op ?_
        refine ev_use (ev_var rfl) ?_
        refine cps_op ?_
        refine ev_use ev_c ?_
        refine cps_call ?_
        refine cps_cons ?_
        refine ev_use (ev_var rfl) ?_
        refine cps_cons ?_
        refine ev_use ev_c ?_
        refine cps_nil ?_
        obtain ⟨r_55, e_r_55, hm⟩ := bindS hm
        refine ⟨a_3, s_29.2.2, (3), (V.int (3)), _, r_55, rfl, w_50.sub, (W.out w_50 _ (List.Mem.head _)), (W.at w_50 0), hl_47, rfl, e_r_55, fun v_61 G_56 H_58 q_57 r_62 hc_63 hcl_64 => ?_⟩
        have w_59 : W H G0 [a_3] G_56 [(a_3, .lst (r_55.2.map V.int))] H_58 := W.callM w_50 0 rfl q_57 hc_63
        obtain rfl := r_62
        refine k_add _ _ _ ?_
        obtain ⟨t_65, e_t_65, hm⟩ := bindS hm
        refine k_rep ok_46 e_t_65 _ ?_
        refine ev_use (ev_var rfl) ?_
        obtain ⟨t_66, e_t_66, hm⟩ := bindS hm
        refine kk_cat e_t_66 _ ?_
        refine cps_nil ?_
        refine ⟨_, _, rfl, ?_⟩
        refine cps_next ?_
        obtain rfl := someI hm
        exact kn_54 _ _ ⟨_, rfl, (Post.base q_57), w_59, ok_46, (OkS.cat (OkS.rep ok_46 e_t_65) ok_45 e_t_66), hcl_64⟩
      · intro hb_52 N_53 kn_54
        have hm := iteF' hm_if hb_52
        refine cps_next ?_
        obtain rfl := someI hm
        exact kn_54 _ _ ⟨_, rfl, (L2.Same.refl _), w_50, ok_45, ok_46, hl_47⟩
      rintro _ H_67 ⟨G_71, rfl, s_72, w_73, ok_68, ok_69, hl_70⟩
      refine cps_next ?_
      obtain rfl := someI hm
      exact kn_41 _ _ ⟨_, _, rfl, (L2.Same.trans s_49 s_72), w_73, ok_68, ok_69, hl_70⟩
    rintro _ H_74 ⟨o_75, G_79, rfl, s_80, w_81, ok_76, ok_77, hl_78⟩
    refine cps_ret ?_
    refine ev_use (ev_sl (ev_var rfl) eo_none (eo_some (ev_var rfl)) (k_cutS ok_77)) ?_
    have er := (someI hm).symm
    subst er
    exact hq _ _ _ (W.post w_81) ⟨rfl, (OkS.cut ok_77 _ _)⟩ (W.at w_81 0) hl_78

theorem sc_law_text_of : FnScope ["_law_pot", "_law_most", "_law_way", "_law_many", "_law_signs", "_law_wide", "_law_text", "_law_at", "_law_place"] ["_law_pot", "_law_most"] (defScope s4) := ⟨rfl, rfl, rfl, by decide +kernel, rfl, by decide +kernel, by decide +kernel⟩
def sp_law_text_of (K : PySem.W.Frag) : Sp := fun vs H Q E => ∃ (a_3 : Addr) (pot_1 : (List Int)) (most_7 : Int) (v_8 : V) (G : Hp) (r : ((List Nat) × (List Int))), vs = [.ref a_3, v_8] ∧ L2.Same G H ∧ G a_3 = none ∧ H a_3 = some (.lst (pot_1.map V.int)) ∧ pot_1.length ≤ sizeLine ∧ pI most_7 v_8 G ∧ m_law_text_of pot_1 most_7 = some r ∧ (∀ v G1 H1, Post [a_3] G H G1 H1 → pS r.1 v G1 → H1 a_3 = some (.lst (r.2.map V.int)) → r.2.length ≤ sizeLine → Q v H1)
theorem ok_law_text_of (T : Txt K mg fa fd) : FnOk P w K mg base CX0 3 (fa 4) (fd 4) ["_law_pot", "_law_most"] (sp_law_text_of K) := by
  refine T.f4.ok sc_law_text_of (fun vs H Q E h => ?_) (fun cdv A outer s H vs Q E hr h => ?_)
  · obtain ⟨_, _, _, _, _, _, rfl, _⟩ := h; rfl
  · obtain ⟨a_3, pot_1, most_7, v_8, G0, r0, rfl, hs0, h_4, h_5, h_6, h_9, hm, hq⟩ := h
    obtain rfl := h_9
    refine ⟨_, (pss_cons (ps_set (i := 2) sc_law_text_of.nd rfl (Or.inl rfl) (pe_call (ok_law_pick T) (hr.mono (by decide)) (by rfl) T.g1 T.f1.kp T.b1 .nil pass0 (pa_cons (pv 0) (pa_cons pe_int pa_nil))))
      (pss_cons (ps_set (i := 3) sc_law_text_of.nd rfl (Or.inl rfl) (pe_call (ok_law_pick T) (hr.mono (by decide)) (by rfl) T.g1 T.f1.kp T.b1 .nil pass0 (pa_cons (pv 0) (pa_cons (pe_op op_add (pv 1) pe_int) pa_nil))))
      (pss_cons (ps_if (pt_cmpR op_eq (pe_call (ok_law_pick T) (hr.mono (by decide)) (by rfl) T.g1 T.f1.kp T.b1 .nil pass0 (pa_cons (pv 0) (pa_cons pe_int pa_nil))) pe_int (nomark _)) (pss_cons (ps_set (i := 3) sc_law_text_of.nd rfl (Or.inl rfl) (pe_ix (ix_tupK (K := K) rfl) (pe_tup (pa_cons pe_int (pa_cons pe_int (pa_cons pe_int (pa_cons (pv 1) pa_nil))))) (pe_call (ok_law_pick T) (hr.mono (by decide)) (by rfl) T.g1 T.f1.kp T.b1 .nil pass0 (pa_cons (pv 0) (pa_cons pe_int pa_nil))) (fun _ _ => rfl)))
      pss_nil) pss_nil)
      (pss_cons (ps_set (i := 4) sc_law_text_of.nd rfl (Or.inr rfl) (pe_call (ok_law_signs_of T) (hr.mono (by decide)) (by rfl) T.g2 T.f2.kp T.b2 .nil pass0 (pa_cons (pv 0) pa_nil)))
      (pss_cons (ps_set (i := 5) sc_law_text_of.nd rfl (Or.inr rfl) (pe_ix (ix_tupK (K := K) rfl) (pe_tup (pa_cons pe_int (pa_cons pe_int (pa_cons pe_int (pa_cons pe_int pa_nil))))) (pe_call (ok_law_pick T) (hr.mono (by decide)) (by rfl) T.g1 T.f1.kp T.b1 .nil pass0 (pa_cons (pv 0) (pa_cons pe_int pa_nil))) (fun _ _ => rfl)))
      (pss_cons (ps_set (i := 6) sc_law_text_of.nd rfl (Or.inl rfl) (pe_joinN (K := K) rfl (pe_join pe_str (pe_lc (own := [("_law_place", 8)]) rfl sc_law_text_of.nd (pi_range1 (by rfl) T.n_range (pa_cons (pv 3) pa_nil)) (blkOk_by (N := ["_law_pot", "_law_most", "_law_way", "_law_many", "_law_signs", "_law_wide", "_law_text", "_law_at", "_law_place"]) (sc := (defScope s4)) (by decide +kernel)) (fun _ _ _ _ _ => (pg_name (i := 8) sc_law_text_of.nd rfl (Or.inl rfl))) (fun _ _ _ _ _ => pts_nil) (fun _ _ _ _ _ => (pe_ix (ix_listK (K := K) rfl) (pv 4) (pe_call (ok_law_pick T) (hr.mono (by decide)) (by rfl) T.g1 T.f1.kp T.b1 .nil pass0 (pa_cons (pv 0) (pa_cons (pv 5) pa_nil))) (fun _ _ => rfl)))))))
      (pss_cons (ps_if (pt_cmpR op_eq (pv 2) pe_int (nomark _)) (pss_cons (ps_set (i := 6) sc_law_text_of.nd rfl (Or.inl rfl) (pe_op op_repS (pe_ix (ix_listK (K := K) rfl) (pv 4) pe_int (fun _ _ => rfl)) (pv 3)))
      pss_nil) pss_nil)
      (pss_cons (ps_if (pt_cmpR op_eq (pv 2) pe_int (nomark _)) (pss_cons (ps_set (i := 6) sc_law_text_of.nd rfl (Or.inl rfl) (pe_slice sl_str (pe_op op_repS (pe_slice sl_str (pv 6) po_none (po_some (pe_op op_add pe_int (pe_call (ok_law_pick T) (hr.mono (by decide)) (by rfl) T.g1 T.f1.kp T.b1 .nil pass0 (pa_cons (pv 0) (pa_cons pe_int pa_nil)))))) (pv 3)) po_none (po_some (pv 3))))
      pss_nil) pss_nil)
      (pss_cons (ps_if (pt_cmpR op_eq (pv 2) pe_int (nomark _)) (pss_cons (ps_set (i := 6) sc_law_text_of.nd rfl (Or.inl rfl) (pe_call (ok_law_standard_text T) (hr.mono (by decide)) (by rfl) T.g3 T.f3.kp T.b3 .nil pass0 (pa_cons (pv 0) (pa_cons (pv 4) (pa_cons (pv 3) pa_nil)))))
      pss_nil) pss_nil)
      (pss_cons (ps_if (PW.pt (pw_and (pt_cmpR op_eq (pv 2) pe_int (nomark _)) (pw_and1 (pt_cmpR op_gt (pv 3) pe_int (nomark _))))) (pss_cons (ps_set (i := 7) sc_law_text_of.nd rfl (Or.inl rfl) (pe_call (ok_law_pick T) (hr.mono (by decide)) (by rfl) T.g1 T.f1.kp T.b1 .nil pass0 (pa_cons (pv 0) (pa_cons (pv 3) pa_nil))))
      (pss_cons (ps_set (i := 6) sc_law_text_of.nd rfl (Or.inl rfl) (pe_op op_catS (pe_op op_catS (pe_op op_repS (pe_ix (ix_listK (K := K) rfl) (pv 4) pe_int (fun _ _ => rfl)) (pv 7)) (pe_ix (ix_listK (K := K) rfl) (pv 4) pe_int (fun _ _ => rfl))) (pe_op op_repS (pe_ix (ix_listK (K := K) rfl) (pv 4) pe_int (fun _ _ => rfl)) (pe_op op_sub (pe_op op_sub (pv 3) (pv 7)) pe_int))))
      pss_nil)) pss_nil)
      (pss_cons (ps_if (pt_cmpR op_eq (pv 2) pe_int (nomark _)) (pss_cons (ps_set (i := 6) sc_law_text_of.nd rfl (Or.inl rfl) (pe_slice sl_str (pe_op op_catS (pe_op op_catS (pe_slice sl_str (pv 6) po_none (po_some (pe_op op_fdiv (pv 3) pe_int))) (pe_revS (pe_slice sl_str (pv 6) po_none (po_some (pe_op op_fdiv (pv 3) pe_int))))) (pv 6)) po_none (po_some (pv 3))))
      pss_nil) pss_nil)
      (pss_cons (ps_ret (pv 6))
      pss_nil)))))))))))), ?_⟩
    have w0 : W H G0 [a_3] G0 [(a_3, .lst (pot_1.map V.int))] H := W.init1 hs0 h_5 h_4
    refine st_conv (σ' := [some (V.ref a_3), some (V.int most_7), none, none, none, none, none, none, none]) rfl ?_
    refine cps_asg (fun x => [some (V.ref a_3), some (V.int most_7), some x, none, none, none, none, none, none]) (fun _ => rfl) ?_
    refine cps_call ?_
    refine cps_cons ?_
    refine ev_use (ev_var rfl) ?_
    refine cps_cons ?_
    refine ev_use ev_c ?_
    refine cps_nil ?_
    obtain ⟨r_10, e_r_10, hm⟩ := bindS hm
    refine ⟨a_3, pot_1, (6), (V.int (6)), _, r_10, rfl, w0.sub, (W.out w0 _ (List.Mem.head _)), (W.at w0 0), h_6, rfl, e_r_10, fun v_16 G_11 H_13 q_12 r_17 hc_18 hcl_19 => ?_⟩
    have w_14 : W H G0 [a_3] G_11 [(a_3, .lst (r_10.2.map V.int))] H_13 := W.callM w0 0 rfl q_12 hc_18
    obtain rfl := r_17
    refine cps_asg (fun x => [some (V.ref a_3), some (V.int most_7), some (V.int r_10.1), some x, none, none, none, none, none]) (fun _ => rfl) ?_
    refine cps_call ?_
    refine cps_cons ?_
    refine ev_use (ev_var rfl) ?_
    refine cps_cons ?_
    refine ev_use (ev_op (ev_var rfl) ev_c (k_add _ _)) ?_
    refine cps_nil ?_
    obtain ⟨r_20, e_r_20, hm⟩ := bindS hm
    refine ⟨a_3, r_10.2, (most_7 + (1)), (V.int (most_7 + (1))), _, r_20, rfl, w_14.sub, (W.out w_14 _ (List.Mem.head _)), (W.at w_14 0), hcl_19, rfl, e_r_20, fun v_26 G_21 H_23 q_22 r_27 hc_28 hcl_29 => ?_⟩
    have w_24 : W H G0 [a_3] G_21 [(a_3, .lst (r_20.2.map V.int))] H_23 := W.callM w_14 0 rfl q_22 hc_28
    obtain rfl := r_27
    refine s_if0 ?_
    refine cps_test ?_
    refine cps_op ?_
    refine cps_call ?_
    refine cps_cons ?_
    refine ev_use (ev_var rfl) ?_
    refine cps_cons ?_
    refine ev_use ev_c ?_
    refine cps_nil ?_
    obtain ⟨r_30, e_r_30, hm⟩ := bindS hm
    refine ⟨a_3, r_20.2, (6), (V.int (6)), _, r_30, rfl, w_24.sub, (W.out w_24 _ (List.Mem.head _)), (W.at w_24 0), hcl_29, rfl, e_r_30, fun v_36 G_31 H_33 q_32 r_37 hc_38 hcl_39 => ?_⟩
    have w_34 : W H G0 [a_3] G_31 [(a_3, .lst (r_30.2.map V.int))] H_33 := W.callM w_24 0 rfl q_32 hc_38
    obtain rfl := r_37
    refine ev_use ev_c ?_
    refine (k_eqI _ _) _ ?_
    refine ⟨_, rfl, ?_⟩
    obtain ⟨j_40, hm_if, hm⟩ := bindS hm
    refine cut_if4 (P := (fun σ1 H1 => ∃ G1, σ1 = [some (V.ref a_3), some (V.int most_7), some (V.int r_10.1), some (V.int j_40.1), none, none, none, none, none] ∧ L2.Same G_31 G1 ∧ W H G0 [a_3] G1 [(a_3, .lst (j_40.2.map V.int))] H1 ∧ j_40.2.length ≤ sizeLine)) _ ?_ ?_ ?_
    · intro hb_41 N_42 kn_43
      have hm := iteT' hm_if hb_41
      refine cps_asg (fun x => [some (V.ref a_3), some (V.int most_7), some (V.int r_10.1), some x, none, none, none, none, none]) (fun _ => rfl) ?_
      refine cps_op ?_
      refine cps_tup ?_
      refine cps_cons ?_
      refine ev_use ev_c ?_
      refine cps_cons ?_
      refine ev_use ev_c ?_
      refine cps_cons ?_
      refine ev_use ev_c ?_
      refine cps_cons ?_
      refine ev_use (ev_var rfl) ?_
      refine cps_nil ?_
      refine ⟨lenle rfl, fun p_44 hp_44 => ?_⟩
      have s_46 := same_lay (o := .tup [(V.int (0)), (V.int (1)), (V.int (2)), (V.int most_7)]) w_34 hp_44
      have r_47 := pT4_new (p := p_44) (W.freshG w_34 hp_44) (show pI (0) (V.int (0)) G_31 from rfl) (show pI (1) (V.int (1)) G_31 from rfl) (show pI (2) (V.int (2)) G_31 from rfl) (show pI most_7 (V.int most_7) G_31 from rfl)
      have w_45 := W.lay w_34 hp_44 (.tup [(V.int (0)), (V.int (1)), (V.int (2)), (V.int most_7)])
      refine cps_call ?_
      refine cps_cons ?_
      refine ev_use (ev_var rfl) ?_
      refine cps_cons ?_
      refine ev_use ev_c ?_
      refine cps_nil ?_
      obtain ⟨r_48, e_r_48, hm⟩ := bindS hm
      refine ⟨a_3, r_30.2, (4), (V.int (4)), _, r_48, rfl, w_45.sub, (W.out w_45 _ (List.Mem.head _)), (W.at w_45 0), hcl_39, rfl, e_r_48, fun v_54 G_49 H_51 q_50 r_55 hc_56 hcl_57 => ?_⟩
      have w_52 : W H G0 [a_3] G_49 [(a_3, .lst (r_48.2.map V.int))] H_51 := W.callM w_45 0 rfl q_50 hc_56
      obtain rfl := r_55
      obtain ⟨t_58, e_t_58, hm⟩ := bindS hm
      have ha_62 : All2 pI G_49 [(0), (1), (2), most_7] [(V.int (0)), (V.int (1)), (V.int (2)), (V.int most_7)] := (All2.cons rfl (All2.cons rfl (All2.cons rfl (All2.cons rfl .nil))))
      obtain ⟨v_59, r_60, k_61⟩ := k_idxTG (K := K) (w_52.sub _ _ ((Post.base q_50) _ _ upd_same)) ha_62 e_t_58
      obtain rfl := r_60
      refine k_61 _ ?_
      refine cps_next ?_
      obtain rfl := someI hm
      exact kn_43 _ _ ⟨_, rfl, (L2.Same.trans s_46 (Post.base q_50)), w_52, hcl_57⟩
    · intro hb_41 N_42 kn_43
      have hm := iteF' hm_if hb_41
      refine cps_next ?_
      obtain rfl := someI hm
      exact kn_43 _ _ ⟨_, rfl, (L2.Same.refl _), w_34, hcl_39⟩
    rintro _ H_63 ⟨G_65, rfl, s_66, w_67, hl_64⟩
    refine cps_asg (fun x => [some (V.ref a_3), some (V.int most_7), some (V.int r_10.1), some (V.int j_40.1), some x, none, none, none, none]) (fun _ => rfl) ?_
    refine cps_call ?_
    refine cps_cons ?_
    refine ev_use (ev_var rfl) ?_
    refine cps_nil ?_
    obtain ⟨r_68, e_r_68, hm⟩ := bindS hm
    refine ⟨a_3, j_40.2, _, r_68, rfl, w_67.sub, (W.out w_67 _ (List.Mem.head _)), (W.at w_67 0), hl_64, e_r_68, fun p_74 vs_75 G_69 H_71 q_70 hp_78 hg_79 hh_80 ha_76 hl_77 hc_81 hcl_82 => ?_⟩
    have hE_83 := W.freshE w_67 hp_78
    have w_72 : W H G0 [a_3] (upd G_69 p_74 (.lst vs_75)) [(a_3, .lst (r_68.2.map V.int))] H_71 := W.callMLay w_67 0 rfl q_70 hc_81 hp_78 hg_79 hh_80
    have r_84 := pL_new hg_79 ha_76 hl_77
    refine cps_asg (fun x => [some (V.ref a_3), some (V.int most_7), some (V.int r_10.1), some (V.int j_40.1), some (V.ref p_74), some x, none, none, none]) (fun _ => rfl) ?_
    refine cps_op ?_
    refine cps_tup ?_
    refine cps_cons ?_
    refine ev_use ev_c ?_
    refine cps_cons ?_
    refine ev_use ev_c ?_
    refine cps_cons ?_
    refine ev_use ev_c ?_
    refine cps_cons ?_
    refine ev_use ev_c ?_
    refine cps_nil ?_
    refine ⟨lenle rfl, fun p_85 hp_85 => ?_⟩
    have s_87 := same_lay (o := .tup [(V.int (2)), (V.int (2)), (V.int (3)), (V.int (26))]) w_72 hp_85
    have r_88 := pT4_new (p := p_85) (W.freshG w_72 hp_85) (show pI (2) (V.int (2)) (upd G_69 p_74 (.lst vs_75)) from rfl) (show pI (2) (V.int (2)) (upd G_69 p_74 (.lst vs_75)) from rfl) (show pI (3) (V.int (3)) (upd G_69 p_74 (.lst vs_75)) from rfl) (show pI (26) (V.int (26)) (upd G_69 p_74 (.lst vs_75)) from rfl)
    have w_86 := W.lay w_72 hp_85 (.tup [(V.int (2)), (V.int (2)), (V.int (3)), (V.int (26))])
    refine cps_call ?_
    refine cps_cons ?_
    refine ev_use (ev_var rfl) ?_
    refine cps_cons ?_
    refine ev_use ev_c ?_
    refine cps_nil ?_
    obtain ⟨r_89, e_r_89, hm⟩ := bindS hm
    refine ⟨a_3, r_68.2, (4), (V.int (4)), _, r_89, rfl, w_86.sub, (W.out w_86 _ (List.Mem.head _)), (W.at w_86 0), hcl_82, rfl, e_r_89, fun v_95 G_90 H_92 q_91 r_96 hc_97 hcl_98 => ?_⟩
    have w_93 : W H G0 [a_3] G_90 [(a_3, .lst (r_89.2.map V.int))] H_92 := W.callM w_86 0 rfl q_91 hc_97
    obtain rfl := r_96
    obtain ⟨t_99, e_t_99, hm⟩ := bindS hm
    have ha_103 : All2 pI G_90 [(2), (2), (3), (26)] [(V.int (2)), (V.int (2)), (V.int (3)), (V.int (26))] := (All2.cons rfl (All2.cons rfl (All2.cons rfl (All2.cons rfl .nil))))
    obtain ⟨v_100, r_101, k_102⟩ := k_idxTG (K := K) (w_93.sub _ _ ((Post.base q_91) _ _ upd_same)) ha_103 e_t_99
    obtain rfl := r_101
    refine k_102 _ ?_
    refine cps_asg (fun x => [some (V.ref a_3), some (V.int most_7), some (V.int r_10.1), some (V.int j_40.1), some (V.ref p_74), some (V.int t_99), some x, none, none]) (fun _ => rfl) ?_
    refine cps_m1 ?_
    refine ev_use (ev_str lit1) ?_
    refine ⟨⟨_, rfl⟩, ?_⟩
    refine cps_lc ?_
    refine cps_rng1 ?_
    refine cps_cons ?_
    refine ev_use (ev_var rfl) ?_
    refine cps_nil ?_
    obtain ⟨xs_104, e_xs_104, hm⟩ := bindS hm
    obtain ⟨hb_105, hx_107, hl_106⟩ := rng1_ok e_xs_104
    refine ⟨_, rfl, hb_105.1, hb_105.2, ?_⟩
    intro D_108 hD_108
    have hE_109 := W.freshE w_93 hD_108
    obtain ⟨ys_149, e_ys_149, hm⟩ := bindS hm
    have w_150 := W.cell w_93 hD_108 (.lst [])
    refine lc_w walk_range (by rw [hx_107]; exact rangeL_len _ _) e_ys_149 hl_106 (fun av acc s H1 => ∃ G1, L2.Same G_90 G1 ∧ W H G0 [a_3] G1 [(D_108, .lst av), (a_3, .lst (s.map V.int))] H1 ∧ All2 pS G1 acc av ∧ s.length ≤ sizeLine) ⟨_, (L2.Same.refl _), w_150, .nil, hcl_98⟩ (fun _ _ _ _ _ => True.intro) ?_ ?_
    · intro i_110 x_111 s_125 r_127 s_126 v_112 av_113 acc_114 H_115 H_116 hx_117 hm hP_119 hlt_120 hy_121 N_122 kn_123 ks_124
      obtain ⟨G_128, s_129, w_130, ha_131, hl_132⟩ := hP_119
      rw [hx_107] at hx_117
      obtain ⟨rfl, rfl⟩ := rng_item hx_117 hy_121
      refine lc_nm (τ := [some (V.ref a_3), some (V.int most_7), some (V.int r_10.1), some (V.int j_40.1), some (V.ref p_74), some (V.int t_99), none, none, some (V.int x_111)]) rfl rfl ?_
      refine iteT_yes ?_
      refine cps_op ?_
      refine ev_use (ev_var rfl) ?_
      refine cps_call ?_
      refine cps_cons ?_
      refine ev_use (ev_var rfl) ?_
      refine cps_cons ?_
      refine ev_use (ev_var rfl) ?_
      refine cps_nil ?_
      obtain ⟨r_133, e_r_133, hm⟩ := bindS hm
      refine ⟨a_3, s_125, t_99, (V.int t_99), _, r_133, rfl, w_130.sub, (W.out w_130 _ (List.Mem.tail _ (List.Mem.head _))), (W.at w_130 1), hl_132, rfl, e_r_133, fun v_139 G_134 H_136 q_135 r_140 hc_141 hcl_142 => ?_⟩
      have w_137 : W H G0 [a_3] G_134 [(D_108, .lst av_113), (a_3, .lst (r_133.2.map V.int))] H_136 := W.callM w_130 1 rfl q_135 hc_141
      obtain rfl := r_140
      obtain ⟨t_143, e_t_143, hm⟩ := bindS hm
      obtain ⟨v_144, r_145, k_146⟩ := k_idxG (K := K) (Mn.mono r_84 (L2.Same.trans s_87 (L2.Same.trans (Post.base q_91) (L2.Same.trans s_129 (Post.base q_135))))) w_137.sub e_t_143
      obtain ⟨rfl, ok_147⟩ := r_145
      refine k_146 _ ?_
      have w_148 : W H G0 [a_3] _ [(D_108, .lst (av_113 ++ [(vS t_143)])), (a_3, .lst (r_133.2.map V.int))] _ := W.write w_137 0 rfl (.lst (av_113 ++ [(vS t_143)]))
      obtain ⟨rfl, rfl⟩ := Prod.mk.inj (someI hm)
      exact ⟨_, (W.at w_137 0), hlt_120, ks_124 _ _ _ rfl ⟨_, (L2.Same.trans s_129 (Post.base q_135)), w_148, (All2.app (All2.mono ha_131 (Post.base q_135)) (All2.one ⟨rfl, ok_147⟩)), hcl_142⟩⟩
    rintro av_151 H_152 ⟨G_153, s_154, w_155, ha_156, hl_157⟩
    have hl_158 : ys_149.1.length ≤ sizeLine := Nat.le_trans (lcS_len e_ys_149) (lenz (by rw [hx_107]; exact rangeL_len _ _) hl_106)
    have s_160 := same_freeze w_155 0 rfl
    have w_159 : W H G0 [a_3] _ [(a_3, .lst (ys_149.2.map V.int))] _ := W.freeze w_155 0 rfl hE_109
    have r_161 := (pL_new (W.out w_155 _ (List.Mem.head _)) ha_156 hl_158)
    obtain ⟨t_162, e_t_162, hm⟩ := bindS hm
    have r_163 := (Mn.mono r_161 w_159.sub)
    refine kk_join (K := K) r_163 e_t_162 _ ?_
    refine s_if0 ?_
    refine et_use (et_test (ev_op (ev_var rfl) ev_c (k_eqI _ _))) ?_
    obtain ⟨j_164, hm_if, hm⟩ := bindS hm
    refine cut_if4 (P := (fun σ1 H1 => ∃ G1, σ1 = [some (V.ref a_3), some (V.int most_7), some (V.int r_10.1), some (V.int j_40.1), some (V.ref p_74), some (V.int t_99), some (vS j_164), none, none] ∧ L2.Same (upd G_153 D_108 (.lst av_151)) G1 ∧ W H G0 [a_3] G1 [(a_3, .lst (ys_149.2.map V.int))] H1 ∧ OkS j_164)) _ ?_ ?_ ?_
    · intro hb_165 N_166 kn_167
      have hm := iteT' hm_if hb_165
      refine cps_asg (fun x => [some (V.ref a_3), some (V.int most_7), some (V.int r_10.1), some (V.int j_40.1), some (V.ref p_74), some (V.int t_99), some x, none, none]) (fun _ => rfl) ?_
      obtain ⟨t_168, e_t_168, hm⟩ := bindS hm
      obtain ⟨v_169, r_170, k_171⟩ := k_idxG (K := K) (Mn.mono r_84 (L2.Same.trans s_87 (L2.Same.trans (Post.base q_91) (L2.Same.trans s_154 s_160)))) w_159.sub e_t_168
      obtain ⟨rfl, ok_172⟩ := r_170
      obtain ⟨t_173, e_t_173, hm⟩ := bindS hm
      refine ev_use (ev_op (ev_op (ev_var rfl) ev_c k_171) (ev_var rfl) (k_rep ok_172 e_t_173)) ?_
      refine cps_next ?_
      obtain rfl := someI hm
      exact kn_167 _ _ ⟨_, rfl, (L2.Same.refl _), w_159, (OkS.rep ok_172 e_t_173)⟩
    · intro hb_165 N_166 kn_167
      have hm := iteF' hm_if hb_165
      refine cps_next ?_
      obtain rfl := someI hm
      exact kn_167 _ _ ⟨_, rfl, (L2.Same.refl _), w_159, (ok_join lit1_ok r_163 e_t_162)⟩
    rintro _ H_174 ⟨G_176, rfl, s_177, w_178, ok_175⟩
    refine s_if0 ?_
    refine et_use (et_test (ev_op (ev_var rfl) ev_c (k_eqI _ _))) ?_
    obtain ⟨j_179, hm_if, hm⟩ := bindS hm
    refine cut_if4 (P := (fun σ1 H1 => ∃ G1, σ1 = [some (V.ref a_3), some (V.int most_7), some (V.int r_10.1), some (V.int j_40.1), some (V.ref p_74), some (V.int t_99), some (vS j_179.1), none, none] ∧ L2.Same G_176 G1 ∧ W H G0 [a_3] G1 [(a_3, .lst (j_179.2.map V.int))] H1 ∧ OkS j_179.1 ∧ j_179.2.length ≤ sizeLine)) _ ?_ ?_ ?_
    · intro hb_180 N_181 kn_182
      have hm := iteT' hm_if hb_180
      refine cps_asg (fun x => [some (V.ref a_3), some (V.int most_7), some (V.int r_10.1), some (V.int j_40.1), some (V.ref p_74), some (V.int t_99), some x, none, none]) (fun _ => rfl) ?_
      refine cps_sl ?_
      refine cps_op ?_
      refine cps_sl ?_
      refine ev_use (ev_var rfl) ?_
      refine cps_nopart ?_
      refine cps_part ?_
      refine cps_op ?_
      refine ev_use ev_c ?_
      refine cps_call ?_
      refine cps_cons ?_
      refine ev_use (ev_var rfl) ?_
      refine cps_cons ?_
      refine ev_use ev_c ?_
      refine cps_nil ?_
      obtain ⟨r_183, e_r_183, hm⟩ := bindS hm
      refine ⟨a_3, ys_149.2, (5), (V.int (5)), _, r_183, rfl, w_178.sub, (W.out w_178 _ (List.Mem.head _)), (W.at w_178 0), hl_157, rfl, e_r_183, fun v_189 G_184 H_186 q_185 r_190 hc_191 hcl_192 => ?_⟩
      have w_187 : W H G0 [a_3] G_184 [(a_3, .lst (r_183.2.map V.int))] H_186 := W.callM w_178 0 rfl q_185 hc_191
      obtain rfl := r_190
      refine k_add _ _ _ ?_
      refine ⟨_, rfl, ?_⟩
      refine k_cutS ok_175 _ ?_
      refine ev_use (ev_var rfl) ?_
      obtain ⟨t_193, e_t_193, hm⟩ := bindS hm
      refine k_rep (OkS.cut ok_175 _ _) e_t_193 _ ?_
      refine cps_nopart ?_
      refine cps_part ?_
      refine ev_use (ev_var rfl) ?_
      refine ⟨_, rfl, ?_⟩
      refine k_cutS (OkS.rep (OkS.cut ok_175 _ _) e_t_193) _ ?_
      refine cps_next ?_
      obtain rfl := someI hm
      exact kn_182 _ _ ⟨_, rfl, (Post.base q_185), w_187, (OkS.cut (OkS.rep (OkS.cut ok_175 _ _) e_t_193) _ _), hcl_192⟩
    · intro hb_180 N_181 kn_182
      have hm := iteF' hm_if hb_180
      refine cps_next ?_
      obtain rfl := someI hm
      exact kn_182 _ _ ⟨_, rfl, (L2.Same.refl _), w_178, ok_175, hl_157⟩
    rintro _ H_194 ⟨G_197, rfl, s_198, w_199, ok_195, hl_196⟩
    refine s_if0 ?_
    refine et_use (et_test (ev_op (ev_var rfl) ev_c (k_eqI _ _))) ?_
    obtain ⟨j_200, hm_if, hm⟩ := bindS hm
    refine cut_if4 (P := (fun σ1 H1 => ∃ G1, σ1 = [some (V.ref a_3), some (V.int most_7), some (V.int r_10.1), some (V.int j_40.1), some (V.ref p_74), some (V.int t_99), some (vS j_200.1), none, none] ∧ L2.Same G_197 G1 ∧ W H G0 [a_3] G1 [(a_3, .lst (j_200.2.map V.int))] H1 ∧ OkS j_200.1 ∧ j_200.2.length ≤ sizeLine)) _ ?_ ?_ ?_
    · intro hb_201 N_202 kn_203
      have hm := iteT' hm_if hb_201
      refine cps_asg (fun x => [some (V.ref a_3), some (V.int most_7), some (V.int r_10.1), some (V.int j_40.1), some (V.ref p_74), some (V.int t_99), some x, none, none]) (fun _ => rfl) ?_
      refine cps_call ?_
      refine cps_cons ?_
      refine ev_use (ev_var rfl) ?_
      refine cps_cons ?_
      refine ev_use (ev_var rfl) ?_
      refine cps_cons ?_
      refine ev_use (ev_var rfl) ?_
      refine cps_nil ?_
      obtain ⟨r_204, e_r_204, hm⟩ := bindS hm
      refine ⟨a_3, j_179.2, r_68.1, (V.ref p_74), j_40.1, (V.int j_40.1), _, r_204, rfl, w_199.sub, (W.out w_199 _ (List.Mem.head _)), (W.at w_199 0), hl_196, (Mn.mono r_84 (L2.Same.trans s_87 (L2.Same.trans (Post.base q_91) (L2.Same.trans s_154 (L2.Same.trans s_160 (L2.Same.trans s_177 s_198)))))), rfl, e_r_204, fun v_210 G_205 H_207 q_206 r_211 hc_212 hcl_213 => ?_⟩
      have w_208 : W H G0 [a_3] G_205 [(a_3, .lst (r_204.2.map V.int))] H_207 := W.callM w_199 0 rfl q_206 hc_212
      obtain ⟨rfl, ok_214⟩ := r_211
      refine cps_next ?_
      obtain rfl := someI hm
      exact kn_203 _ _ ⟨_, rfl, (Post.base q_206), w_208, ok_214, hcl_213⟩
    · intro hb_201 N_202 kn_203
      have hm := iteF' hm_if hb_201
      refine cps_next ?_
      obtain rfl := someI hm
      exact kn_203 _ _ ⟨_, rfl, (L2.Same.refl _), w_199, ok_195, hl_196⟩
    rintro _ H_215 ⟨G_218, rfl, s_219, w_220, ok_216, hl_217⟩
    refine s_if0 ?_
    refine et_use (et_and (et_test (ev_op (ev_var rfl) ev_c (k_eqI _ _))) (fun _ => (et_test (ev_op (ev_var rfl) ev_c (k_gtI _ _))))) ?_
    obtain ⟨j_221, hm_if, hm⟩ := bindS hm
    refine cut_if4 (P := (fun σ1 H1 => ∃ o1_ : Option V, ∃ G1, σ1 = [some (V.ref a_3), some (V.int most_7), some (V.int r_10.1), some (V.int j_40.1), some (V.ref p_74), some (V.int t_99), some (vS j_221.1), o1_, none] ∧ L2.Same G_218 G1 ∧ W H G0 [a_3] G1 [(a_3, .lst (j_221.2.map V.int))] H1 ∧ OkS j_221.1 ∧ j_221.2.length ≤ sizeLine)) _ ?_ ?_ ?_
    · intro hb_222 N_223 kn_224
      have hm := iteT' hm_if hb_222
      refine cps_asg (fun x => [some (V.ref a_3), some (V.int most_7), some (V.int r_10.1), some (V.int j_40.1), some (V.ref p_74), some (V.int t_99), some (vS j_200.1), some x, none]) (fun _ => rfl) ?_
      refine cps_call ?_
      refine cps_cons ?_
      refine ev_use (ev_var rfl) ?_
      refine cps_cons ?_
      refine ev_use (ev_var rfl) ?_
      refine cps_nil ?_
      obtain ⟨r_225, e_r_225, hm⟩ := bindS hm
      refine ⟨a_3, j_200.2, j_40.1, (V.int j_40.1), _, r_225, rfl, w_220.sub, (W.out w_220 _ (List.Mem.head _)), (W.at w_220 0), hl_217, rfl, e_r_225, fun v_231 G_226 H_228 q_227 r_232 hc_233 hcl_234 => ?_⟩
      have w_229 : W H G0 [a_3] G_226 [(a_3, .lst (r_225.2.map V.int))] H_228 := W.callM w_220 0 rfl q_227 hc_233
      obtain rfl := r_232
      refine cps_asg (fun x => [some (V.ref a_3), some (V.int most_7), some (V.int r_10.1), some (V.int j_40.1), some (V.ref p_74), some (V.int t_99), some x, some (V.int r_225.1), none]) (fun _ => rfl) ?_
      obtain ⟨t_235, e_t_235, hm⟩ := bindS hm
      obtain ⟨v_236, r_237, k_238⟩ := k_idxG (K := K) (Mn.mono r_84 (L2.Same.trans s_87 (L2.Same.trans (Post.base q_91) (L2.Same.trans s_154 (L2.Same.trans s_160 (L2.Same.trans s_177 (L2.Same.trans s_198 (L2.Same.trans s_219 (Post.base q_227))))))))) w_229.sub e_t_235
      obtain ⟨rfl, ok_239⟩ := r_237
      obtain ⟨t_240, e_t_240, hm⟩ := bindS hm
      obtain ⟨t_241, e_t_241, hm⟩ := bindS hm
      obtain ⟨v_242, r_243, k_244⟩ := k_idxG (K := K) (Mn.mono r_84 (L2.Same.trans s_87 (L2.Same.trans (Post.base q_91) (L2.Same.trans s_154 (L2.Same.trans s_160 (L2.Same.trans s_177 (L2.Same.trans s_198 (L2.Same.trans s_219 (Post.base q_227))))))))) w_229.sub e_t_241
      obtain ⟨rfl, ok_245⟩ := r_243
      obtain ⟨t_246, e_t_246, hm⟩ := bindS hm
      obtain ⟨t_247, e_t_247, hm⟩ := bindS hm
      obtain ⟨v_248, r_249, k_250⟩ := k_idxG (K := K) (Mn.mono r_84 (L2.Same.trans s_87 (L2.Same.trans (Post.base q_91) (L2.Same.trans s_154 (L2.Same.trans s_160 (L2.Same.trans s_177 (L2.Same.trans s_198 (L2.Same.trans s_219 (Post.base q_227))))))))) w_229.sub e_t_247
      obtain ⟨rfl, ok_251⟩ := r_249
      obtain ⟨t_252, e_t_252, hm⟩ := bindS hm
      obtain ⟨t_253, e_t_253, hm⟩ := bindS hm
      refine ev_use (ev_op (ev_op (ev_op (ev_op (ev_var rfl) ev_c k_238) (ev_var rfl) (k_rep ok_239 e_t_240)) (ev_op (ev_var rfl) ev_c k_244) (kk_cat e_t_246)) (ev_op (ev_op (ev_var rfl) ev_c k_250) (ev_op (ev_op (ev_var rfl) (ev_var rfl) (k_sub _ _)) ev_c (k_sub _ _)) (k_rep ok_251 e_t_252)) (kk_cat e_t_253)) ?_
      refine cps_next ?_
      obtain rfl := someI hm
      exact kn_224 _ _ ⟨_, _, rfl, (Post.base q_227), w_229, (OkS.cat (OkS.cat (OkS.rep ok_239 e_t_240) ok_245 e_t_246) (OkS.rep ok_251 e_t_252) e_t_253), hcl_234⟩
    · intro hb_222 N_223 kn_224
      have hm := iteF' hm_if hb_222
      refine cps_next ?_
      obtain rfl := someI hm
      exact kn_224 _ _ ⟨_, _, rfl, (L2.Same.refl _), w_220, ok_216, hl_217⟩
    rintro _ H_254 ⟨o_255, G_258, rfl, s_259, w_260, ok_256, hl_257⟩
    refine s_if0 ?_
    refine et_use (et_test (ev_op (ev_var rfl) ev_c (k_eqI _ _))) ?_
    obtain ⟨j_261, hm_if, hm⟩ := bindS hm
    refine cut_if4 (P := (fun σ1 H1 => ∃ G1, σ1 = [some (V.ref a_3), some (V.int most_7), some (V.int r_10.1), some (V.int j_40.1), some (V.ref p_74), some (V.int t_99), some (vS j_261), o_255, none] ∧ L2.Same G_258 G1 ∧ W H G0 [a_3] G1 [(a_3, .lst (j_221.2.map V.int))] H1 ∧ OkS j_261)) _ ?_ ?_ ?_
    · intro hb_262 N_263 kn_264
      have hm := iteT' hm_if hb_262
      refine cps_asg (fun x => [some (V.ref a_3), some (V.int most_7), some (V.int r_10.1), some (V.int j_40.1), some (V.ref p_74), some (V.int t_99), some x, o_255, none]) (fun _ => rfl) ?_
      obtain ⟨t_265, e_t_265, hm⟩ := bindS hm
      obtain ⟨t_266, e_t_266, hm⟩ := bindS hm
      obtain ⟨text_267, e_text_267, hm⟩ := bindS hm
      refine ev_use (castS e_text_267 (ev_sl (ev_op (ev_op (ev_sl (ev_var rfl) eo_none (eo_some (ev_op (ev_var rfl) ev_c (k_fdivC _ _ ⟨by decide, by decide⟩))) (k_cutS ok_256)) (ev_revS (ev_sl (ev_var rfl) eo_none (eo_some (ev_op (ev_var rfl) ev_c (k_fdivC _ _ ⟨by decide, by decide⟩))) (k_cutS ok_256)) (OkS.cut ok_256 _ _)) (kk_cat e_t_265)) (ev_var rfl) (kk_cat e_t_266)) eo_none (eo_some (ev_var rfl)) (k_cutS (OkS.cat (OkS.cat (OkS.cut ok_256 _ _) (OkS.rev (OkS.cut ok_256 _ _)) e_t_265) ok_256 e_t_266)))) ?_
      have ok_268 := castOk e_text_267 (OkS.cut (OkS.cat (OkS.cat (OkS.cut ok_256 _ _) (OkS.rev (OkS.cut ok_256 _ _)) e_t_265) ok_256 e_t_266) _ _)
      refine cps_next ?_
      obtain rfl := someI hm
      exact kn_264 _ _ ⟨_, rfl, (L2.Same.refl _), w_260, ok_268⟩
    · intro hb_262 N_263 kn_264
      have hm := iteF' hm_if hb_262
      refine cps_next ?_
      obtain rfl := someI hm
      exact kn_264 _ _ ⟨_, rfl, (L2.Same.refl _), w_260, ok_256⟩
    rintro _ H_269 ⟨G_271, rfl, s_272, w_273, ok_270⟩
    refine cps_ret ?_
    refine ev_use (ev_var rfl) ?_
    have er := (someI hm).symm
    subst er
    exact hq _ _ _ (W.post w_273) ⟨rfl, ok_270⟩ (W.at w_273 0) hl_257

theorem sc_law_spots_of : FnScope ["_law_pot", "_law_text", "_law_share", "_law_place"] ["_law_pot", "_law_text"] (defScope s5) := ⟨rfl, rfl, rfl, by decide +kernel, rfl, by decide +kernel, by decide +kernel⟩
def sp_law_spots_of (K : PySem.W.Frag) : Sp := fun vs H Q E => ∃ (a_3 : Addr) (pot_1 : (List Int)) (text_7 : (List Nat)) (v_8 : V) (G : Hp) (r : ((List Int) × (List Int))), vs = [.ref a_3, v_8] ∧ L2.Same G H ∧ G a_3 = none ∧ H a_3 = some (.lst (pot_1.map V.int)) ∧ pot_1.length ≤ sizeLine ∧ pS text_7 v_8 G ∧ m_law_spots_of pot_1 text_7 = some r ∧ (∀ p vs G1 H1, Post [a_3] G H G1 H1 → H p = none → G1 p = none → H1 p = some (.lst vs) → All2 pI G1 r.1 vs → r.1.length ≤ sizeLine → H1 a_3 = some (.lst (r.2.map V.int)) → r.2.length ≤ sizeLine → Q (.ref p) H1)
theorem ok_law_spots_of (T : Txt K mg fa fd) : FnOk P w K mg base CX0 2 (fa 5) (fd 5) ["_law_pot", "_law_text"] (sp_law_spots_of K) := by
  refine T.f5.ok sc_law_spots_of (fun vs H Q E h => ?_) (fun cdv A outer s H vs Q E hr h => ?_)
  · obtain ⟨_, _, _, _, _, _, rfl, _⟩ := h; rfl
  · obtain ⟨a_3, pot_1, text_7, v_8, G0, r0, rfl, hs0, h_4, h_5, h_6, h_9, hm, hq⟩ := h
    obtain ⟨rfl, ok_10⟩ := h_9
    refine ⟨_, (pss_cons (ps_set (i := 2) sc_law_spots_of.nd rfl (Or.inr rfl) (pe_ix (ix_tupK (K := K) rfl) (pe_tup (pa_cons pe_int (pa_cons pe_int (pa_cons pe_int (pa_cons pe_int (pa_cons pe_int (pa_cons pe_int pa_nil))))))) (pe_call (ok_law_pick T) (hr.mono (by decide)) (by rfl) T.g1 T.f1.kp T.b1 .nil pass0 (pa_cons (pv 0) (pa_cons pe_int pa_nil))) (fun _ _ => rfl)))
      (pss_cons (ps_ret (pe_lc (own := [("_law_place", 3)]) rfl sc_law_spots_of.nd (pi_range1 (by rfl) T.n_range (pa_cons (pe_callB call_lenS (by rfl) T.n_len PySem.boot_len (pa_cons (pv 1) pa_nil)) pa_nil)) (blkOk_by (N := ["_law_pot", "_law_text", "_law_share", "_law_place"]) (sc := (defScope s5)) (by decide +kernel)) (fun _ _ _ _ _ => (pg_name (i := 3) sc_law_spots_of.nd rfl (Or.inl rfl))) (fun _ _ _ _ _ => (pts_one (pt_cmpR op_lt (pe_call (ok_law_pick T) (hr.mono (by decide)) (by rfl) T.g1 T.f1.kp T.b1 .nil pass0 (pa_cons (pv 0) (pa_cons pe_int pa_nil))) (pv 2) (nomark _)))) (fun _ _ _ _ _ => (pv 3))))
      pss_nil)), ?_⟩
    have w0 : W H G0 [a_3] G0 [(a_3, .lst (pot_1.map V.int))] H := W.init1 hs0 h_5 h_4
    refine st_conv (σ' := [some (V.ref a_3), some (vS text_7), none, none]) rfl ?_
    refine cps_asg (fun x => [some (V.ref a_3), some (vS text_7), some x, none]) (fun _ => rfl) ?_
    refine cps_op ?_
    refine cps_tup ?_
    refine cps_cons ?_
    refine ev_use ev_c ?_
    refine cps_cons ?_
    refine ev_use ev_c ?_
    refine cps_cons ?_
    refine ev_use ev_c ?_
    refine cps_cons ?_
    refine ev_use ev_c ?_
    refine cps_cons ?_
    refine ev_use ev_c ?_
    refine cps_cons ?_
    refine ev_use ev_c ?_
    refine cps_nil ?_
    refine ⟨lenle rfl, fun p_11 hp_11 => ?_⟩
    have s_13 := same_lay (o := .tup [(V.int (0)), (V.int (1)), (V.int (2)), (V.int (3)), (V.int (5)), (V.int (8))]) w0 hp_11
    have w_12 := W.lay w0 hp_11 (.tup [(V.int (0)), (V.int (1)), (V.int (2)), (V.int (3)), (V.int (5)), (V.int (8))])
    refine cps_call ?_
    refine cps_cons ?_
    refine ev_use (ev_var rfl) ?_
    refine cps_cons ?_
    refine ev_use ev_c ?_
    refine cps_nil ?_
    obtain ⟨r_15, e_r_15, hm⟩ := bindS hm
    refine ⟨a_3, pot_1, (6), (V.int (6)), _, r_15, rfl, w_12.sub, (W.out w_12 _ (List.Mem.head _)), (W.at w_12 0), h_6, rfl, e_r_15, fun v_21 G_16 H_18 q_17 r_22 hc_23 hcl_24 => ?_⟩
    have w_19 : W H G0 [a_3] G_16 [(a_3, .lst (r_15.2.map V.int))] H_18 := W.callM w_12 0 rfl q_17 hc_23
    obtain rfl := r_22
    obtain ⟨t_25, e_t_25, hm⟩ := bindS hm
    have ha_29 : All2 pI G_16 [(0), (1), (2), (3), (5), (8)] [(V.int (0)), (V.int (1)), (V.int (2)), (V.int (3)), (V.int (5)), (V.int (8))] := (All2.cons rfl (All2.cons rfl (All2.cons rfl (All2.cons rfl (All2.cons rfl (All2.cons rfl .nil))))))
    obtain ⟨v_26, r_27, k_28⟩ := k_idxTG (K := K) (w_19.sub _ _ ((Post.base q_17) _ _ upd_same)) ha_29 e_t_25
    obtain rfl := r_27
    refine k_28 _ ?_
    refine cps_ret ?_
    refine cps_lc ?_
    refine cps_rng1 ?_
    refine cps_cons ?_
    refine ev_use (ev_cb (ea_cons (ev_var rfl) ea_nil) (kk_lenS ok_10)) ?_
    refine cps_nil ?_
    obtain ⟨xs_30, e_xs_30, hm⟩ := bindS hm
    obtain ⟨hb_31, hx_33, hl_32⟩ := rng1_ok e_xs_30
    refine ⟨_, rfl, hb_31.1, hb_31.2, ?_⟩
    intro D_34 hD_34
    have hE_35 := W.freshE w_19 hD_34
    obtain ⟨ys_71, e_ys_71, hm⟩ := bindS hm
    have w_72 := W.cell w_19 hD_34 (.lst [])
    refine lc_w walk_range (by rw [hx_33]; exact rangeL_len _ _) e_ys_71 hl_32 (fun av acc s H1 => ∃ G1, L2.Same G_16 G1 ∧ W H G0 [a_3] G1 [(D_34, .lst av), (a_3, .lst (s.map V.int))] H1 ∧ All2 pI G1 acc av ∧ s.length ≤ sizeLine) ⟨_, (L2.Same.refl _), w_72, .nil, hcl_24⟩ (fun _ _ _ _ _ => True.intro) ?_ ?_
    · intro i_36 x_37 s_51 r_53 s_52 v_38 av_39 acc_40 H_41 H_42 hx_43 hm hP_45 hlt_46 hy_47 N_48 kn_49 ks_50
      obtain ⟨G_54, s_55, w_56, ha_57, hl_58⟩ := hP_45
      rw [hx_33] at hx_43
      obtain ⟨rfl, rfl⟩ := rng_item hx_43 hy_47
      refine lc_nm (τ := [some (V.ref a_3), some (vS text_7), some (V.int t_25), some (V.int x_37)]) rfl rfl ?_
      refine cps_test ?_
      refine cps_op ?_
      refine cps_call ?_
      refine cps_cons ?_
      refine ev_use (ev_var rfl) ?_
      refine cps_cons ?_
      refine ev_use ev_c ?_
      refine cps_nil ?_
      obtain ⟨r_59, e_r_59, hm⟩ := bindS hm
      refine ⟨a_3, s_51, (8), (V.int (8)), _, r_59, rfl, w_56.sub, (W.out w_56 _ (List.Mem.tail _ (List.Mem.head _))), (W.at w_56 1), hl_58, rfl, e_r_59, fun v_65 G_60 H_62 q_61 r_66 hc_67 hcl_68 => ?_⟩
      have w_63 : W H G0 [a_3] G_60 [(D_34, .lst av_39), (a_3, .lst (r_59.2.map V.int))] H_62 := W.callM w_56 1 rfl q_61 hc_67
      obtain rfl := r_66
      refine ev_use (ev_var rfl) ?_
      refine (k_ltI _ _) _ ?_
      refine ⟨_, rfl, ?_⟩
      refine if_cases _ (fun hb_69 => ?_) (fun hb_69 => ?_)
      · have hm := iteT' hm hb_69
        refine ev_use (ev_var rfl) ?_
        have w_70 : W H G0 [a_3] _ [(D_34, .lst (av_39 ++ [(V.int x_37)])), (a_3, .lst (r_59.2.map V.int))] _ := W.write w_63 0 rfl (.lst (av_39 ++ [(V.int x_37)]))
        obtain ⟨rfl, rfl⟩ := Prod.mk.inj (someI hm)
        exact ⟨_, (W.at w_63 0), hlt_46, ks_50 _ _ _ rfl ⟨_, (L2.Same.trans s_55 (Post.base q_61)), w_70, (All2.app (All2.mono ha_57 (Post.base q_61)) (All2.one rfl)), hcl_68⟩⟩
      · have hm := iteF' hm hb_69
        obtain ⟨rfl, rfl⟩ := Prod.mk.inj (someI hm)
        exact kn_49 rfl _ ⟨_, (L2.Same.trans s_55 (Post.base q_61)), w_63, (All2.mono ha_57 (Post.base q_61)), hcl_68⟩
    rintro av_73 H_74 ⟨G_75, s_76, w_77, ha_78, hl_79⟩
    obtain rfl := All2.int ha_78
    have hl_80 : ys_71.1.length ≤ sizeLine := Nat.le_trans (lcS_len e_ys_71) (lenz (by rw [hx_33]; exact rangeL_len _ _) hl_32)
    have er := (someI hm).symm
    subst er
    exact hq _ _ _ _ (W.post w_77) hE_35 (W.out w_77 _ (List.Mem.head _)) (W.at w_77 0) ha_78 hl_80 (W.at w_77 1) hl_79

theorem sc_law_word_of : FnScope ["_law_pot", "_law_text", "_law_way", "_law_letter", "_law_at", "_law_word", "_law_spot"] ["_law_pot", "_law_text"] (defScope s6) := ⟨rfl, rfl, rfl, by decide +kernel, rfl, by decide +kernel, by decide +kernel⟩
def sp_law_word_of (K : PySem.W.Frag) : Sp := fun vs H Q E => ∃ (a_3 : Addr) (pot_1 : (List Int)) (text_7 : (List Nat)) (v_8 : V) (G : Hp) (r : ((List Nat) × (List Int))), vs = [.ref a_3, v_8] ∧ L2.Same G H ∧ G a_3 = none ∧ H a_3 = some (.lst (pot_1.map V.int)) ∧ pot_1.length ≤ sizeLine ∧ pS text_7 v_8 G ∧ m_law_word_of pot_1 text_7 = some r ∧ (∀ v G1 H1, Post [a_3] G H G1 H1 → pS r.1 v G1 → H1 a_3 = some (.lst (r.2.map V.int)) → r.2.length ≤ sizeLine → Q v H1)
theorem ok_law_word_of (T : Txt K mg fa fd) : FnOk P w K mg base CX0 2 (fa 6) (fd 6) ["_law_pot", "_law_text"] (sp_law_word_of K) := by
  refine T.f6.ok sc_law_word_of (fun vs H Q E h => ?_) (fun cdv A outer s H vs Q E hr h => ?_)
  · obtain ⟨_, _, _, _, _, _, rfl, _⟩ := h; rfl
  · obtain ⟨a_3, pot_1, text_7, v_8, G0, r0, rfl, hs0, h_4, h_5, h_6, h_9, hm, hq⟩ := h
    obtain ⟨rfl, ok_10⟩ := h_9
    refine ⟨_, (pss_cons (ps_set (i := 2) sc_law_word_of.nd rfl (Or.inl rfl) (pe_call (ok_law_pick T) (hr.mono (by decide)) (by rfl) T.g1 T.f1.kp T.b1 .nil pass0 (pa_cons (pv 0) (pa_cons pe_int pa_nil))))
      (pss_cons (ps_set (i := 3) sc_law_word_of.nd rfl (Or.inl rfl) (pe_ix ix_str pe_str (pe_call (ok_law_pick T) (hr.mono (by decide)) (by rfl) T.g1 T.f1.kp T.b1 .nil pass0 (pa_cons (pv 0) (pa_cons pe_int pa_nil))) (fun _ _ => rfl)))
      (pss_cons (ps_if (PW.pt (pw_or (pt_cmpR op_eq (pv 1) pe_str (nomark _)) (pw_or1 (pt_cmpR op_eq (pv 2) pe_int (nomark _))))) (pss_cons (ps_ret (pe_op op_repS (pv 3) (pe_op op_add pe_int (pe_call (ok_law_pick T) (hr.mono (by decide)) (by rfl) T.g1 T.f1.kp T.b1 .nil pass0 (pa_cons (pv 0) (pa_cons pe_int pa_nil))))))
      pss_nil) pss_nil)
      (pss_cons (ps_set (i := 4) sc_law_word_of.nd rfl (Or.inl rfl) (pe_call (ok_law_pick T) (hr.mono (by decide)) (by rfl) T.g1 T.f1.kp T.b1 .nil pass0 (pa_cons (pv 0) (pa_cons (pe_callB call_lenS (by rfl) T.n_len PySem.boot_len (pa_cons (pv 1) pa_nil)) pa_nil))))
      (pss_cons (ps_set (i := 5) sc_law_word_of.nd rfl (Or.inl rfl) (pe_slice sl_str (pv 1) (po_some (pv 4)) (po_some (pe_op op_add (pe_op op_add (pv 4) pe_int) (pe_call (ok_law_pick T) (hr.mono (by decide)) (by rfl) T.g1 T.f1.kp T.b1 .nil pass0 (pa_cons (pv 0) (pa_cons (pe_op op_sub (pe_callB call_lenS (by rfl) T.n_len PySem.boot_len (pa_cons (pv 1) pa_nil)) (pv 4)) pa_nil)))))))
      (pss_cons (ps_set (i := 6) sc_law_word_of.nd rfl (Or.inl rfl) (pe_call (ok_law_pick T) (hr.mono (by decide)) (by rfl) T.g1 T.f1.kp T.b1 .nil pass0 (pa_cons (pv 0) (pa_cons (pe_callB call_lenS (by rfl) T.n_len PySem.boot_len (pa_cons (pv 5) pa_nil)) pa_nil))))
      (pss_cons (ps_if (pt_cmpR op_eq (pv 2) pe_int (nomark _)) (pss_cons (ps_ret (pe_op op_catS (pe_op op_catS (pe_slice sl_str (pv 5) po_none (po_some (pv 6))) (pv 3)) (pe_slice sl_str (pv 5) (po_some (pe_op op_add (pv 6) pe_int)) po_none)))
      pss_nil) pss_nil)
      (pss_cons (ps_if (pt_cmpR op_eq (pv 2) pe_int (nomark _)) (pss_cons (ps_ret (pe_slice sl_str (pe_op op_catS (pe_op op_catS (pv 5) (pv 3)) (pv 1)) po_none (po_some pe_int)))
      pss_nil) pss_nil)
      (pss_cons (ps_if (pt_cmpR op_eq (pv 2) pe_int (nomark _)) (pss_cons (ps_ret (pe_slice sl_str (pv 5) po_none (po_some (pe_op op_add pe_int (pe_call (ok_law_pick T) (hr.mono (by decide)) (by rfl) T.g1 T.f1.kp T.b1 .nil pass0 (pa_cons (pv 0) (pa_cons pe_int pa_nil)))))))
      pss_nil) pss_nil)
      (pss_cons (ps_ret (pv 5))
      pss_nil)))))))))), ?_⟩
    have w0 : W H G0 [a_3] G0 [(a_3, .lst (pot_1.map V.int))] H := W.init1 hs0 h_5 h_4
    refine st_conv (σ' := [some (V.ref a_3), some (vS text_7), none, none, none, none, none]) rfl ?_
    refine cps_asg (fun x => [some (V.ref a_3), some (vS text_7), some x, none, none, none, none]) (fun _ => rfl) ?_
    refine cps_call ?_
    refine cps_cons ?_
    refine ev_use (ev_var rfl) ?_
    refine cps_cons ?_
    refine ev_use ev_c ?_
    refine cps_nil ?_
    obtain ⟨r_11, e_r_11, hm⟩ := bindS hm
    refine ⟨a_3, pot_1, (6), (V.int (6)), _, r_11, rfl, w0.sub, (W.out w0 _ (List.Mem.head _)), (W.at w0 0), h_6, rfl, e_r_11, fun v_17 G_12 H_14 q_13 r_18 hc_19 hcl_20 => ?_⟩
    have w_15 : W H G0 [a_3] G_12 [(a_3, .lst (r_11.2.map V.int))] H_14 := W.callM w0 0 rfl q_13 hc_19
    obtain rfl := r_18
    refine cps_asg (fun x => [some (V.ref a_3), some (vS text_7), some (V.int r_11.1), some x, none, none, none]) (fun _ => rfl) ?_
    refine cps_op ?_
    refine ev_use (ev_str lit0) ?_
    refine cps_call ?_
    refine cps_cons ?_
    refine ev_use (ev_var rfl) ?_
    refine cps_cons ?_
    refine ev_use ev_c ?_
    refine cps_nil ?_
    obtain ⟨r_21, e_r_21, hm⟩ := bindS hm
    refine ⟨a_3, r_11.2, (26), (V.int (26)), _, r_21, rfl, w_15.sub, (W.out w_15 _ (List.Mem.head _)), (W.at w_15 0), hcl_20, rfl, e_r_21, fun v_27 G_22 H_24 q_23 r_28 hc_29 hcl_30 => ?_⟩
    have w_25 : W H G0 [a_3] G_22 [(a_3, .lst (r_21.2.map V.int))] H_24 := W.callM w_15 0 rfl q_23 hc_29
    obtain rfl := r_28
    obtain ⟨t_31, e_t_31, hm⟩ := bindS hm
    refine k_idxS lit0_ok e_t_31 _ ?_
    refine s_if0 ?_
    refine et_use (et_or (et_test (ev_op (ev_var rfl) (ev_str lit1) (k_eqS _ _))) (fun _ => (et_test (ev_op (ev_var rfl) ev_c (k_eqI _ _))))) ?_
    refine if_cases _ (fun hb_32 => ?_) (fun hb_32 => ?_)
    · have hm := iteT' hm hb_32
      refine cps_ret ?_
      refine cps_op ?_
      refine ev_use (ev_var rfl) ?_
      refine cps_op ?_
      refine ev_use ev_c ?_
      refine cps_call ?_
      refine cps_cons ?_
      refine ev_use (ev_var rfl) ?_
      refine cps_cons ?_
      refine ev_use ev_c ?_
      refine cps_nil ?_
      obtain ⟨r_33, e_r_33, hm⟩ := bindS hm
      refine ⟨a_3, r_21.2, (60), (V.int (60)), _, r_33, rfl, w_25.sub, (W.out w_25 _ (List.Mem.head _)), (W.at w_25 0), hcl_30, rfl, e_r_33, fun v_39 G_34 H_36 q_35 r_40 hc_41 hcl_42 => ?_⟩
      have w_37 : W H G0 [a_3] G_34 [(a_3, .lst (r_33.2.map V.int))] H_36 := W.callM w_25 0 rfl q_35 hc_41
      obtain rfl := r_40
      refine k_add _ _ _ ?_
      obtain ⟨t_43, e_t_43, hm⟩ := bindS hm
      refine k_rep (OkS.idx lit0_ok e_t_31) e_t_43 _ ?_
      have er := (someI hm).symm
      subst er
      exact hq _ _ _ (W.post w_37) ⟨rfl, (OkS.rep (OkS.idx lit0_ok e_t_31) e_t_43)⟩ (W.at w_37 0) hcl_42
    have hm := iteF' hm hb_32
    refine cps_nextR ?_
    refine cps_asg (fun x => [some (V.ref a_3), some (vS text_7), some (V.int r_11.1), some (vS t_31), some x, none, none]) (fun _ => rfl) ?_
    refine cps_call ?_
    refine cps_cons ?_
    refine ev_use (ev_var rfl) ?_
    refine cps_cons ?_
    refine ev_use (ev_cb (ea_cons (ev_var rfl) ea_nil) (kk_lenS ok_10)) ?_
    refine cps_nil ?_
    obtain ⟨r_44, e_r_44, hm⟩ := bindS hm
    refine ⟨a_3, r_21.2, ((text_7).length : Int), (V.int ((text_7).length : Int)), _, r_44, rfl, w_25.sub, (W.out w_25 _ (List.Mem.head _)), (W.at w_25 0), hcl_30, rfl, e_r_44, fun v_50 G_45 H_47 q_46 r_51 hc_52 hcl_53 => ?_⟩
    have w_48 : W H G0 [a_3] G_45 [(a_3, .lst (r_44.2.map V.int))] H_47 := W.callM w_25 0 rfl q_46 hc_52
    obtain rfl := r_51
    refine cps_asg (fun x => [some (V.ref a_3), some (vS text_7), some (V.int r_11.1), some (vS t_31), some (V.int r_44.1), some x, none]) (fun _ => rfl) ?_
    refine cps_sl ?_
    refine ev_use (ev_var rfl) ?_
    refine cps_part ?_
    refine ev_use (ev_var rfl) ?_
    refine ⟨_, rfl, ?_⟩
    refine cps_part ?_
    refine cps_op ?_
    refine ev_use (ev_op (ev_var rfl) ev_c (k_add _ _)) ?_
    refine cps_call ?_
    refine cps_cons ?_
    refine ev_use (ev_var rfl) ?_
    refine cps_cons ?_
    refine ev_use (ev_op (ev_cb (ea_cons (ev_var rfl) ea_nil) (kk_lenS ok_10)) (ev_var rfl) (k_sub _ _)) ?_
    refine cps_nil ?_
    obtain ⟨r_54, e_r_54, hm⟩ := bindS hm
    refine ⟨a_3, r_44.2, (((text_7).length : Int) - r_44.1), (V.int (((text_7).length : Int) - r_44.1)), _, r_54, rfl, w_48.sub, (W.out w_48 _ (List.Mem.head _)), (W.at w_48 0), hcl_53, rfl, e_r_54, fun v_60 G_55 H_57 q_56 r_61 hc_62 hcl_63 => ?_⟩
    have w_58 : W H G0 [a_3] G_55 [(a_3, .lst (r_54.2.map V.int))] H_57 := W.callM w_48 0 rfl q_56 hc_62
    obtain rfl := r_61
    refine k_add _ _ _ ?_
    refine ⟨_, rfl, ?_⟩
    refine k_cutS ok_10 _ ?_
    refine cps_asg (fun x => [some (V.ref a_3), some (vS text_7), some (V.int r_11.1), some (vS t_31), some (V.int r_44.1), some (vS (cutL text_7 (some r_44.1) (some ((r_44.1 + (1)) + r_54.1)))), some x]) (fun _ => rfl) ?_
    refine cps_call ?_
    refine cps_cons ?_
    refine ev_use (ev_var rfl) ?_
    refine cps_cons ?_
    refine ev_use (ev_cb (ea_cons (ev_var rfl) ea_nil) (kk_lenS (OkS.cut ok_10 _ _))) ?_
    refine cps_nil ?_
    obtain ⟨r_64, e_r_64, hm⟩ := bindS hm
    refine ⟨a_3, r_54.2, (((cutL text_7 (some r_44.1) (some ((r_44.1 + (1)) + r_54.1)))).length : Int), (V.int (((cutL text_7 (some r_44.1) (some ((r_44.1 + (1)) + r_54.1)))).length : Int)), _, r_64, rfl, w_58.sub, (W.out w_58 _ (List.Mem.head _)), (W.at w_58 0), hcl_63, rfl, e_r_64, fun v_70 G_65 H_67 q_66 r_71 hc_72 hcl_73 => ?_⟩
    have w_68 : W H G0 [a_3] G_65 [(a_3, .lst (r_64.2.map V.int))] H_67 := W.callM w_58 0 rfl q_66 hc_72
    obtain rfl := r_71
    refine s_if0 ?_
    refine et_use (et_test (ev_op (ev_var rfl) ev_c (k_eqI _ _))) ?_
    refine if_cases _ (fun hb_74 => ?_) (fun hb_74 => ?_)
    · have hm := iteT' hm hb_74
      refine cps_ret ?_
      obtain ⟨t_75, e_t_75, hm⟩ := bindS hm
      obtain ⟨t_76, e_t_76, hm⟩ := bindS hm
      refine ev_use (ev_op (ev_op (ev_sl (ev_var rfl) eo_none (eo_some (ev_var rfl)) (k_cutS (OkS.cut ok_10 _ _))) (ev_var rfl) (kk_cat e_t_75)) (ev_sl (ev_var rfl) (eo_some (ev_op (ev_var rfl) ev_c (k_add _ _))) eo_none (k_cutS (OkS.cut ok_10 _ _))) (kk_cat e_t_76)) ?_
      have er := (someI hm).symm
      subst er
      exact hq _ _ _ (W.post w_68) ⟨rfl, (OkS.cat (OkS.cat (OkS.cut (OkS.cut ok_10 _ _) _ _) (OkS.idx lit0_ok e_t_31) e_t_75) (OkS.cut (OkS.cut ok_10 _ _) _ _) e_t_76)⟩ (W.at w_68 0) hcl_73
    have hm := iteF' hm hb_74
    refine cps_nextR ?_
    refine s_if0 ?_
    refine et_use (et_test (ev_op (ev_var rfl) ev_c (k_eqI _ _))) ?_
    refine if_cases _ (fun hb_77 => ?_) (fun hb_77 => ?_)
    · have hm := iteT' hm hb_77
      refine cps_ret ?_
      obtain ⟨t_78, e_t_78, hm⟩ := bindS hm
      obtain ⟨t_79, e_t_79, hm⟩ := bindS hm
      refine ev_use (ev_sl (ev_op (ev_op (ev_var rfl) (ev_var rfl) (kk_cat e_t_78)) (ev_var rfl) (kk_cat e_t_79)) eo_none (eo_some ev_c) (k_cutS (OkS.cat (OkS.cat (OkS.cut ok_10 _ _) (OkS.idx lit0_ok e_t_31) e_t_78) ok_10 e_t_79))) ?_
      have er := (someI hm).symm
      subst er
      exact hq _ _ _ (W.post w_68) ⟨rfl, (OkS.cut (OkS.cat (OkS.cat (OkS.cut ok_10 _ _) (OkS.idx lit0_ok e_t_31) e_t_78) ok_10 e_t_79) _ _)⟩ (W.at w_68 0) hcl_73
    have hm := iteF' hm hb_77
    refine cps_nextR ?_
    refine s_if0 ?_
    refine et_use (et_test (ev_op (ev_var rfl) ev_c (k_eqI _ _))) ?_
    refine if_cases _ (fun hb_80 => ?_) (fun hb_80 => ?_)
    · have hm := iteT' hm hb_80
      refine cps_ret ?_
      refine cps_sl ?_
      refine ev_use (ev_var rfl) ?_
      refine cps_nopart ?_
      refine cps_part ?_
      refine cps_op ?_
      refine ev_use ev_c ?_
      refine cps_call ?_
      refine cps_cons ?_
      refine ev_use (ev_var rfl) ?_
      refine cps_cons ?_
      refine ev_use ev_c ?_
      refine cps_nil ?_
      obtain ⟨r_81, e_r_81, hm⟩ := bindS hm
      refine ⟨a_3, r_64.2, (3), (V.int (3)), _, r_81, rfl, w_68.sub, (W.out w_68 _ (List.Mem.head _)), (W.at w_68 0), hcl_73, rfl, e_r_81, fun v_87 G_82 H_84 q_83 r_88 hc_89 hcl_90 => ?_⟩
      have w_85 : W H G0 [a_3] G_82 [(a_3, .lst (r_81.2.map V.int))] H_84 := W.callM w_68 0 rfl q_83 hc_89
      obtain rfl := r_88
      refine k_add _ _ _ ?_
      refine ⟨_, rfl, ?_⟩
      refine k_cutS (OkS.cut ok_10 _ _) _ ?_
      have er := (someI hm).symm
      subst er
      exact hq _ _ _ (W.post w_85) ⟨rfl, (OkS.cut (OkS.cut ok_10 _ _) _ _)⟩ (W.at w_85 0) hcl_90
    have hm := iteF' hm hb_80
    refine cps_nextR ?_
    refine cps_ret ?_
    refine ev_use (ev_var rfl) ?_
    have er := (someI hm).symm
    subst er
    exact hq _ _ _ (W.post w_68) ⟨rfl, (OkS.cut ok_10 _ _)⟩ (W.at w_68 0) hcl_73

theorem sc_marks_ahead : FnScope ["row", "marks", "held", "found", "place", "mark"] ["row", "marks"] (defScope s7) := ⟨rfl, rfl, rfl, by decide +kernel, rfl, by decide +kernel, by decide +kernel⟩
def sp_marks_ahead (K : PySem.W.Frag) : Sp := fun vs H Q E => ∃ (row_1 : (List Nat)) (v_2 : V) (marks_4 : (List Int)) (v_5 : V) (G : Hp) (r : (List Int)), vs = [v_2, v_5] ∧ L2.Same G H ∧ pS row_1 v_2 G ∧ (pL pI) marks_4 v_5 G ∧ m_marks_ahead row_1 marks_4 = some r ∧ (∀ p vs G1 H1, Post [] G H G1 H1 → H p = none → G1 p = none → H1 p = some (.lst vs) → All2 pI G1 r vs → r.length ≤ sizeLine → Q (.ref p) H1)
theorem ok_marks_ahead (T : Txt K mg fa fd) : FnOk P w K mg base CX0 1 (fa 7) (fd 7) ["row", "marks"] (sp_marks_ahead K) := by
  refine T.f7.ok sc_marks_ahead (fun vs H Q E h => ?_) (fun cdv A outer s H vs Q E hr h => ?_)
  · obtain ⟨_, _, _, _, _, _, rfl, _⟩ := h; rfl
  · obtain ⟨row_1, v_2, marks_4, v_5, G0, r0, rfl, hs0, h_3, h_6, hm, hq⟩ := h
    obtain ⟨rfl, ok_7⟩ := h_3
    refine ⟨_, (pss_cons (ps_set (i := 2) sc_marks_ahead.nd rfl (Or.inl rfl) (pe_callTy (call_dictPr (K := K) rfl rfl) (by rfl) T.n_dict (by decide +kernel) (pa_cons (pe_lc (own := [("mark", 5)]) rfl sc_marks_ahead.nd (pi_listK (K := K) rfl (pv 1)) (blkOk_by (N := ["row", "marks", "held", "found", "place", "mark"]) (sc := (defScope s7)) (by decide +kernel)) (fun _ _ _ _ _ => (pg_name (i := 5) sc_marks_ahead.nd rfl (Or.inl rfl))) (fun _ _ _ _ _ => pts_nil) (fun _ _ _ _ _ => (pe_tup (pa_cons (pv 5) (pa_cons pe_bl pa_nil))))) pa_nil)))
      (pss_cons (ps_set (i := 3) sc_marks_ahead.nd rfl (Or.inl rfl) (pe_lst (pa_cons pe_int pa_nil)))
      (pss_cons (ps_for PassesOwn.never rfl (pi_range1 (by rfl) T.n_range (pa_cons (pe_callB call_lenS (by rfl) T.n_len PySem.boot_len (pa_cons (pv 0) pa_nil)) pa_nil)) (pg_name (i := 4) sc_marks_ahead.nd rfl (Or.inl rfl)) (pss_cons (ps_expr (pe_bmK (K := K) rfl (pe_bm PySem.F.plainAttrs_list PySem.F.slot_list_append PySem.F.type_list_append mt_append (pv 3) (pa_cons (pe_op op_add (pe_ix (ix_listK (K := K) rfl) (pv 3) (pe_un un_neg pe_int) (fun _ _ => rfl)) (pe_callTy call_int1I (by rfl) T.n_int (by decide +kernel) (pa_cons (pe_cmp (pc_din (hu_of hr) (pv 4) (pv 2)) rfl) pa_nil))) pa_nil))))
      pss_nil))
      (pss_cons (ps_ret (pv 3))
      pss_nil)))), ?_⟩
    have w0 : W H G0 [] G0 [] H := W.init hs0
    refine st_conv (σ' := [some (vS row_1), some v_5, none, none, none, none]) rfl ?_
    refine cps_asg (fun x => [some (vS row_1), some v_5, some x, none, none, none]) (fun _ => rfl) ?_
    refine cps_cb ?_
    refine cps_cons ?_
    refine cps_lc ?_
    refine cps_list ?_
    refine ev_use (ev_var rfl) ?_
    obtain ⟨a_8, vs_9, e_10, h_11, ha_12, hl_13⟩ := h_6
    refine ⟨_, e_10, ⟨_, SqL.of (w0.sub _ _ h_11)⟩, ?_⟩
    intro D_14 hD_14
    have hE_15 := W.freshE w0 hD_14
    obtain ⟨ys_44, e_ys_44, hm⟩ := bindS hm
    have w_45 := W.cell w0 hD_14 (.lst [])
    refine lc_wM walk_list (All2.len ha_12) e_ys_44 ((All2.len ha_12) ▸ hl_13) (fun av acc H1 => ∃ G1, L2.Same G0 G1 ∧ W H G0 [] G1 [(D_14, .lst av)] H1 ∧ All2 (pT2 pI pB) G1 acc av) ⟨_, (L2.Same.refl _), w_45, .nil⟩ (fun _ _ _ ⟨_, s_, w_, _⟩ => SqL.of (w_.sub _ _ (s_ _ _ h_11))) ?_ ?_
    · intro i_16 x_17 r_33 v_18 av_19 acc_20 H_21 H_22 hx_23 hm hP_25 hlt_26 hy_27 N_28 ks_30
      obtain ⟨G_34, s_35, w_36, ha_37⟩ := hP_25
      obtain ⟨rfl, r_38⟩ := lst_item ha_12 hx_23 hy_27
      obtain rfl := r_38
      refine lc_nm (τ := [some (vS row_1), some v_5, none, none, none, some (V.int x_17)]) rfl rfl ?_
      refine iteT_yes ?_
      refine cps_tup ?_
      refine cps_cons ?_
      refine ev_use (ev_var rfl) ?_
      refine cps_cons ?_
      refine ev_use ev_c ?_
      refine cps_nil ?_
      refine ⟨lenle rfl, fun p_39 hp_39 => ?_⟩
      have s_41 := same_lay (o := .tup [(V.int x_17), (V.bl true)]) w_36 hp_39
      have r_42 := pT2_new (p := p_39) (W.freshG w_36 hp_39) (show pI x_17 (V.int x_17) G_34 from rfl) (show pB true (V.bl true) G_34 from rfl)
      have w_40 := W.lay w_36 hp_39 (.tup [(V.int x_17), (V.bl true)])
      have w_43 : W H G0 [] _ [(D_14, .lst (av_19 ++ [(V.ref p_39)]))] _ := W.write w_40 0 rfl (.lst (av_19 ++ [(V.ref p_39)]))
      obtain rfl := someI hm
      exact ⟨_, (W.at w_40 0), hlt_26, ks_30 _ _ ⟨_, (L2.Same.trans s_35 s_41), w_43, (All2.app (All2.mono ha_37 s_41) (All2.one r_42))⟩⟩
    rintro av_46 H_47 ⟨G_48, s_49, w_50, ha_51⟩
    have hl_52 : ys_44.length ≤ sizeLine := Nat.le_trans (mapP_len e_ys_44) (lenz (All2.len ha_12) ((All2.len ha_12) ▸ hl_13))
    have s_54 := same_freeze w_50 0 rfl
    have w_53 : W H G0 [] _ [] _ := W.freeze w_50 0 rfl hE_15
    have r_55 := (pL_new (W.out w_50 _ (List.Mem.head _)) ha_51 hl_52)
    refine cps_nil ?_
    obtain ⟨d_61, e_d_61, hm⟩ := bindS hm
    obtain ⟨kvs_57, hd_58, hl_59, k_60⟩ := k_dictP (K := K) (gotG r_55 w_53.sub) w_53.sub
    obtain rfl := someI e_d_61
    refine k_60 _ (fun p_56 hp_56 => ?_)
    have hE_62 := W.freshE w_53 hp_56
    have w_63 := W.cell w_53 hp_56 (.dK kvs_57)
    have s_65 := same_freeze w_63 0 rfl
    have w_64 : W H G0 [] _ [] _ := W.freeze w_63 0 rfl hE_62
    have r_66 := (pD_new (W.out w_63 _ (List.Mem.head _)) hd_58 hl_59)
    refine cps_asg (fun x => [some (vS row_1), some v_5, some (V.ref p_56), some x, none, none]) (fun _ => rfl) ?_
    refine cps_lst ?_
    refine cps_cons ?_
    refine ev_use ev_c ?_
    refine cps_nil ?_
    refine ⟨lenle rfl, fun p_67 hp_67 => ?_⟩
    have ha_68 : All2 pI (upd (upd G_48 D_14 (.lst av_46)) p_56 (.dK kvs_57)) [(0)] [(V.int (0))] := (All2.cons rfl .nil)
    have hE_70 := W.freshE w_64 hp_67
    have w_69 := W.cell w_64 hp_67 (.lst [(V.int (0))])
    refine cps_forG ?_
    refine cps_rng1 ?_
    refine cps_cons ?_
    refine ev_use (ev_cb (ea_cons (ev_var rfl) ea_nil) (kk_lenS ok_7)) ?_
    refine cps_nil ?_
    obtain ⟨xs_71, e_xs_71, hm⟩ := bindS hm
    obtain ⟨hb_72, hx_74, hl_73⟩ := rng1_ok e_xs_71
    refine ⟨_, rfl, hb_72.1, hb_72.2, ?_⟩
    obtain ⟨res_91, e_res_91, hm⟩ := bindS hm
    have q_115 := All2.int ha_68
    have w_114 : W H G0 [] _ [(p_67, .lst ([(0)].map V.int))] _ := W.recell w_69 (by rw [← q_115])
    refine fold_w3 walk_range (by rw [hx_74]; exact rangeL_len _ _) e_res_91 (fun s1 σ1 H1 => ∃ o1_ : Option V, ∃ G1, σ1 = [some (vS row_1), some v_5, some (V.ref p_56), some (V.ref p_67), o1_, none] ∧ L2.Same (upd (upd G_48 D_14 (.lst av_46)) p_56 (.dK kvs_57)) G1 ∧ W H G0 [] G1 [(p_67, .lst (s1.map V.int))] H1 ∧ s1.length ≤ sizeLine) ⟨_, _, rfl, (L2.Same.refl _), w_114, (lenle rfl)⟩ (fun _ _ _ _ => True.intro) ?_ ?_
    · intro i_75 x_76 s_77 c_78 v_79 sg_80 H_81 H_82 hx_83 hm hP_86 hy_87 N_88 kn_89
      obtain ⟨o_92, G_94, rfl, s_95, w_96, hl_93⟩ := hP_86
      rw [hx_74] at hx_83
      obtain ⟨rfl, rfl⟩ := rng_item hx_83 hy_87
      refine for_nm (τ := [some (vS row_1), some v_5, some (V.ref p_56), some (V.ref p_67), some (V.int x_76), none]) rfl ?_
      refine cps_drop ?_
      refine cps_bm ?_
      refine ev_use (ev_var rfl) ?_
      refine ⟨tyL (W.at w_96 0), ?_⟩
      refine cps_cons ?_
      obtain ⟨t_97, e_t_97, hm⟩ := bindS hm
      obtain ⟨v_98, r_99, k_100⟩ := k_idxC (K := K) (W.at w_96 0) (All2.ofInt _ G_94) e_t_97
      obtain rfl := r_99
      obtain ⟨a_101, kvs_102, e_106, h_103, hd_104, hl_105⟩ := (Mn.mono r_66 s_95)
      refine ev_use (ev_op (ev_op (ev_var rfl) (ev_un ev_c (k_neg _)) k_100) (ev_cb (ea_cons (ev_din (k := x_76) (ev_var rfl) (ev_var rfl) (k_din e_106 (rd_mono w_96.sub h_103) hd_104 _)) ea_nil) (kk_intB _)) (k_add _ _)) ?_
      refine cps_nil ?_
      obtain ⟨xs_107, e_xs_107, hm⟩ := bindS hm
      refine app_hw (All2.ofInt _ G_94) e_xs_107 (W.at w_96 0) ?_
      have ha_108 := app_all (All2.ofInt _ G_94) rfl e_xs_107
      have w_111 : W H G0 [] _ [(p_67, .lst ((s_77.map V.int) ++ [(V.int (t_97 + (if (hasL (dictL ys_44) x_76) = true then 1 else 0)))]))] _ := W.write w_96 0 rfl (.lst ((s_77.map V.int) ++ [(V.int (t_97 + (if (hasL (dictL ys_44) x_76) = true then 1 else 0)))]))
      refine cps_next ?_
      obtain rfl := someI hm
      have q_113 := All2.int ha_108
      have w_112 : W H G0 [] _ [(p_67, .lst (xs_107.map V.int))] _ := W.recell w_111 (by rw [← q_113])
      exact kn_89 _ _ ⟨_, _, rfl, s_95, w_112, (appM_ok e_xs_107).2.2⟩
    rintro _ H_116 ⟨o_117, G_119, rfl, s_120, w_121, hl_118⟩
    refine cps_ret ?_
    refine ev_use (ev_var rfl) ?_
    have er := (someI hm).symm
    subst er
    exact hq _ _ _ _ (W.post w_121) hE_70 (W.out w_121 _ (List.Mem.head _)) (W.at w_121 0) (All2.ofInt _ G_119) hl_118 

theorem sc_over : FnScope ["row", "marks", "word", "many", "ahead", "place"] ["row", "marks", "word"] (defScope s8) := ⟨rfl, rfl, rfl, by decide +kernel, rfl, by decide +kernel, by decide +kernel⟩
def sp_over (K : PySem.W.Frag) : Sp := fun vs H Q E => ∃ (row_1 : (List Nat)) (v_2 : V) (marks_4 : (List Int)) (v_5 : V) (word_7 : (List Nat)) (v_8 : V) (G : Hp) (r : (Option Int)), vs = [v_2, v_5, v_8] ∧ L2.Same G H ∧ pS row_1 v_2 G ∧ (pL pI) marks_4 v_5 G ∧ pS word_7 v_8 G ∧ m_over row_1 marks_4 word_7 = some r ∧ (∀ v G1 H1, Post [] G H G1 H1 → (pO pI) r v G1 → Q v H1)
theorem ok_over (T : Txt K mg fa fd) : FnOk P w K mg base CX0 2 (fa 8) (fd 8) ["row", "marks", "word"] (sp_over K) := by
  refine T.f8.ok sc_over (fun vs H Q E h => ?_) (fun cdv A outer s H vs Q E hr h => ?_)
  · obtain ⟨_, _, _, _, _, _, _, _, rfl, _⟩ := h; rfl
  · obtain ⟨row_1, v_2, marks_4, v_5, word_7, v_8, G0, r0, rfl, hs0, h_3, h_6, h_9, hm, hq⟩ := h
    obtain ⟨rfl, ok_10⟩ := h_3
    obtain ⟨rfl, ok_11⟩ := h_9
    refine ⟨_, (pss_cons (ps_set (i := 3) sc_over.nd rfl (Or.inl rfl) (pe_callB call_lenS (by rfl) T.n_len PySem.boot_len (pa_cons (pv 2) pa_nil)))
      (pss_cons (ps_set (i := 4) sc_over.nd rfl (Or.inl rfl) (pe_call (ok_marks_ahead T) (hr.mono (by decide)) (by rfl) T.g7 T.f7.kp T.b7 .nil pass0 (pa_cons (pv 0) (pa_cons (pv 1) pa_nil))))
      (pss_cons (ps_for PassesOwn.never rfl (pi_range1 (by rfl) T.n_range (pa_cons (pe_op op_add (pe_op op_sub (pe_callB call_lenS (by rfl) T.n_len PySem.boot_len (pa_cons (pv 0) pa_nil)) (pv 3)) pe_int) pa_nil)) (pg_name (i := 5) sc_over.nd rfl (Or.inl rfl)) (pss_cons (ps_if (PW.pt (pw_and (pt_cmpR op_gt (pe_ix (ix_listK (K := K) rfl) (pv 4) (pe_op op_add (pv 5) (pv 3)) (fun _ _ => rfl)) (pe_ix (ix_listK (K := K) rfl) (pv 4) (pv 5) (fun _ _ => rfl)) (nomark _)) (pw_and1 (pt_cmpR op_eq (pe_slice sl_str (pv 0) (po_some (pv 5)) (po_some (pe_op op_add (pv 5) (pv 3)))) (pv 2) (nomark _))))) (pss_cons (ps_ret (pv 5))
      pss_nil) pss_nil)
      pss_nil))
      (pss_cons (ps_ret pe_non)
      pss_nil)))), ?_⟩
    have w0 : W H G0 [] G0 [] H := W.init hs0
    refine st_conv (σ' := [some (vS row_1), some v_5, some (vS word_7), none, none, none]) rfl ?_
    refine cps_asg (fun x => [some (vS row_1), some v_5, some (vS word_7), some x, none, none]) (fun _ => rfl) ?_
    obtain ⟨many_12, e_many_12, hm⟩ := bindS hm
    refine ev_use (castI e_many_12 (ev_cb (ea_cons (ev_var rfl) ea_nil) (kk_lenS ok_11))) ?_
    refine cps_asg (fun x => [some (vS row_1), some v_5, some (vS word_7), some (V.int many_12), some x, none]) (fun _ => rfl) ?_
    refine cps_call ?_
    refine cps_cons ?_
    refine ev_use (ev_var rfl) ?_
    refine cps_cons ?_
    refine ev_use (ev_var rfl) ?_
    refine cps_nil ?_
    obtain ⟨r_13, e_r_13, hm⟩ := bindS hm
    refine ⟨row_1, (vS row_1), marks_4, v_5, _, r_13, rfl, w0.sub, ⟨rfl, ok_10⟩, h_6, e_r_13, fun p_19 vs_20 G_14 H_16 q_15 hp_23 hg_24 hh_25 ha_21 hl_22 => ?_⟩
    have hE_26 := W.freshE w0 hp_23
    obtain rfl := All2.int ha_21
    have w_17 := W.callLay w0 q_15 hp_23 hg_24 hh_25
    have r_27 := pL_new hg_24 ha_21 hl_22
    refine cps_forG ?_
    refine cps_rng1 ?_
    refine cps_cons ?_
    refine ev_use (ev_op (ev_op (ev_cb (ea_cons (ev_var rfl) ea_nil) (kk_lenS ok_10)) (ev_var rfl) (k_sub _ _)) ev_c (k_add _ _)) ?_
    refine cps_nil ?_
    obtain ⟨xs_28, e_xs_28, hm⟩ := bindS hm
    obtain ⟨hb_29, hx_31, hl_30⟩ := rng1_ok e_xs_28
    refine ⟨_, rfl, hb_29.1, hb_29.2, ?_⟩
    obtain ⟨res_48, e_res_48, hm⟩ := bindS hm
    have hR_res_48 : ∀ r, res_48 = .rt r → r0 = r := fun r e => (ctlK_rt hm e)
    refine loop_w3 walk_range (by rw [hx_31]; exact rangeL_len _ _) e_res_48 (fun s1 σ1 H1 => ∃ o1_ : Option V, ∃ G1, σ1 = [some (vS row_1), some v_5, some (vS word_7), some (V.int many_12), some (V.ref p_19), o1_] ∧ L2.Same (upd G_14 p_19 (.lst (r_13.map V.int))) G1 ∧ W H G0 [] G1 [] H1) ⟨_, _, rfl, (L2.Same.refl _), w_17⟩ (fun _ _ _ _ => True.intro) ?_ ?_
    · intro i_32 x_33 s_34 c_35 v_36 sg_37 H_38 H_39 hx_40 hm hR_42 hP_43 hy_44 N_45 kn_46 kb_47
      obtain ⟨o_49, G_50, rfl, s_51, w_52⟩ := hP_43
      rw [hx_31] at hx_40
      obtain ⟨rfl, rfl⟩ := rng_item hx_40 hy_44
      refine for_nm (τ := [some (vS row_1), some v_5, some (vS word_7), some (V.int many_12), some (V.ref p_19), some (V.int x_33)]) rfl ?_
      refine s_if0 ?_
      obtain ⟨t_53, e_t_53, hm⟩ := bindS hm
      obtain ⟨v_54, r_55, k_56⟩ := k_idxG (K := K) (Mn.mono r_27 s_51) w_52.sub e_t_53
      obtain rfl := r_55
      obtain ⟨t_57, e_t_57, hm⟩ := bindS hm
      obtain ⟨v_58, r_59, k_60⟩ := k_idxG (K := K) (Mn.mono r_27 s_51) w_52.sub e_t_57
      obtain rfl := r_59
      refine et_use (et_and (et_test (ev_op (ev_op (ev_var rfl) (ev_op (ev_var rfl) (ev_var rfl) (k_add _ _)) k_56) (ev_op (ev_var rfl) (ev_var rfl) k_60) (k_gtI _ _))) (fun _ => (et_test (ev_op (ev_sl (ev_var rfl) (eo_some (ev_var rfl)) (eo_some (ev_op (ev_var rfl) (ev_var rfl) (k_add _ _))) (k_cutS ok_10)) (ev_var rfl) (k_eqS _ _))))) ?_
      refine if_cases _ (fun hb_61 => ?_) (fun hb_61 => ?_)
      · have hm := iteT' hm hb_61
        refine cps_ret ?_
        refine ev_use (ev_var rfl) ?_
        have er := (hR_res_48 _ (hR_42 _ (someI hm).symm))
        subst er
        exact hq _ _ _ (W.post w_52) rfl 
      have hm := iteF' hm hb_61
      refine cps_nextR ?_
      refine cps_next ?_
      exact kn_46 _ _ _ (someI hm).symm ⟨_, _, rfl, s_51, w_52⟩
    rintro s_62 _ H_64 he_63 ⟨o_65, G_66, rfl, s_67, w_68⟩
    have hm := ctlK_nx hm he_63
    refine cps_ret ?_
    refine ev_use ev_c ?_
    have er := (someI hm).symm
    subst er
    exact hq _ _ _ (W.post w_68) rfl 

theorem sc_law_is_same : FnScope ["_law_found", "_law_due"] ["_law_found", "_law_due"] (defScope s9) := ⟨rfl, rfl, rfl, by decide +kernel, rfl, by decide +kernel, by decide +kernel⟩
def sp_law_is_same (K : PySem.W.Frag) : Sp := fun vs H Q E => ∃ (found_1 : (Option Int)) (v_2 : V) (due_4 : (Option Int)) (v_5 : V) (G : Hp) (r : Bool), vs = [v_2, v_5] ∧ L2.Same G H ∧ (pO pI) found_1 v_2 G ∧ (pO pI) due_4 v_5 G ∧ m_law_is_same found_1 due_4 = some r ∧ (∀ v G1 H1, Post [] G H G1 H1 → pB r v G1 → Q v H1)
theorem ok_law_is_same (T : Txt K mg fa fd) : FnOk P w K mg base CX0 1 (fa 9) (fd 9) ["_law_found", "_law_due"] (sp_law_is_same K) := by
  refine T.f9.ok sc_law_is_same (fun vs H Q E h => ?_) (fun cdv A outer s H vs Q E hr h => ?_)
  · obtain ⟨_, _, _, _, _, _, rfl, _⟩ := h; rfl
  · obtain ⟨found_1, v_2, due_4, v_5, G0, r0, rfl, hs0, h_3, h_6, hm, hq⟩ := h
    refine ⟨_, (pss_cons (ps_if (pt_cmpR op_isNo (pv 1) pe_non (nomark _)) (pss_cons (ps_ret (pe_cmpR op_isNo (pv 0) pe_non (nomark _)))
      pss_nil) pss_nil)
      (pss_cons (ps_ret (pe_and (pe_callB (call_isK (K := K) rfl) (by rfl) T.n_isinstance (by decide +kernel) (pa_cons (pv 0) (pa_cons (pe_bltn (v := .ty "int") (by rfl) T.n_int (by decide +kernel) rfl) pa_nil))) (pe_and (pe_not (pe_callB (call_isK (K := K) rfl) (by rfl) T.n_isinstance (by decide +kernel) (pa_cons (pv 0) (pa_cons (pe_bltn (v := .ty "bool") (by rfl) T.n_bool (by decide +kernel) rfl) pa_nil)))) (pe_one (pe_cmpR op_eq (pv 0) (pv 1) (nomark _))))))
      pss_nil)), ?_⟩
    have w0 : W H G0 [] G0 [] H := W.init hs0
    refine st_conv (σ' := [some v_2, some v_5]) rfl ?_
    refine s_if0 ?_
    refine et_use (et_test (ev_op (ev_var rfl) ev_c (k_isO h_6))) ?_
    refine if_cases _ (fun hb_7 => ?_) (fun hb_7 => ?_)
    · have hm := iteT' hm hb_7
      refine cps_ret ?_
      refine ev_use (ev_op (ev_var rfl) ev_c (k_isO h_3)) ?_
      have er := (someI hm).symm
      subst er
      exact hq _ _ _ (W.post w0) rfl 
    have hm := iteF' hm hb_7
    refine cps_nextR ?_
    refine cps_ret ?_
    refine ev_use (ev_and (ev_cb (ea_cons (ev_var rfl) (ea_cons ev_c ea_nil)) (isiO (K := K) (R := pI) (t := "int") h_3 (fun _ h => tyIp h) (by decide +kernel) (by decide +kernel))) (fun _ => (ev_and (ev_not (ev_cb (ea_cons (ev_var rfl) (ea_cons ev_c ea_nil)) (isiOn (K := K) (R := pI) (t := "int") h_3 (fun _ h => tyIp h) (by decide +kernel) (by decide +kernel)))) (fun _ => (ev_op (ev_var rfl) (ev_var rfl) (k_eqOI h_3 h_6)))))) ?_
    have er := (someI hm).symm
    subst er
    exact hq _ _ _ (W.post w0) rfl 

theorem sc_law : FnScope ["_law_script", "_law_k", "_law_pot", "_law_text", "_law_turn", "_law_spots", "_law_word", "_law_many", "_law_due", "_law_at", "_law_met", "_law_handed", "_law_spot"] ["_law_script"] (defScope s10) := ⟨rfl, rfl, rfl, by decide +kernel, rfl, by decide +kernel, by decide +kernel⟩
def sp_law (K : PySem.W.Frag) : Sp := fun vs H Q E => ∃ (script_1 : (List Int)) (v_2 : V) (G : Hp) (r : Bool), vs = [v_2] ∧ L2.Same G H ∧ (pScr K) script_1 v_2 G ∧ m_law script_1 = some r ∧ (∀ v G1 H1, Post [] G H G1 H1 → pB r v G1 → Q v H1)
theorem ok_law (T : Txt K mg fa fd) : FnOk P w K mg base CX0 4 (fa 10) (fd 10) ["_law_script"] (sp_law K) := by
  refine T.f10.ok sc_law (fun vs H Q E h => ?_) (fun cdv A outer s H vs Q E hr h => ?_)
  · obtain ⟨_, _, _, _, rfl, _⟩ := h; rfl
  · obtain ⟨script_1, v_2, G0, r0, rfl, hs0, h_3, hm, hq⟩ := h
    refine ⟨_, (pss_cons (ps_for PassesOwn.never rfl (pi_range1 (by rfl) T.n_range (pa_cons (pe_callB (call_max2I rfl) (by rfl) T.n_max (by decide +kernel) (pa_cons pe_int (pa_cons (pe_callB (call_min2I rfl) (by rfl) T.n_min (by decide +kernel) (pa_cons (pe_callB (call_lenQ (K := K) rfl) (by rfl) T.n_len PySem.boot_len (pa_cons (pv 0) pa_nil)) (pa_cons pe_int pa_nil))) pa_nil))) pa_nil)) (pg_name (i := 1) sc_law.nd rfl (Or.inl rfl)) (pss_cons (ps_set (i := 2) sc_law.nd rfl (Or.inl rfl) (pe_call (ok_law_pot_of T) (hr.mono (by decide)) (by rfl) T.g0 T.f0.kp T.b0 .nil pass0 (pa_cons (pv 0) (pa_cons (pv 1) pa_nil))))
      (pss_cons (ps_set (i := 3) sc_law.nd rfl (Or.inl rfl) (pe_call (ok_law_text_of T) (hr.mono (by decide)) (by rfl) T.g4 T.f4.kp T.b4 .nil pass0 (pa_cons (pv 2) (pa_cons (pe_ix (ix_tupK (K := K) rfl) (pe_tup (pa_cons pe_int (pa_cons pe_int (pa_cons pe_int pa_nil)))) (pe_call (ok_law_pick T) (hr.mono (by decide)) (by rfl) T.g1 T.f1.kp T.b1 .nil pass0 (pa_cons (pv 2) (pa_cons pe_int pa_nil))) (fun _ _ => rfl)) pa_nil))))
      (pss_cons (ps_for PassesOwn.never rfl (pi_range1 (by rfl) T.n_range (pa_cons pe_int pa_nil)) (pg_name (i := 4) sc_law.nd rfl (Or.inl rfl)) (pss_cons (ps_set (i := 5) sc_law.nd rfl (Or.inl rfl) (pe_call (ok_law_spots_of T) (hr.mono (by decide)) (by rfl) T.g5 T.f5.kp T.b5 .nil pass0 (pa_cons (pv 2) (pa_cons (pv 3) pa_nil))))
      (pss_cons (ps_set (i := 6) sc_law.nd rfl (Or.inl rfl) (pe_call (ok_law_word_of T) (hr.mono (by decide)) (by rfl) T.g6 T.f6.kp T.b6 .nil pass0 (pa_cons (pv 2) (pa_cons (pv 3) pa_nil))))
      (pss_cons (ps_set (i := 7) sc_law.nd rfl (Or.inr rfl) (pe_callB call_lenS (by rfl) T.n_len PySem.boot_len (pa_cons (pv 6) pa_nil)))
      (pss_cons (ps_set (i := 8) sc_law.nd rfl (Or.inl rfl) pe_non)
      (pss_cons (ps_for PassesOwn.never rfl (pi_range3 (by rfl) T.n_range (pa_cons (pe_op op_sub (pe_callB call_lenS (by rfl) T.n_len PySem.boot_len (pa_cons (pv 3) pa_nil)) (pv 7)) (pa_cons (pe_un un_neg pe_int) (pa_cons (pe_un un_neg pe_int) pa_nil)))) (pg_name (i := 9) sc_law.nd rfl (Or.inr rfl)) (pss_cons (ps_setLc (i := 10) (own := [("_law_spot", 12)]) rfl sc_law.nd rfl rfl (sw_true rfl rfl rfl (by decide +kernel)) (pi_listK (K := K) rfl (pv 5)) (blkOk_by (N := ["_law_script", "_law_k", "_law_pot", "_law_text", "_law_turn", "_law_spots", "_law_word", "_law_many", "_law_due", "_law_at", "_law_met", "_law_handed", "_law_spot"]) (sc := (defScope s10)) (by decide +kernel)) (fun _ _ _ _ _ => (pg_name (i := 12) sc_law.nd rfl (Or.inl rfl))) (fun _ _ _ _ _ => (pts_one (pt_chain op_le op_lt (pv 9) (pv 12) (pe_op op_add (pv 9) (pv 7))))) (fun _ _ _ _ _ => (pv 12)))
      (pss_cons (ps_if (PW.pt (pw_and (pt_cmpR op_eq (pe_slice sl_str (pv 3) (po_some (pv 9)) (po_some (pe_op op_add (pv 9) (pv 7)))) (pv 6) (nomark _)) (pw_and1 (pt_cmpR (op_neDK (K := K) rfl hr.units) (pv 10) (pe_lst pa_nil) (nomark _))))) (pss_cons (ps_set (i := 8) sc_law.nd rfl (Or.inl rfl) (pv 9))
      pss_nil) pss_nil)
      pss_nil)))
      (pss_cons (ps_set (i := 11) sc_law.nd rfl (Or.inl rfl) (pe_callTy (call_listOf (K := K) rfl) (by rfl) T.n_list (by decide +kernel) (pa_cons (pv 5) pa_nil)))
      (pss_cons (ps_if (PW.pt (pw_or (pt_not (pt_val (pe_call (ok_law_is_same T) (hr.mono (by decide)) (by rfl) T.g9 T.f9.kp T.b9 .nil pass0 (pa_cons (pe_call (ok_over T) (hr.mono (by decide)) (by rfl) T.g8 T.f8.kp T.b8 .nil pass0 (pa_cons (pv 3) (pa_cons (pv 11) (pa_cons (pv 6) pa_nil)))) (pa_cons (pv 8) pa_nil))))) (pw_or1 (pt_cmpR (op_neDK (K := K) rfl hr.units) (pv 11) (pv 5) (nomark _))))) (pss_cons (ps_ret pe_bl)
      pss_nil) pss_nil)
      pss_nil))))))))
      pss_nil))))
      (pss_cons (ps_ret pe_bl)
      pss_nil)), ?_⟩
    have w0 : W H G0 [] G0 [] H := W.init hs0
    refine st_conv (σ' := [some v_2, none, none, none, none, none, none, none, none, none, none, none, none]) rfl ?_
    refine cps_forG ?_
    refine cps_rng1 ?_
    refine cps_cons ?_
    refine ev_use (ev_cb (ea_cons ev_c (ea_cons (ev_cb (ea_cons (ev_cb (ea_cons (ev_var rfl) ea_nil) (kk_lenScr (Mn.mono h_3 w0.sub))) (ea_cons ev_c ea_nil)) (kk_min2 _ _)) ea_nil)) (kk_max2 _ _)) ?_
    refine cps_nil ?_
    obtain ⟨xs_4, e_xs_4, hm⟩ := bindS hm
    obtain ⟨hb_5, hx_7, hl_6⟩ := rng1_ok e_xs_4
    refine ⟨_, rfl, hb_5.1, hb_5.2, ?_⟩
    obtain ⟨res_24, e_res_24, hm⟩ := bindS hm
    have hR_res_24 : ∀ r, res_24 = .rt r → r0 = r := fun r e => (ctlK_rt hm e)
    refine loop_w3 walk_range (by rw [hx_7]; exact rangeL_len _ _) e_res_24 (fun s1 σ1 H1 => ∃ o1_ : Option V, ∃ o2_ : Option V, ∃ o3_ : Option V, ∃ o4_ : Option V, ∃ o5_ : Option V, ∃ o6_ : Option V, ∃ o7_ : Option V, ∃ o8_ : Option V, ∃ o9_ : Option V, ∃ o10_ : Option V, ∃ o11_ : Option V, ∃ G1, σ1 = [some v_2, o11_, o1_, o2_, o3_, o4_, o5_, o6_, o7_, o8_, o10_, o9_, none] ∧ L2.Same G0 G1 ∧ W H G0 [] G1 [] H1) ⟨_, _, _, _, _, _, _, _, _, _, _, _, rfl, (L2.Same.refl _), w0⟩ (fun _ _ _ _ => True.intro) ?_ ?_
    · intro i_8 x_9 s_10 c_11 v_12 sg_13 H_14 H_15 hx_16 hm hR_18 hP_19 hy_20 N_21 kn_22 kb_23
      obtain ⟨o_25, o_26, o_27, o_28, o_29, o_30, o_31, o_32, o_33, o_34, o_35, G_36, rfl, s_37, w_38⟩ := hP_19
      rw [hx_7] at hx_16
      obtain ⟨rfl, rfl⟩ := rng_item hx_16 hy_20
      refine for_nm (τ := [some v_2, some (V.int x_9), o_25, o_26, o_27, o_28, o_29, o_30, o_31, o_32, o_34, o_33, none]) rfl ?_
      refine cps_asg (fun x => [some v_2, some (V.int x_9), some x, o_26, o_27, o_28, o_29, o_30, o_31, o_32, o_34, o_33, none]) (fun _ => rfl) ?_
      refine cps_call ?_
      refine cps_cons ?_
      refine ev_use (ev_var rfl) ?_
      refine cps_cons ?_
      refine ev_use (ev_var rfl) ?_
      refine cps_nil ?_
      obtain ⟨r_39, e_r_39, hm⟩ := bindS hm
      refine ⟨script_1, v_2, x_9, (V.int x_9), _, r_39, rfl, w_38.sub, (Mn.mono h_3 s_37), rfl, e_r_39, fun p_45 vs_46 G_40 H_42 q_41 hp_49 hg_50 hh_51 ha_47 hl_48 => ?_⟩
      have hE_52 := W.freshE w_38 hp_49
      obtain rfl := All2.int ha_47
      have w_43 := W.callOwn w_38 q_41 hp_49 hg_50 hh_51
      refine cps_asg (fun x => [some v_2, some (V.int x_9), some (V.ref p_45), some x, o_27, o_28, o_29, o_30, o_31, o_32, o_34, o_33, none]) (fun _ => rfl) ?_
      refine cps_call ?_
      refine cps_cons ?_
      refine ev_use (ev_var rfl) ?_
      refine cps_cons ?_
      refine cps_op ?_
      refine cps_tup ?_
      refine cps_cons ?_
      refine ev_use ev_c ?_
      refine cps_cons ?_
      refine ev_use ev_c ?_
      refine cps_cons ?_
      refine ev_use ev_c ?_
      refine cps_nil ?_
      refine ⟨lenle rfl, fun p_53 hp_53 => ?_⟩
      have s_55 := same_lay (o := .tup [(V.int (40)), (V.int (40)), (V.int (60))]) w_43 hp_53
      have r_56 := pT3_new (p := p_53) (W.freshG w_43 hp_53) (show pI (40) (V.int (40)) G_40 from rfl) (show pI (40) (V.int (40)) G_40 from rfl) (show pI (60) (V.int (60)) G_40 from rfl)
      have w_54 := W.lay w_43 hp_53 (.tup [(V.int (40)), (V.int (40)), (V.int (60))])
      refine cps_call ?_
      refine cps_cons ?_
      refine ev_use (ev_var rfl) ?_
      refine cps_cons ?_
      refine ev_use ev_c ?_
      refine cps_nil ?_
      obtain ⟨r_57, e_r_57, hm⟩ := bindS hm
      refine ⟨p_45, r_39, (3), (V.int (3)), _, r_57, rfl, w_54.sub, (W.out w_54 _ (List.Mem.head _)), (W.at w_54 0), hl_48, rfl, e_r_57, fun v_63 G_58 H_60 q_59 r_64 hc_65 hcl_66 => ?_⟩
      have w_61 : W H G0 [] G_58 [(p_45, .lst (r_57.2.map V.int))] H_60 := W.callM w_54 0 rfl q_59 hc_65
      obtain rfl := r_64
      obtain ⟨t_67, e_t_67, hm⟩ := bindS hm
      have ha_71 : All2 pI G_58 [(40), (40), (60)] [(V.int (40)), (V.int (40)), (V.int (60))] := (All2.cons rfl (All2.cons rfl (All2.cons rfl .nil)))
      obtain ⟨v_68, r_69, k_70⟩ := k_idxTG (K := K) (w_61.sub _ _ ((Post.base q_59) _ _ upd_same)) ha_71 e_t_67
      obtain rfl := r_69
      refine k_70 _ ?_
      refine cps_nil ?_
      obtain ⟨r_72, e_r_72, hm⟩ := bindS hm
      refine ⟨p_45, r_57.2, t_67, (V.int t_67), _, r_72, rfl, w_61.sub, (W.out w_61 _ (List.Mem.head _)), (W.at w_61 0), hcl_66, rfl, e_r_72, fun v_78 G_73 H_75 q_74 r_79 hc_80 hcl_81 => ?_⟩
      have w_76 : W H G0 [] G_73 [(p_45, .lst (r_72.2.map V.int))] H_75 := W.callM w_61 0 rfl q_74 hc_80
      obtain ⟨rfl, ok_82⟩ := r_79
      refine cps_forG ?_
      refine cps_rng1 ?_
      refine cps_cons ?_
      refine ev_use ev_c ?_
      refine cps_nil ?_
      obtain ⟨xs_83, e_xs_83, hm⟩ := bindS hm
      obtain ⟨hb_84, hx_86, hl_85⟩ := rng1_ok e_xs_83
      refine ⟨_, rfl, hb_84.1, hb_84.2, ?_⟩
      obtain ⟨res_103, e_res_103, hm⟩ := bindS hm
      have hR_res_103 : ∀ r, res_103 = .rt (.rt r) → r0 = r := fun r e => (hR_res_24 _ (hR_18 _ (ctlK_rt hm e)))
      refine loop_w3 walk_range (by rw [hx_86]; exact rangeL_len _ _) e_res_103 (fun s1 σ1 H1 => ∃ o1_ : Option V, ∃ o2_ : Option V, ∃ o3_ : Option V, ∃ o4_ : Option V, ∃ o5_ : Option V, ∃ o6_ : Option V, ∃ o7_ : Option V, ∃ o8_ : Option V, ∃ G1, σ1 = [some v_2, some (V.int x_9), some (V.ref p_45), some (vS r_72.1), o8_, o1_, o2_, o3_, o4_, o5_, o6_, o7_, none] ∧ L2.Same G_73 G1 ∧ W H G0 [] G1 [(p_45, .lst (s1.map V.int))] H1 ∧ s1.length ≤ sizeLine) ⟨_, _, _, _, _, _, _, _, _, rfl, (L2.Same.refl _), w_76, hcl_81⟩ (fun _ _ _ _ => True.intro) ?_ ?_
      · intro i_87 x_88 s_89 c_90 v_91 sg_92 H_93 H_94 hx_95 hm hR_97 hP_98 hy_99 N_100 kn_101 kb_102
        obtain ⟨o_104, o_105, o_106, o_107, o_108, o_109, o_110, o_111, G_113, rfl, s_114, w_115, hl_112⟩ := hP_98
        rw [hx_86] at hx_95
        obtain ⟨rfl, rfl⟩ := rng_item hx_95 hy_99
        refine for_nm (τ := [some v_2, some (V.int x_9), some (V.ref p_45), some (vS r_72.1), some (V.int x_88), o_104, o_105, o_106, o_107, o_108, o_109, o_110, none]) rfl ?_
        refine cps_asg (fun x => [some v_2, some (V.int x_9), some (V.ref p_45), some (vS r_72.1), some (V.int x_88), some x, o_105, o_106, o_107, o_108, o_109, o_110, none]) (fun _ => rfl) ?_
        refine cps_call ?_
        refine cps_cons ?_
        refine ev_use (ev_var rfl) ?_
        refine cps_cons ?_
        refine ev_use (ev_var rfl) ?_
        refine cps_nil ?_
        obtain ⟨r_116, e_r_116, hm⟩ := bindS hm
        refine ⟨p_45, s_89, r_72.1, (vS r_72.1), _, r_116, rfl, w_115.sub, (W.out w_115 _ (List.Mem.head _)), (W.at w_115 0), hl_112, ⟨rfl, ok_82⟩, e_r_116, fun p_122 vs_123 G_117 H_119 q_118 hp_126 hg_127 hh_128 ha_124 hl_125 hc_129 hcl_130 => ?_⟩
        have hE_131 := W.freshE w_115 hp_126
        obtain rfl := All2.int ha_124
        have w_120 : W H G0 [] (upd G_117 p_122 (.lst (r_116.1.map V.int))) [(p_45, .lst (r_116.2.map V.int))] H_119 := W.callMLay w_115 0 rfl q_118 hc_129 hp_126 hg_127 hh_128
        have r_132 := pL_new hg_127 ha_124 hl_125
        refine cps_asg (fun x => [some v_2, some (V.int x_9), some (V.ref p_45), some (vS r_72.1), some (V.int x_88), some (V.ref p_122), some x, o_106, o_107, o_108, o_109, o_110, none]) (fun _ => rfl) ?_
        refine cps_call ?_
        refine cps_cons ?_
        refine ev_use (ev_var rfl) ?_
        refine cps_cons ?_
        refine ev_use (ev_var rfl) ?_
        refine cps_nil ?_
        obtain ⟨r_133, e_r_133, hm⟩ := bindS hm
        refine ⟨p_45, r_116.2, r_72.1, (vS r_72.1), _, r_133, rfl, w_120.sub, (W.out w_120 _ (List.Mem.head _)), (W.at w_120 0), hcl_130, ⟨rfl, ok_82⟩, e_r_133, fun v_139 G_134 H_136 q_135 r_140 hc_141 hcl_142 => ?_⟩
        have w_137 : W H G0 [] G_134 [(p_45, .lst (r_133.2.map V.int))] H_136 := W.callM w_120 0 rfl q_135 hc_141
        obtain ⟨rfl, ok_143⟩ := r_140
        refine cps_asg (fun x => [some v_2, some (V.int x_9), some (V.ref p_45), some (vS r_72.1), some (V.int x_88), some (V.ref p_122), some (vS r_133.1), some x, o_107, o_108, o_109, o_110, none]) (fun _ => rfl) ?_
        obtain ⟨many_144, e_many_144, hm⟩ := bindS hm
        refine ev_use (castI e_many_144 (ev_cb (ea_cons (ev_var rfl) ea_nil) (kk_lenS ok_143))) ?_
        refine cps_asg (fun x => [some v_2, some (V.int x_9), some (V.ref p_45), some (vS r_72.1), some (V.int x_88), some (V.ref p_122), some (vS r_133.1), some (V.int many_144), some x, o_108, o_109, o_110, none]) (fun _ => rfl) ?_
        refine ev_use ev_c ?_
        refine cps_forG ?_
        refine cps_rng3 ?_
        refine cps_cons ?_
        refine ev_use (ev_op (ev_cb (ea_cons (ev_var rfl) ea_nil) (kk_lenS ok_82)) (ev_var rfl) (k_sub _ _)) ?_
        refine cps_cons ?_
        refine ev_use (ev_un ev_c (k_neg _)) ?_
        refine cps_cons ?_
        refine ev_use (ev_un ev_c (k_neg _)) ?_
        refine cps_nil ?_
        obtain ⟨xs_145, e_xs_145, hm⟩ := bindS hm
        obtain ⟨hb_146, hx_148, hl_147⟩ := rngD_ok e_xs_145
        refine ⟨_, _, _, _, rfl, hb_146, ?_⟩
        obtain ⟨res_165, e_res_165, hm⟩ := bindS hm
        refine fold_w3 walk_rangeC (by rw [hx_148]; exact downL_len _ _) e_res_165 (fun s1 σ1 H1 => ∃ o1_ : Option V, ∃ o2_ : Option V, ∃ v3_ : V, ∃ G1, σ1 = [some v_2, some (V.int x_9), some (V.ref p_45), some (vS r_72.1), some (V.int x_88), some (V.ref p_122), some (vS r_133.1), some (V.int many_144), some v3_, o2_, o1_, o_110, none] ∧ L2.Same G_134 G1 ∧ W H G0 [] G1 [(p_45, .lst (r_133.2.map V.int))] H1 ∧ (pO pI) s1 v3_ G1) ⟨_, _, _, _, rfl, (L2.Same.refl _), w_137, rfl⟩ (fun _ _ _ _ => True.intro) ?_ ?_
        · intro i_149 x_150 s_151 c_152 v_153 sg_154 H_155 H_156 hx_157 hm hP_160 hy_161 N_162 kn_163
          obtain ⟨o_166, o_167, v_168, G_170, rfl, s_171, w_172, r_169⟩ := hP_160
          rw [hx_148] at hx_157
          obtain ⟨rfl, rfl⟩ := rngD_item hx_157 hy_161
          refine for_nm (τ := [some v_2, some (V.int x_9), some (V.ref p_45), some (vS r_72.1), some (V.int x_88), some (V.ref p_122), some (vS r_133.1), some (V.int many_144), some v_168, some (V.int x_150), o_166, o_110, none]) rfl ?_
          refine cps_asg (fun x => [some v_2, some (V.int x_9), some (V.ref p_45), some (vS r_72.1), some (V.int x_88), some (V.ref p_122), some (vS r_133.1), some (V.int many_144), some v_168, some (V.int x_150), some x, o_110, none]) (fun _ => rfl) ?_
          refine cps_lc ?_
          refine cps_list ?_
          refine ev_use (ev_var rfl) ?_
          obtain ⟨a_173, vs_174, e_175, h_176, ha_177, hl_178⟩ := (Mn.mono r_132 (L2.Same.trans (Post.base q_135) s_171))
          refine ⟨_, e_175, ⟨_, SqL.of (w_172.sub _ _ h_176)⟩, ?_⟩
          intro D_179 hD_179
          have hE_180 := W.freshE w_172 hD_179
          obtain ⟨ys_206, e_ys_206, hm⟩ := bindS hm
          have w_207 := W.cell w_172 hD_179 (.lst [])
          refine lc_wP walk_list (All2.len ha_177) e_ys_206 ((All2.len ha_177) ▸ hl_178) (fun av acc H1 => ∃ G1, L2.Same G_170 G1 ∧ W H G0 [] G1 [(D_179, .lst av), (p_45, .lst (r_133.2.map V.int))] H1 ∧ All2 pI G1 acc av) ⟨_, (L2.Same.refl _), w_207, .nil⟩ (fun _ _ _ ⟨_, s_, w_, _⟩ => SqL.of (w_.sub _ _ (s_ _ _ h_176))) ?_ ?_
          · intro i_181 x_182 r_198 v_183 av_184 acc_185 H_186 H_187 hx_188 hm hP_190 hlt_191 hy_192 N_193 kn_194 ks_195
            obtain ⟨G_199, s_200, w_201, ha_202⟩ := hP_190
            obtain ⟨rfl, r_203⟩ := lst_item ha_177 hx_188 hy_192
            obtain rfl := r_203
            refine lc_nm (τ := [some v_2, some (V.int x_9), some (V.ref p_45), some (vS r_72.1), some (V.int x_88), some (V.ref p_122), some (vS r_133.1), some (V.int many_144), some v_168, some (V.int x_150), o_166, o_110, some (V.int x_182)]) rfl rfl ?_
            refine et_use (et_test (ev_chain (ev_var rfl) (ev_var rfl) (k_leI _ _) (ev_op (ev_var rfl) (ev_var rfl) (k_add _ _)) (k_ltI _ _))) ?_
            refine if_cases _ (fun hb_204 => ?_) (fun hb_204 => ?_)
            · have hm := iteT' hm hb_204
              refine ev_use (ev_var rfl) ?_
              have w_205 : W H G0 [] _ [(D_179, .lst (av_184 ++ [(V.int x_182)])), (p_45, .lst (r_133.2.map V.int))] _ := W.write w_201 0 rfl (.lst (av_184 ++ [(V.int x_182)]))
              obtain rfl := someI hm
              exact ⟨_, (W.at w_201 0), hlt_191, ks_195 _ _ _ rfl ⟨_, s_200, w_205, (All2.app ha_202 (All2.one rfl))⟩⟩
            · have hm := iteF' hm hb_204
              obtain rfl := someI hm
              exact kn_194 rfl _ ⟨_, s_200, w_201, ha_202⟩
          rintro av_208 H_209 ⟨G_210, s_211, w_212, ha_213⟩
          obtain rfl := All2.int ha_213
          have hl_214 : ys_206.length ≤ sizeLine := Nat.le_trans (lcP_len e_ys_206) (lenz (All2.len ha_177) ((All2.len ha_177) ▸ hl_178))
          have s_216 := same_freeze w_212 0 rfl
          have w_215 : W H G0 [] _ [(p_45, .lst (r_133.2.map V.int))] _ := W.freeze w_212 0 rfl hE_180
          have r_217 := (pL_new (W.out w_212 _ (List.Mem.head _)) ha_213 hl_214)
          refine s_if0 ?_
          obtain ⟨b_218, hm_225, hm⟩ := bindS hm
          refine cut_et2 (P := fun b H1 => b = b_218 ∧ ∃ G1, L2.Same (upd G_210 D_179 (.lst (ys_206.map V.int))) G1 ∧ W H G0 [] G1 [(p_45, .lst (r_133.2.map V.int))] H1) ?_ ?_
          · intro Q' kQ
            have hm := hm_225
            refine cps_and ?_
            refine et_use (et_test (ev_op (ev_sl (ev_var rfl) (eo_some (ev_var rfl)) (eo_some (ev_op (ev_var rfl) (ev_var rfl) (k_add _ _))) (k_cutS ok_82)) (ev_var rfl) (k_eqS _ _))) ?_
            refine if_cases _ (fun hb_219 => ?_) (fun hb_219 => ?_)
            · have hm := iteT' hm hb_219
              refine cps_test ?_
              refine cps_op ?_
              refine ev_use (ev_var rfl) ?_
              refine cps_lst ?_
              refine cps_nil ?_
              refine ⟨lenle rfl, fun p_220 hp_220 => ?_⟩
              have ha_221 : All2 pI (upd G_210 D_179 (.lst (ys_206.map V.int))) ([] : List Int) [] := .nil
              have s_223 := same_lay (o := .lst []) w_215 hp_220
              have r_224 := pL_new (W.freshG w_215 hp_220) ha_221 (lenle rfl)
              have w_222 := W.lay w_215 hp_220 (.lst [])
              refine (k_neD (K := K) (R := (pL pI)) (Mn.mono (Mn.mono r_217 s_223) w_222.sub) (Mn.mono r_224 w_222.sub)) _ ?_
              refine ⟨_, rfl, ?_⟩
              obtain rfl := someI hm
              exact kQ _ _ ⟨rfl, _, s_223, w_222⟩
            · have hm := iteF' hm hb_219
              obtain rfl := someI hm
              exact kQ _ _ ⟨rfl, _, (L2.Same.refl _), w_215⟩
          rintro _ H_226 ⟨rfl, G_227, s_228, w_229⟩
          obtain ⟨j_230, hm_if, hm⟩ := bindS hm
          refine cut_if4 (P := (fun σ1 H1 => ∃ v1_ : V, ∃ G1, σ1 = [some v_2, some (V.int x_9), some (V.ref p_45), some (vS r_72.1), some (V.int x_88), some (V.ref p_122), some (vS r_133.1), some (V.int many_144), some v1_, some (V.int x_150), some (V.ref D_179), o_110, none] ∧ L2.Same G_227 G1 ∧ W H G0 [] G1 [(p_45, .lst (r_133.2.map V.int))] H1 ∧ (pO pI) j_230 v1_ G1)) _ ?_ ?_ ?_
          · intro hb_231 N_232 kn_233
            have hm := iteT' hm_if hb_231
            refine cps_asg (fun x => [some v_2, some (V.int x_9), some (V.ref p_45), some (vS r_72.1), some (V.int x_88), some (V.ref p_122), some (vS r_133.1), some (V.int many_144), some x, some (V.int x_150), some (V.ref D_179), o_110, none]) (fun _ => rfl) ?_
            refine ev_use (ev_var rfl) ?_
            refine cps_next ?_
            obtain rfl := someI hm
            exact kn_233 _ _ ⟨_, _, rfl, (L2.Same.refl _), w_229, rfl⟩
          · intro hb_231 N_232 kn_233
            have hm := iteF' hm_if hb_231
            refine cps_next ?_
            obtain rfl := someI hm
            exact kn_233 _ _ ⟨_, _, rfl, (L2.Same.refl _), w_229, r_169⟩
          rintro _ H_234 ⟨v_235, G_237, rfl, s_238, w_239, r_236⟩
          refine cps_next ?_
          obtain rfl := someI hm
          exact kn_163 _ _ ⟨_, _, _, _, rfl, (L2.Same.trans s_171 (L2.Same.trans s_211 (L2.Same.trans s_216 (L2.Same.trans s_228 s_238)))), w_239, r_236⟩
        rintro _ H_240 ⟨o_241, o_242, v_243, G_245, rfl, s_246, w_247, r_244⟩
        refine cps_asg (fun x => [some v_2, some (V.int x_9), some (V.ref p_45), some (vS r_72.1), some (V.int x_88), some (V.ref p_122), some (vS r_133.1), some (V.int many_144), some v_243, o_242, o_241, some x, none]) (fun _ => rfl) ?_
        refine cps_cb ?_
        refine cps_cons ?_
        refine ev_use (ev_var rfl) ?_
        refine cps_nil ?_
        obtain ⟨vs_249, ha_250, hl_251, k_252⟩ := kk_listL (K := K) (gotG (Mn.mono r_132 (L2.Same.trans (Post.base q_135) s_246)) w_247.sub)
        refine k_252 _ (fun p_248 hp_248 => ?_)
        obtain rfl := All2.int ha_250
        have s_254 := same_lay (o := .lst (r_116.1.map V.int)) w_247 hp_248
        have r_255 := pL_new (W.freshG w_247 hp_248) ha_250 hl_251
        have w_253 := W.lay w_247 hp_248 (.lst (r_116.1.map V.int))
        refine s_if0 ?_
        obtain ⟨b_256, hm_274, hm⟩ := bindS hm
        refine cut_et2 (P := fun b H1 => b = b_256 ∧ ∃ G1, L2.Same (upd G_245 p_248 (.lst (r_116.1.map V.int))) G1 ∧ W H G0 [] G1 [(p_45, .lst (r_133.2.map V.int))] H1) ?_ ?_
        · intro Q' kQ
          have hm := hm_274
          refine cps_or ?_
          refine cps_not ?_
          refine cps_b ?_
          refine cps_call ?_
          refine cps_cons ?_
          refine cps_call ?_
          refine cps_cons ?_
          refine ev_use (ev_var rfl) ?_
          refine cps_cons ?_
          refine ev_use (ev_var rfl) ?_
          refine cps_cons ?_
          refine ev_use (ev_var rfl) ?_
          refine cps_nil ?_
          obtain ⟨r_257, e_r_257, hm⟩ := bindS hm
          refine ⟨r_72.1, (vS r_72.1), r_116.1, (V.ref p_248), r_133.1, (vS r_133.1), _, r_257, rfl, w_253.sub, ⟨rfl, ok_82⟩, r_255, ⟨rfl, ok_143⟩, e_r_257, fun v_263 G_258 H_260 q_259 r_264 => ?_⟩
          have w_261 := W.call w_253 q_259
          refine cps_cons ?_
          refine ev_use (ev_var rfl) ?_
          refine cps_nil ?_
          obtain ⟨r_265, e_r_265, hm⟩ := bindS hm
          refine ⟨r_257, v_263, res_165, v_243, _, r_265, rfl, w_261.sub, r_264, r_244, e_r_265, fun v_271 G_266 H_268 q_267 r_272 => ?_⟩
          have w_269 := W.call w_261 q_267
          obtain rfl := r_272
          refine ⟨_, rfl, ?_⟩
          refine if_cases _ (fun hb_273 => ?_) (fun hb_273 => ?_)
          · have hm := iteT' hm hb_273
            obtain rfl := someI hm
            exact kQ _ _ ⟨rfl, _, (L2.Same.trans (Post.base q_259) (Post.base q_267)), w_269⟩
          · have hm := iteF' hm hb_273
            refine et_use (et_test (ev_op (ev_var rfl) (ev_var rfl) (k_neD (K := K) (R := (pL pI)) (Mn.mono (Mn.mono r_255 (L2.Same.trans (Post.base q_259) (Post.base q_267))) w_269.sub) (Mn.mono (Mn.mono r_132 (L2.Same.trans (Post.base q_135) (L2.Same.trans s_246 (L2.Same.trans s_254 (L2.Same.trans (Post.base q_259) (Post.base q_267)))))) w_269.sub)))) ?_
            obtain rfl := someI hm
            exact kQ _ _ ⟨rfl, _, (L2.Same.trans (Post.base q_259) (Post.base q_267)), w_269⟩
        rintro _ H_275 ⟨rfl, G_276, s_277, w_278⟩
        refine if_cases _ (fun hb_279 => ?_) (fun hb_279 => ?_)
        · have hm := iteT' hm hb_279
          refine cps_ret ?_
          refine ev_use ev_c ?_
          have er := (hR_res_103 _ (hR_97 _ (someI hm).symm))
          subst er
          exact hq _ _ _ (W.post w_278) rfl 
        have hm := iteF' hm hb_279
        refine cps_nextR ?_
        refine cps_next ?_
        exact kn_101 _ _ _ (someI hm).symm ⟨_, _, _, _, _, _, _, _, _, rfl, (L2.Same.trans s_114 (L2.Same.trans (L2.Same.trans (Post.base q_118) (same_new hg_127)) (L2.Same.trans (Post.base q_135) (L2.Same.trans s_246 (L2.Same.trans s_254 s_277))))), w_278, hcl_142⟩
      rintro s_280 _ H_282 he_281 ⟨o_283, o_284, o_285, o_286, o_287, o_288, o_289, o_290, G_292, rfl, s_293, w_294, hl_291⟩
      have hm := ctlK_nx hm he_281
      refine cps_next ?_
      have w_295 : W H G0 [] _ [] _ := W.dropN w_294 1
      exact kn_22 _ _ _ (someI hm).symm ⟨_, _, _, _, _, _, _, _, _, _, _, _, rfl, (L2.Same.trans s_37 (L2.Same.trans (Post.base q_41) (L2.Same.trans s_55 (L2.Same.trans (Post.base q_59) (L2.Same.trans (Post.base q_74) s_293))))), w_295⟩
    rintro s_296 _ H_298 he_297 ⟨o_299, o_300, o_301, o_302, o_303, o_304, o_305, o_306, o_307, o_308, o_309, G_310, rfl, s_311, w_312⟩
    have hm := ctlK_nx hm he_297
    refine cps_ret ?_
    refine ev_use ev_c ?_
    have er := (someI hm).symm
    subst er
    exact hq _ _ _ (W.post w_312) rfl 

end
set_option maxHeartbeats 4000000 in
theorem all_mk {P : Program} {w : World} {K : PySem.W.Frag} {h : Heap} {mg : Str → Option Value} {fl : Addr} (X : K.In h) (G : h.Ns mainGlobals mg) (hfa : mg "law" = some (.ref fl)) {f0 : Addr} {od0 an0 : Option Addr} {sl0 : Array (Option Value)} {oc0 kV0 dc0 pm0 cd0 ct0 : Value} {f1 : Addr} {od1 an1 : Option Addr} {sl1 : Array (Option Value)} {oc1 kV1 dc1 pm1 cd1 ct1 : Value} {f2 : Addr} {od2 an2 : Option Addr} {sl2 : Array (Option Value)} {oc2 kV2 dc2 pm2 cd2 ct2 : Value} {f3 : Addr} {od3 an3 : Option Addr} {sl3 : Array (Option Value)} {oc3 kV3 dc3 pm3 cd3 ct3 : Value} {f4 : Addr} {od4 an4 : Option Addr} {sl4 : Array (Option Value)} {oc4 kV4 dc4 pm4 cd4 ct4 : Value} {f5 : Addr} {od5 an5 : Option Addr} {sl5 : Array (Option Value)} {oc5 kV5 dc5 pm5 cd5 ct5 : Value} {f6 : Addr} {od6 an6 : Option Addr} {sl6 : Array (Option Value)} {oc6 kV6 dc6 pm6 cd6 ct6 : Value} {f7 : Addr} {od7 an7 : Option Addr} {sl7 : Array (Option Value)} {oc7 kV7 dc7 pm7 cd7 ct7 : Value} {f8 : Addr} {od8 an8 : Option Addr} {sl8 : Array (Option Value)} {oc8 kV8 dc8 pm8 cd8 ct8 : Value} {f9 : Addr} {od9 an9 : Option Addr} {sl9 : Array (Option Value)} {oc9 kV9 dc9 pm9 cd9 ct9 : Value} {f10 : Addr} {od10 an10 : Option Addr} {sl10 : Array (Option Value)} {oc10 kV10 dc10 pm10 cd10 ct10 : Value}
    (a0 : PySem.W.nsIn K mainGlobals "_law_pot_of" = some (some (.ref f0))) (l0 : K.lookup f0 = some ⟨oc0, od0, .func (PySem.W.fnOf "_law_pot_of" "_law_pot_of" (defArgs s0) (defBody s0) (defScope s0) .none kV0 dc0 pm0 an0 cd0 ct0), sl0⟩) (c0 : PySem.W.codeIn K cd0 "_law_pot_of" = true) (k0 : PySem.W.keepIn K (.ref f0) = true)
    (a1 : PySem.W.nsIn K mainGlobals "_law_pick" = some (some (.ref f1))) (l1 : K.lookup f1 = some ⟨oc1, od1, .func (PySem.W.fnOf "_law_pick" "_law_pick" (defArgs s1) (defBody s1) (defScope s1) .none kV1 dc1 pm1 an1 cd1 ct1), sl1⟩) (c1 : PySem.W.codeIn K cd1 "_law_pick" = true) (k1 : PySem.W.keepIn K (.ref f1) = true)
    (a2 : PySem.W.nsIn K mainGlobals "_law_signs_of" = some (some (.ref f2))) (l2 : K.lookup f2 = some ⟨oc2, od2, .func (PySem.W.fnOf "_law_signs_of" "_law_signs_of" (defArgs s2) (defBody s2) (defScope s2) .none kV2 dc2 pm2 an2 cd2 ct2), sl2⟩) (c2 : PySem.W.codeIn K cd2 "_law_signs_of" = true) (k2 : PySem.W.keepIn K (.ref f2) = true)
    (a3 : PySem.W.nsIn K mainGlobals "_law_standard_text" = some (some (.ref f3))) (l3 : K.lookup f3 = some ⟨oc3, od3, .func (PySem.W.fnOf "_law_standard_text" "_law_standard_text" (defArgs s3) (defBody s3) (defScope s3) .none kV3 dc3 pm3 an3 cd3 ct3), sl3⟩) (c3 : PySem.W.codeIn K cd3 "_law_standard_text" = true) (k3 : PySem.W.keepIn K (.ref f3) = true)
    (a4 : PySem.W.nsIn K mainGlobals "_law_text_of" = some (some (.ref f4))) (l4 : K.lookup f4 = some ⟨oc4, od4, .func (PySem.W.fnOf "_law_text_of" "_law_text_of" (defArgs s4) (defBody s4) (defScope s4) .none kV4 dc4 pm4 an4 cd4 ct4), sl4⟩) (c4 : PySem.W.codeIn K cd4 "_law_text_of" = true) (k4 : PySem.W.keepIn K (.ref f4) = true)
    (a5 : PySem.W.nsIn K mainGlobals "_law_spots_of" = some (some (.ref f5))) (l5 : K.lookup f5 = some ⟨oc5, od5, .func (PySem.W.fnOf "_law_spots_of" "_law_spots_of" (defArgs s5) (defBody s5) (defScope s5) .none kV5 dc5 pm5 an5 cd5 ct5), sl5⟩) (c5 : PySem.W.codeIn K cd5 "_law_spots_of" = true) (k5 : PySem.W.keepIn K (.ref f5) = true)
    (a6 : PySem.W.nsIn K mainGlobals "_law_word_of" = some (some (.ref f6))) (l6 : K.lookup f6 = some ⟨oc6, od6, .func (PySem.W.fnOf "_law_word_of" "_law_word_of" (defArgs s6) (defBody s6) (defScope s6) .none kV6 dc6 pm6 an6 cd6 ct6), sl6⟩) (c6 : PySem.W.codeIn K cd6 "_law_word_of" = true) (k6 : PySem.W.keepIn K (.ref f6) = true)
    (a7 : PySem.W.nsIn K mainGlobals "marks_ahead" = some (some (.ref f7))) (l7 : K.lookup f7 = some ⟨oc7, od7, .func (PySem.W.fnOf "marks_ahead" "marks_ahead" (defArgs s7) (defBody s7) (defScope s7) .none kV7 dc7 pm7 an7 cd7 ct7), sl7⟩) (c7 : PySem.W.codeIn K cd7 "marks_ahead" = true) (k7 : PySem.W.keepIn K (.ref f7) = true)
    (a8 : PySem.W.nsIn K mainGlobals "over" = some (some (.ref f8))) (l8 : K.lookup f8 = some ⟨oc8, od8, .func (PySem.W.fnOf "over" "over" (defArgs s8) (defBody s8) (defScope s8) .none kV8 dc8 pm8 an8 cd8 ct8), sl8⟩) (c8 : PySem.W.codeIn K cd8 "over" = true) (k8 : PySem.W.keepIn K (.ref f8) = true)
    (a9 : PySem.W.nsIn K mainGlobals "_law_is_same" = some (some (.ref f9))) (l9 : K.lookup f9 = some ⟨oc9, od9, .func (PySem.W.fnOf "_law_is_same" "_law_is_same" (defArgs s9) (defBody s9) (defScope s9) .none kV9 dc9 pm9 an9 cd9 ct9), sl9⟩) (c9 : PySem.W.codeIn K cd9 "_law_is_same" = true) (k9 : PySem.W.keepIn K (.ref f9) = true)
    (a10 : PySem.W.nsIn K mainGlobals "law" = some (some (.ref f10))) (l10 : K.lookup f10 = some ⟨oc10, od10, .func (PySem.W.fnOf "law" "law" (defArgs s10) (defBody s10) (defScope s10) .none kV10 dc10 pm10 an10 cd10 ct10), sl10⟩) (c10 : PySem.W.codeIn K cd10 "law" = true) (k10 : PySem.W.keepIn K (.ref f10) = true)
    (z_abs : PySem.W.nsIn K mainGlobals "abs" = some none) (z_bool : PySem.W.nsIn K mainGlobals "bool" = some none) (z_dict : PySem.W.nsIn K mainGlobals "dict" = some none) (z_int : PySem.W.nsIn K mainGlobals "int" = some none) (z_isinstance : PySem.W.nsIn K mainGlobals "isinstance" = some none) (z_len : PySem.W.nsIn K mainGlobals "len" = some none) (z_list : PySem.W.nsIn K mainGlobals "list" = some none) (z_max : PySem.W.nsIn K mainGlobals "max" = some none) (z_min : PySem.W.nsIn K mainGlobals "min" = some none) (z_range : PySem.W.nsIn K mainGlobals "range" = some none)  :
    ∃ fd : FuncData, (∀ (s : Shared) (v : Value), BindsTo s fd ⟨[v], []⟩ [("_law_script", v)]) ∧ ∀ base : Heap, K.In base → base.Ns mainGlobals mg → FnOk P w K mg base CX0 4 fl fd ["_law_script"] (sp_law K) := by
  have e := hfa.symm.trans (PySem.W.mg_of X G a10)
  cases e
  have F0 := fun_mk (st := s0) l0 c0 k0
  have B0 := F0.binds (ps := ["_law_script", "_law_k"]) fun _ _ _ _ _ _ us hl => match us, hl with | [_, _], _ => rfl
  have F1 := fun_mk (st := s1) l1 c1 k1
  have B1 := F1.binds (ps := ["_law_pot", "_law_many"]) fun _ _ _ _ _ _ us hl => match us, hl with | [_, _], _ => rfl
  have F2 := fun_mk (st := s2) l2 c2 k2
  have B2 := F2.binds (ps := ["_law_pot"]) fun _ _ _ _ _ _ us hl => match us, hl with | [_], _ => rfl
  have F3 := fun_mk (st := s3) l3 c3 k3
  have B3 := F3.binds (ps := ["_law_pot", "_law_signs", "_law_many"]) fun _ _ _ _ _ _ us hl => match us, hl with | [_, _, _], _ => rfl
  have F4 := fun_mk (st := s4) l4 c4 k4
  have B4 := F4.binds (ps := ["_law_pot", "_law_most"]) fun _ _ _ _ _ _ us hl => match us, hl with | [_, _], _ => rfl
  have F5 := fun_mk (st := s5) l5 c5 k5
  have B5 := F5.binds (ps := ["_law_pot", "_law_text"]) fun _ _ _ _ _ _ us hl => match us, hl with | [_, _], _ => rfl
  have F6 := fun_mk (st := s6) l6 c6 k6
  have B6 := F6.binds (ps := ["_law_pot", "_law_text"]) fun _ _ _ _ _ _ us hl => match us, hl with | [_, _], _ => rfl
  have F7 := fun_mk (st := s7) l7 c7 k7
  have B7 := F7.binds (ps := ["row", "marks"]) fun _ _ _ _ _ _ us hl => match us, hl with | [_, _], _ => rfl
  have F8 := fun_mk (st := s8) l8 c8 k8
  have B8 := F8.binds (ps := ["row", "marks", "word"]) fun _ _ _ _ _ _ us hl => match us, hl with | [_, _, _], _ => rfl
  have F9 := fun_mk (st := s9) l9 c9 k9
  have B9 := F9.binds (ps := ["_law_found", "_law_due"]) fun _ _ _ _ _ _ us hl => match us, hl with | [_, _], _ => rfl
  have F10 := fun_mk (st := s10) l10 c10 k10
  have B10 := F10.binds (ps := ["_law_script"]) fun _ _ _ _ _ _ us hl => match us, hl with | [_], _ => rfl
  have T : Txt K mg (fun n => match n with | 0 => f0 | 1 => f1 | 2 => f2 | 3 => f3 | 4 => f4 | 5 => f5 | 6 => f6 | 7 => f7 | 8 => f8 | 9 => f9 | 10 => fl | _ => fl) (fun n => match n with | 0 => (PySem.W.fnOf "_law_pot_of" "_law_pot_of" (defArgs s0) (defBody s0) (defScope s0) .none kV0 dc0 pm0 an0 cd0 ct0) | 1 => (PySem.W.fnOf "_law_pick" "_law_pick" (defArgs s1) (defBody s1) (defScope s1) .none kV1 dc1 pm1 an1 cd1 ct1) | 2 => (PySem.W.fnOf "_law_signs_of" "_law_signs_of" (defArgs s2) (defBody s2) (defScope s2) .none kV2 dc2 pm2 an2 cd2 ct2) | 3 => (PySem.W.fnOf "_law_standard_text" "_law_standard_text" (defArgs s3) (defBody s3) (defScope s3) .none kV3 dc3 pm3 an3 cd3 ct3) | 4 => (PySem.W.fnOf "_law_text_of" "_law_text_of" (defArgs s4) (defBody s4) (defScope s4) .none kV4 dc4 pm4 an4 cd4 ct4) | 5 => (PySem.W.fnOf "_law_spots_of" "_law_spots_of" (defArgs s5) (defBody s5) (defScope s5) .none kV5 dc5 pm5 an5 cd5 ct5) | 6 => (PySem.W.fnOf "_law_word_of" "_law_word_of" (defArgs s6) (defBody s6) (defScope s6) .none kV6 dc6 pm6 an6 cd6 ct6) | 7 => (PySem.W.fnOf "marks_ahead" "marks_ahead" (defArgs s7) (defBody s7) (defScope s7) .none kV7 dc7 pm7 an7 cd7 ct7) | 8 => (PySem.W.fnOf "over" "over" (defArgs s8) (defBody s8) (defScope s8) .none kV8 dc8 pm8 an8 cd8 ct8) | 9 => (PySem.W.fnOf "_law_is_same" "_law_is_same" (defArgs s9) (defBody s9) (defScope s9) .none kV9 dc9 pm9 an9 cd9 ct9) | 10 => (PySem.W.fnOf "law" "law" (defArgs s10) (defBody s10) (defScope s10) .none kV10 dc10 pm10 an10 cd10 ct10) | _ => (PySem.W.fnOf "law" "law" (defArgs s10) (defBody s10) (defScope s10) .none kV10 dc10 pm10 an10 cd10 ct10)) := { f0 := F0, g0 := PySem.W.mg_of X G a0, b0 := B0, f1 := F1, g1 := PySem.W.mg_of X G a1, b1 := B1, f2 := F2, g2 := PySem.W.mg_of X G a2, b2 := B2, f3 := F3, g3 := PySem.W.mg_of X G a3, b3 := B3, f4 := F4, g4 := PySem.W.mg_of X G a4, b4 := B4, f5 := F5, g5 := PySem.W.mg_of X G a5, b5 := B5, f6 := F6, g6 := PySem.W.mg_of X G a6, b6 := B6, f7 := F7, g7 := PySem.W.mg_of X G a7, b7 := B7, f8 := F8, g8 := PySem.W.mg_of X G a8, b8 := B8, f9 := F9, g9 := PySem.W.mg_of X G a9, b9 := B9, f10 := F10, g10 := PySem.W.mg_of X G a10, b10 := B10, n_abs := PySem.W.mg_none_of X G z_abs, n_bool := PySem.W.mg_none_of X G z_bool, n_dict := PySem.W.mg_none_of X G z_dict, n_int := PySem.W.mg_none_of X G z_int, n_isinstance := PySem.W.mg_none_of X G z_isinstance, n_len := PySem.W.mg_none_of X G z_len, n_list := PySem.W.mg_none_of X G z_list, n_max := PySem.W.mg_none_of X G z_max, n_min := PySem.W.mg_none_of X G z_min, n_range := PySem.W.mg_none_of X G z_range }
  exact ⟨(PySem.W.fnOf "law" "law" (defArgs s10) (defBody s10) (defScope s10) .none kV10 dc10 pm10 an10 cd10 ct10), fun s v => .of_eq rfl, fun base _ _ => ok_law T⟩
end Lk05

open PySem PySem.W PyProof.Rows
set_option maxRecDepth 100000 in
set_option maxHeartbeats 0 in
theorem PySem.Challenge.cw_likemarks_k05_words_over_marks_holds : PySem.Challenge.rw_likemarks_k05_words_over_marks.Holds := by
  w_on; o_law; k_head; (case hw => w_witness2)
  k_fill
  refine L2.walk_of (l := PySem.Challenge.rw_likemarks_k05_words_over_marks) (n := 63) (k := 4) (x := "_law_script") (CX := fun _ => L2.CX0) (sp := fun w => Lk05.sp_law _) rfl (by decide) rfl ⟨rfl, by decide, by decide⟩ (fun w h Y => PySem.W.kIn_of Y) ?F (fun _ H a ns hl _ hS => ⟨ns, .ref a, H, true, rfl, L2.Same.refl _, ⟨a, rfl, hS⟩, Lk05.law_true ns hl, fun v _ _ _ hv => hv⟩) (fun _ _ _ _ _ h => h)
  case F =>
    intro w mg fl h KX G hmg
    refine' Lk05.all_mk KX G hmg ?a0 ?l0 ?c0 ?k0 ?a1 ?l1 ?c1 ?k1 ?a2 ?l2 ?c2 ?k2 ?a3 ?l3 ?c3 ?k3 ?a4 ?l4 ?c4 ?k4 ?a5 ?l5 ?c5 ?k5 ?a6 ?l6 ?c6 ?k6 ?a7 ?l7 ?c7 ?k7 ?a8 ?l8 ?c8 ?k8 ?a9 ?l9 ?c9 ?k9 ?a10 ?l10 ?c10 ?k10 ?z_abs ?z_bool ?z_dict ?z_int ?z_isinstance ?z_len ?z_list ?z_max ?z_min ?z_range
    (case a0 => k_is)
    (case l0 => k_is)
    (case c0 => k_is)
    (case k0 => k_is)
    (case a1 => k_is)
    (case l1 => k_is)
    (case c1 => k_is)
    (case k1 => k_is)
    (case a2 => k_is)
    (case l2 => k_is)
    (case c2 => k_is)
    (case k2 => k_is)
    (case a3 => k_is)
    (case l3 => k_is)
    (case c3 => k_is)
    (case k3 => k_is)
    (case a4 => k_is)
    (case l4 => k_is)
    (case c4 => k_is)
    (case k4 => k_is)
    (case a5 => k_is)
    (case l5 => k_is)
    (case c5 => k_is)
    (case k5 => k_is)
    (case a6 => k_is)
    (case l6 => k_is)
    (case c6 => k_is)
    (case k6 => k_is)
    (case a7 => k_is)
    (case l7 => k_is)
    (case c7 => k_is)
    (case k7 => k_is)
    (case a8 => k_is)
    (case l8 => k_is)
    (case c8 => k_is)
    (case k8 => k_is)
    (case a9 => k_is)
    (case l9 => k_is)
    (case c9 => k_is)
    (case k9 => k_is)
    (case a10 => k_is)
    (case l10 => k_is)
    (case c10 => k_is)
    (case k10 => k_is)
    (case z_abs => k_is)
    (case z_bool => k_is)
    (case z_dict => k_is)
    (case z_int => k_is)
    (case z_isinstance => k_is)
    (case z_len => k_is)
    (case z_list => k_is)
    (case z_max => k_is)
    (case z_min => k_is)
    (case z_range => k_is)
