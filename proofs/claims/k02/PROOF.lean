import PyProof.Rows.All
import Wide.All
import OpenK.AllK
import Wide.FinOn
import HandS.ForMost
import HandS.Walk
import HandS.StrMore
import HandS.Wide
import HandS.IsInst
import HandS.ListEq
import HandS.Style
import HandS.RevRange
import HandS.Rev
import HandS.Zip
import HandS.Strs
import HandS.Text
import HandS.More
import HandS.SortInts
import HandS.TupAny
import PySem.Challenge.RW_likemarks_k02_places_told
set_option Elab.async false
set_option linter.all false
set_option maxRecDepth 100000
set_option maxHeartbeats 4000000
namespace MK
open PySem PySem.Spec L2

/-! ### reps -/
def sS (l : List Nat) : Str := ⟨l.toArray⟩
theorem sS_len (l : List Nat) : (sS l).length = l.length := by simp [sS, Str.length]
theorem sS_list (l : List Nat) : (sS l).cps.toList = l := by simp [sS]
theorem sS_inj {l m : List Nat} (h : sS l = sS m) : l = m := by
  have := congrArg (fun s : Str => s.cps.toList) h
  simpa [sS] using this
def vS (l : List Nat) : V := .str (sS l)
abbrev Rep (α : Type) := α → V → Hp → Prop
def pI : Rep Int := fun n v _ => v = .int n
def pB : Rep Bool := fun b v _ => v = .bl b
def pU : Rep Unit := fun _ v _ => v = .non
structure OkS (l : List Nat) : Prop where
  len : l.length ≤ sizeLine
  cps : ∀ c ∈ l, c < 0x110000
def pS : Rep (List Nat) := fun l v _ => v = vS l ∧ OkS l
def pO {α} (R : Rep α) : Rep (Option α) := fun o v H => match o with | none => v = .non | some x => R x v H
inductive All2 {α : Type} (R : Rep α) (H : Hp) : List α → List V → Prop
  | nil : All2 R H [] []
  | cons {x : α} {v : V} {xs : List α} {vs : List V} : R x v H → All2 R H xs vs → All2 R H (x :: xs) (v :: vs)
def pL {α} (R : Rep α) : Rep (List α) := fun xs v H => ∃ a vs, v = .ref a ∧ H a = some (.lst vs) ∧ All2 R H xs vs ∧ xs.length ≤ sizeLine
def pT1 {α} (R : Rep α) : Rep α := fun p v H => ∃ a u, v = .ref a ∧ H a = some (.tup [u]) ∧ R p u H
def pT2 {α β} (R : Rep α) (S : Rep β) : Rep (α × β) := fun p v H => ∃ a u w, v = .ref a ∧ H a = some (.tup [u, w]) ∧ R p.1 u H ∧ S p.2 w H
def pT3 {α β γ} (R : Rep α) (S : Rep β) (T : Rep γ) : Rep (α × β × γ) := fun p v H => ∃ a u w x, v = .ref a ∧ H a = some (.tup [u, w, x]) ∧ R p.1 u H ∧ S p.2.1 w H ∧ T p.2.2 x H
def pT4 {α β γ δ} (R : Rep α) (S : Rep β) (T : Rep γ) (U : Rep δ) : Rep (α × β × γ × δ) := fun p v H => ∃ a u w x y, v = .ref a ∧ H a = some (.tup [u, w, x, y]) ∧ R p.1 u H ∧ S p.2.1 w H ∧ T p.2.2.1 x H ∧ U p.2.2.2 y H
/-- the script: read alone -/
def pScr (K : PySem.W.Frag) : Rep (List Int) := fun ns v H => ∃ a, v = .ref a ∧ SqL K H a (ns.map V.int)

class Mn {α : Type} (R : Rep α) : Prop where
  mono : ∀ {x v H H'}, R x v H → L2.Same H H' → R x v H'
instance : Mn pI := ⟨fun h _ => h⟩
instance : Mn pB := ⟨fun h _ => h⟩
instance : Mn pU := ⟨fun h _ => h⟩
instance : Mn pS := ⟨fun h _ => h⟩
instance {α} {R : Rep α} [Mn R] : Mn (pO R) := ⟨fun {x v H H'} h s => by
  cases x with
  | none => exact h
  | some x => exact Mn.mono (R := R) h s⟩
theorem All2.mono {α} {R : Rep α} [Mn R] {xs : List α} {vs : List V} {H H' : Hp} (h : All2 R H xs vs) (s : L2.Same H H') : All2 R H' xs vs := by
  induction h with
  | nil => exact .nil
  | cons r _ ih => exact .cons (Mn.mono r s) ih
instance {α} {R : Rep α} [Mn R] : Mn (pL R) := ⟨fun ⟨a, vs, e, h, p, l⟩ s => ⟨a, vs, e, s _ _ h, All2.mono p s, l⟩⟩
instance {α} {R : Rep α} [Mn R] : Mn (pT1 R) := ⟨fun ⟨a, u, e, h, p⟩ s => ⟨a, u, e, s _ _ h, Mn.mono p s⟩⟩
instance {α β} {R : Rep α} {S : Rep β} [Mn R] [Mn S] : Mn (pT2 R S) := ⟨fun ⟨a, u, w, e, h, p, q⟩ s => ⟨a, u, w, e, s _ _ h, Mn.mono p s, Mn.mono q s⟩⟩
instance {α β γ} {R : Rep α} {S : Rep β} {T : Rep γ} [Mn R] [Mn S] [Mn T] : Mn (pT3 R S T) := ⟨fun ⟨a, u, w, x, e, h, p, q, r⟩ s => ⟨a, u, w, x, e, s _ _ h, Mn.mono p s, Mn.mono q s, Mn.mono r s⟩⟩
instance {α β γ δ} {R : Rep α} {S : Rep β} {T : Rep γ} {U : Rep δ} [Mn R] [Mn S] [Mn T] [Mn U] : Mn (pT4 R S T U) := ⟨fun ⟨a, u, w, x, y, e, h, p, q, r, z⟩ s => ⟨a, u, w, x, y, e, s _ _ h, Mn.mono p s, Mn.mono q s, Mn.mono r s, Mn.mono z s⟩⟩
instance {K : PySem.W.Frag} : Mn (pScr K) := ⟨fun ⟨a, e, h⟩ s => ⟨a, e, L2.Same.seq s h⟩⟩

theorem All2.len {α} {R : Rep α} {xs : List α} {vs : List V} {H : Hp} (h : All2 R H xs vs) : xs.length = vs.length := by
  induction h with
  | nil => rfl
  | cons _ _ ih => simp [ih]
theorem All2.app {α} {R : Rep α} {H : Hp} : ∀ {xs ys : List α} {vs ws : List V}, All2 R H xs vs → All2 R H ys ws → All2 R H (xs ++ ys) (vs ++ ws)
  | _, _, _, _, .nil, h => h
  | _, _, _, _, .cons r t, h => .cons r (All2.app t h)
theorem All2.one {α} {R : Rep α} {H : Hp} {x : α} {v : V} (h : R x v H) : All2 R H [x] [v] := .cons h .nil
theorem All2.get {α} {R : Rep α} {H : Hp} : ∀ {xs : List α} {vs : List V} {i : Nat} {x : α}, All2 R H xs vs → xs[i]? = some x → ∃ v, vs[i]? = some v ∧ R x v H
  | _, _, _, _, .nil, e => by simp at e
  | _, _, 0, _, .cons r _, e => by simp at e; subst e; exact ⟨_, rfl, r⟩
  | _, _, i + 1, x, .cons _ t, e => by
    obtain ⟨u, h1, h2⟩ := All2.get (i := i) (x := x) t (by simpa using e)
    exact ⟨u, by simpa using h1, h2⟩
theorem All2.getV {α} {R : Rep α} {H : Hp} : ∀ {xs : List α} {vs : List V} {i : Nat} {v : V}, All2 R H xs vs → vs[i]? = some v → ∃ x, xs[i]? = some x ∧ R x v H
  | _, _, _, _, .nil, e => by simp at e
  | _, _, 0, _, .cons r _, e => by simp at e; subst e; exact ⟨_, rfl, r⟩
  | _, _, i + 1, x, .cons _ t, e => by
    obtain ⟨u, h1, h2⟩ := All2.getV (i := i) (v := x) t (by simpa using e)
    exact ⟨u, by simpa using h1, h2⟩
theorem All2.take {α} {R : Rep α} {H : Hp} : ∀ {xs : List α} {vs : List V} (n : Nat), All2 R H xs vs → All2 R H (xs.take n) (vs.take n)
  | _, _, 0, _ => .nil
  | _, _, _ + 1, .nil => .nil
  | _, _, n + 1, .cons r t => .cons r (All2.take n t)
theorem All2.drop {α} {R : Rep α} {H : Hp} : ∀ {xs : List α} {vs : List V} (n : Nat), All2 R H xs vs → All2 R H (xs.drop n) (vs.drop n)
  | _, _, 0, h => h
  | _, _, _ + 1, .nil => .nil
  | _, _, n + 1, .cons _ t => All2.drop n t
theorem All2.set {α} {R : Rep α} {H : Hp} {x : α} {v : V} (r : R x v H) : ∀ {xs : List α} {vs : List V} (n : Nat), All2 R H xs vs → All2 R H (xs.set n x) (vs.set n v)
  | _, _, _, .nil => .nil
  | _, _, 0, .cons _ t => .cons r t
  | _, _, n + 1, .cons q t => .cons q (All2.set r n t)
theorem All2.rev {α} {R : Rep α} {H : Hp} : ∀ {xs : List α} {vs : List V}, All2 R H xs vs → All2 R H xs.reverse vs.reverse
  | _, _, .nil => .nil
  | x :: xs, v :: vs, .cons r t => by rw [List.reverse_cons, List.reverse_cons]; exact All2.app (All2.rev t) (All2.one r)
theorem All2.int {xs : List Int} {vs : List V} {H : Hp} (h : All2 pI H xs vs) : vs = xs.map V.int := by
  induction h with
  | nil => rfl
  | cons r _ ih => rw [List.map_cons, ih]; rw [show _ = _ from r]
theorem All2.ofInt : ∀ (xs : List Int) (H : Hp), All2 pI H xs (xs.map V.int)
  | [], _ => .nil
  | x :: xs, H => .cons rfl (All2.ofInt xs H)
theorem All2.bool {xs : List Bool} {vs : List V} {H : Hp} (h : All2 pB H xs vs) : vs = xs.map V.bl := by
  induction h with
  | nil => rfl
  | cons r _ ih => rw [List.map_cons, ih]; rw [show _ = _ from r]
theorem All2.ofBool : ∀ (xs : List Bool) (H : Hp), All2 pB H xs (xs.map V.bl)
  | [], _ => .nil
  | x :: xs, H => .cons rfl (All2.ofBool xs H)
theorem All2.str {xs : List (List Nat)} {vs : List V} {H : Hp} (h : All2 pS H xs vs) : vs = xs.map vS ∧ ∀ l ∈ xs, OkS l := by
  induction h with
  | nil => exact ⟨rfl, by simp⟩
  | cons r _ ih =>
    obtain ⟨r1, r2⟩ := r
    refine ⟨by rw [List.map_cons, ih.1, r1], fun l hl => ?_⟩
    rcases List.mem_cons.mp hl with rfl | hl
    · exact r2
    · exact ih.2 l hl
theorem All2.ofStr : ∀ (xs : List (List Nat)) (H : Hp), (∀ l ∈ xs, OkS l) → All2 pS H xs (xs.map vS)
  | [], _, _ => .nil
  | x :: xs, H, h => .cons ⟨rfl, h _ List.mem_cons_self⟩ (All2.ofStr xs H fun l hl => h l (List.mem_cons_of_mem _ hl))
theorem vS_map (xs : List (List Nat)) : xs.map vS = (xs.map sS).map V.str := by rw [List.map_map]; rfl

/-! ### the frame: G the base (never changed), cs the cells, H the heap; E the heap at the entry, G0 the base there, M the cells that were handed in to be changed -/
structure W (E G0 : Hp) (M : List Addr) (G : Hp) (cs : List (Addr × HO)) (H : Hp) : Prop where
  sub : L2.Same G H
  at_ : ∀ c ∈ cs, H c.1 = some c.2
  out : ∀ c ∈ cs, G c.1 = none
  nd : cs.Pairwise (fun c d => c.1 ≠ d.1)
  own : ∀ c ∈ cs, c.1 ∈ M ∨ E c.1 = none
  keep : ∀ b o, E b = some o → b ∉ M → H b = some o
  base : L2.Same G0 G
  sep : ∀ b, E b ≠ none → G0 b = none → G b = none
  live : ∀ a ∈ M, H a ≠ none
structure Post (M : List Addr) (G H G' H' : Hp) : Prop where
  base : L2.Same G G'
  sub : L2.Same G' H'
  keep : ∀ b o, H b = some o → b ∉ M → H' b = some o
  sep : ∀ b, H b ≠ none → G b = none → G' b = none
section
variable {E G0 G G' H H' : Hp} {M : List Addr} {cs : List (Addr × HO)} {p : Addr} {o o' : HO}
theorem W.post (w : W E G0 M G cs H) : Post M G0 E G H := ⟨w.base, w.sub, w.keep, w.sep⟩
theorem W.init (h : L2.Same G H) : W H G [] G [] H := ⟨h, (fun _ z => nomatch z), (fun _ z => nomatch z), .nil, (fun _ z => nomatch z), fun _ _ e _ => e, fun _ _ e => e, fun _ _ e => e, (fun _ z => nomatch z)⟩
theorem W.init1 (h : L2.Same G H) (e : H p = some o) (n : G p = none) : W H G [p] G [(p, o)] H := ⟨h, fun c z => by cases List.mem_singleton.mp z; exact e, fun c z => by cases List.mem_singleton.mp z; exact n, .cons (fun _ z => nomatch z) .nil, fun c z => by cases List.mem_singleton.mp z; exact .inl (List.mem_singleton.mpr rfl), fun _ _ e _ => e, fun _ _ e => e, fun _ _ e => e, fun a z => by cases List.mem_singleton.mp z; rw [e]; simp⟩
theorem W.freshE (w : W E G0 M G cs H) (h : H p = none) : E p = none := by
  cases q : E p with
  | none => rfl
  | some u =>
    by_cases hm : p ∈ M
    · exact absurd h (w.live p hm)
    · rw [w.keep p u q hm] at h; cases h
theorem W.freshG (w : W E G0 M G cs H) (h : H p = none) : G p = none := w.sub.free h
theorem W.ne (w : W E G0 M G cs H) (h : H p = none) : ∀ c ∈ cs, c.1 ≠ p := fun c hc e => by
  have := w.at_ c hc
  rw [e, h] at this; cases this
/-- a new object that is never changed -/
theorem W.lay (w : W E G0 M G cs H) (h : H p = none) (o : HO) : W E G0 M (upd G p o) cs (upd H p o) where
  sub := fun b u e => by
    by_cases hb : b = p
    · subst hb; rw [upd_same] at e; rw [upd_same]; exact e
    · rw [upd_ne hb] at e; rw [upd_ne hb]; exact w.sub b u e
  at_ := fun c hc => by rw [upd_ne (w.ne h c hc)]; exact w.at_ c hc
  out := fun c hc => by rw [upd_ne (w.ne h c hc)]; exact w.out c hc
  nd := w.nd
  own := w.own
  keep := fun b u e hm => by rw [upd_ne (ne_of_none (w.keep b u e hm) h)]; exact w.keep b u e hm
  base := fun b u e => by rw [upd_ne (ne_of_none (w.sub b u (w.base b u e)) h)]; exact w.base b u e
  sep := fun b e1 e2 => by
    have hb : b ≠ p := fun z => by subst z; exact e1 (w.freshE h)
    rw [upd_ne hb]; exact w.sep b e1 e2
  live := fun a ha => by
    by_cases hb : a = p
    · subst hb; rw [upd_same]; simp
    · rw [upd_ne hb]; exact w.live a ha
theorem same_lay (w : W E G0 M G cs H) (h : H p = none) : L2.Same G (upd G p o) := fun b u e => by rw [upd_ne (ne_of_none (w.sub b u e) h)]; exact e
/-- a new cell -/
theorem W.cell (w : W E G0 M G cs H) (h : H p = none) (o : HO) : W E G0 M G ((p, o) :: cs) (upd H p o) where
  sub := fun b u e => by rw [upd_ne (ne_of_none (w.sub b u e) h)]; exact w.sub b u e
  at_ := fun c hc => by
    rcases List.mem_cons.mp hc with rfl | hc
    · exact upd_same
    · rw [upd_ne (w.ne h c hc)]; exact w.at_ c hc
  out := fun c hc => by
    rcases List.mem_cons.mp hc with rfl | hc
    · exact w.freshG h
    · exact w.out c hc
  nd := .cons (fun d hd => (w.ne h d hd).symm) w.nd
  own := fun c hc => by
    rcases List.mem_cons.mp hc with rfl | hc
    · exact .inr (w.freshE h)
    · exact w.own c hc
  keep := fun b u e hm => by rw [upd_ne (ne_of_none (w.keep b u e hm) h)]; exact w.keep b u e hm
  base := w.base
  sep := w.sep
  live := fun a ha => by
    by_cases hb : a = p
    · subst hb; rw [upd_same]; simp
    · rw [upd_ne hb]; exact w.live a ha
theorem mem_set_ne {cs : List (Addr × HO)} {k : Nat} (nd : cs.Pairwise (fun c d => c.1 ≠ d.1)) (hk : cs[k]? = some (p, o)) : ∀ c ∈ cs.set k (p, o'), c = (p, o') ∨ (c ∈ cs ∧ c.1 ≠ p) := by
  induction cs generalizing k with
  | nil => simp at hk
  | cons d ds ih =>
    intro c hc
    cases nd with
    | cons h1 h2 =>
      cases k with
      | zero =>
        simp at hk
        subst hk
        rw [List.set_cons_zero] at hc
        rcases List.mem_cons.mp hc with rfl | hc
        · exact .inl rfl
        · exact .inr ⟨List.mem_cons_of_mem _ hc, (h1 c hc).symm⟩
      | succ k =>
        rw [List.set_cons_succ] at hc
        have hk' : ds[k]? = some (p, o) := by simpa using hk
        rcases List.mem_cons.mp hc with rfl | hc
        · exact .inr ⟨List.mem_cons_self, h1 (p, o) (List.mem_of_getElem? hk')⟩
        · rcases ih h2 hk' c hc with e | ⟨e1, e2⟩
          · exact .inl e
          · exact .inr ⟨List.mem_cons_of_mem _ e1, e2⟩
theorem pairwise_set {cs : List (Addr × HO)} {k : Nat} (nd : cs.Pairwise (fun c d => c.1 ≠ d.1)) (hk : cs[k]? = some (p, o)) : (cs.set k (p, o')).Pairwise (fun c d => c.1 ≠ d.1) := by
  have e : (cs.set k (p, o')).map (·.1) = cs.map (·.1) := by
    apply List.ext_getElem?
    intro i
    rw [List.getElem?_map, List.getElem?_map, List.getElem?_set]
    by_cases hi : k = i
    · subst hi
      rw [if_pos rfl]
      have : k < cs.length := (List.getElem?_eq_some_iff.mp hk).1
      rw [if_pos this, hk]; rfl
    · rw [if_neg hi]
  have h1 : (cs.map (·.1)).Pairwise (· ≠ ·) := List.pairwise_map.mpr nd
  rw [← e] at h1
  exact List.pairwise_map.mp h1
/-- a cell is changed -/
theorem W.write (w : W E G0 M G cs H) (k : Nat) (hk : cs[k]? = some (p, o)) (o' : HO) : W E G0 M G (cs.set k (p, o')) (upd H p o') := by
  have hp : (p, o) ∈ cs := List.mem_of_getElem? hk
  have gp : G p = none := w.out _ hp
  refine ⟨fun b u e => ?_, fun c hc => ?_, fun c hc => ?_, pairwise_set w.nd hk, fun c hc => ?_, fun b u e hm => ?_, w.base, w.sep, fun a ha => ?_⟩
  · rw [upd_ne (ne_of_none e gp)]; exact w.sub b u e
  · rcases mem_set_ne w.nd hk c hc with rfl | ⟨h1, h2⟩
    · exact upd_same
    · rw [upd_ne h2]; exact w.at_ c h1
  · rcases mem_set_ne w.nd hk c hc with rfl | ⟨h1, h2⟩
    · exact gp
    · exact w.out c h1
  · rcases mem_set_ne w.nd hk c hc with rfl | ⟨h1, h2⟩
    · have q := w.own (p, o) hp; exact q
    · exact w.own c h1
  · have hb : b ≠ p := fun z => by
      subst z
      rcases w.own _ hp with q | q
      · exact hm q
      · exact absurd (e.symm.trans q) (by simp)
    rw [upd_ne hb]; exact w.keep b u e hm
  · by_cases hb : a = p
    · subst hb; rw [upd_same]; simp
    · rw [upd_ne hb]; exact w.live a ha
theorem W.at (w : W E G0 M G cs H) (k : Nat) (hk : cs[k]? = some (p, o) := by rfl) : H p = some o := w.at_ _ (List.mem_of_getElem? hk)
/-- a cell is forgotten -/
theorem W.sub' {cs' : List (Addr × HO)} (w : W E G0 M G cs H) (h : cs'.Sublist cs) : W E G0 M G cs' H := ⟨w.sub, fun c hc => w.at_ c (h.subset hc), fun c hc => w.out c (h.subset hc), w.nd.sublist h, fun c hc => w.own c (h.subset hc), w.keep, w.base, w.sep, w.live⟩
theorem W.perm {cs' : List (Addr × HO)} (w : W E G0 M G cs H) (h : cs.Perm cs') : W E G0 M G cs' H := ⟨w.sub, fun c hc => w.at_ c (h.mem_iff.mpr hc), fun c hc => w.out c (h.mem_iff.mpr hc), (h.pairwise_iff (fun h => h.symm)).mp w.nd, fun c hc => w.own c (h.mem_iff.mpr hc), w.keep, w.base, w.sep, w.live⟩
/-- a cell of one's own (the k-th) is changed no more -/
theorem W.freeze (w : W E G0 M G cs H) (k : Nat) (hk : cs[k]? = some (p, o)) (hE : E p = none) : W E G0 M (upd G p o) (cs.eraseIdx k) H := by
  have hp : (p, o) ∈ cs := List.mem_of_getElem? hk
  have hs : (cs.eraseIdx k).Sublist cs := List.eraseIdx_sublist _ _
  have ne : ∀ c ∈ cs.eraseIdx k, c.1 ≠ p := by
    have hg := w.nd
    clear hs
    induction cs generalizing k with
    | nil => simp at hk
    | cons d ds ih =>
      intro c hc
      cases hg with
      | cons h1 h2 =>
        cases k with
        | zero =>
          simp at hk; subst hk
          rw [List.eraseIdx_cons_zero] at hc
          exact (h1 c hc).symm
        | succ k =>
          rw [List.eraseIdx_cons_succ] at hc
          have hk' : ds[k]? = some (p, o) := by simpa using hk
          rcases List.mem_cons.mp hc with rfl | hc
          · exact h1 (p, o) (List.mem_of_getElem? hk')
          · exact ih (w.sub' (List.sublist_cons_self _ _)) k hk' (List.mem_of_getElem? hk') h2 c hc
  refine ⟨fun b u e => ?_, fun c hc => w.at_ c (hs.subset hc), fun c hc => ?_, w.nd.sublist hs, fun c hc => w.own c (hs.subset hc), w.keep, fun b u e => ?_, fun b e1 e2 => ?_, w.live⟩
  · by_cases hb : b = p
    · subst hb; rw [upd_same] at e; cases e; exact w.at_ _ hp
    · rw [upd_ne hb] at e; exact w.sub b u e
  · rw [upd_ne (ne c hc)]; exact w.out c (hs.subset hc)
  · rw [upd_ne (ne_of_none (w.base b u e) (w.out _ hp))]; exact w.base b u e
  · have hb : b ≠ p := fun z => by subst z; exact e1 hE
    rw [upd_ne hb]; exact w.sep b e1 e2
theorem same_freeze (w : W E G0 M G cs H) (k : Nat) (hk : cs[k]? = some (p, o)) : L2.Same G (upd G p o) := fun b u e => by rw [upd_ne (ne_of_none e (w.out _ (List.mem_of_getElem? hk)))]; exact e
/-- behind a call that changes nothing -/
theorem W.call (w : W E G0 M G cs H) (q : Post [] G H G' H') : W E G0 M G' cs H' := by
  have k : ∀ b u, H b = some u → H' b = some u := fun b u e => q.keep b u e (fun z => nomatch z)
  have hE : ∀ b, E b ≠ none → H b ≠ none := fun b e => by
    by_cases hm : b ∈ M
    · exact w.live b hm
    · cases z : E b with
      | none => exact absurd z e
      | some u => rw [w.keep b u z hm]; simp
  refine ⟨q.sub, fun c hc => k _ _ (w.at_ c hc), fun c hc => q.sep _ (by rw [w.at_ c hc]; simp) (w.out c hc), w.nd, w.own, fun b u e hm => k b u (w.keep b u e hm), w.base.trans q.base, fun b e1 e2 => q.sep b (hE b e1) (w.sep b e1 e2), fun a ha => ?_⟩
  cases z : H a with
  | none => exact absurd z (w.live a ha)
  | some u => rw [k a u z]; simp
/-- .. the base stays as it was -/
theorem W.callK (w : W E G0 M G cs H) {GH : Hp} (q : Post [] GH H G' H') : W E G0 M G cs H' := by
  have k : ∀ b u, H b = some u → H' b = some u := fun b u e => q.keep b u e (fun z => nomatch z)
  refine ⟨fun b u e => k b u (w.sub b u e), fun c hc => k _ _ (w.at_ c hc), w.out, w.nd, w.own, fun b u e hm => k b u (w.keep b u e hm), w.base, w.sep, fun a ha => ?_⟩
  cases z : H a with
  | none => exact absurd z (w.live a ha)
  | some u => rw [k a u z]; simp
/-- behind a call that changes the k-th cell -/
theorem W.callM (w : W E G0 M G cs H) (k : Nat) (hk : cs[k]? = some (p, o)) (q : Post [p] G H G' H') (hp' : H' p = some o') : W E G0 M G' (cs.set k (p, o')) H' := by
  have hp : (p, o) ∈ cs := List.mem_of_getElem? hk
  have kk : ∀ b u, b ≠ p → H b = some u → H' b = some u := fun b u n e => q.keep b u e (fun z => n (List.mem_singleton.mp z))
  have hE : ∀ b, E b ≠ none → H b ≠ none := fun b e => by
    by_cases hm : b ∈ M
    · exact w.live b hm
    · cases z : E b with
      | none => exact absurd z e
      | some u => rw [w.keep b u z hm]; simp
  refine ⟨q.sub, fun c hc => ?_, fun c hc => ?_, pairwise_set w.nd hk, fun c hc => ?_, fun b u e hm => ?_, w.base.trans q.base, fun b e1 e2 => q.sep b (hE b e1) (w.sep b e1 e2), fun a ha => ?_⟩
  · rcases mem_set_ne w.nd hk c hc with rfl | ⟨h1, h2⟩
    · exact hp'
    · exact kk _ _ h2 (w.at_ c h1)
  · rcases mem_set_ne w.nd hk c hc with rfl | ⟨h1, h2⟩
    · exact q.sep p (by rw [w.at_ _ hp]; simp) (w.out _ hp)
    · exact q.sep _ (by rw [w.at_ c h1]; simp) (w.out c h1)
  · rcases mem_set_ne w.nd hk c hc with rfl | ⟨h1, h2⟩
    · have q := w.own (p, o) hp; exact q
    · exact w.own c h1
  · have hb : b ≠ p := fun z => by
      subst z
      rcases w.own _ hp with q | q
      · exact hm q
      · exact absurd (e.symm.trans q) (by simp)
    exact kk b u hb (w.keep b u e hm)
  · by_cases hb : a = p
    · subst hb; rw [hp']; simp
    · cases z : H a with
      | none => exact absurd z (w.live a ha)
      | some u => rw [kk a u hb z]; simp
/-- behind a call that hands back a new cell -/
theorem W.own' (w : W E G0 M G cs H') (hE : E p = none) (hp : H' p = some o) (hG : G p = none) (hc : ∀ c ∈ cs, c.1 ≠ p) : W E G0 M G ((p, o) :: cs) H' := by
  refine ⟨w.sub, fun c z => ?_, fun c z => ?_, .cons (fun d hd => (hc d hd).symm) w.nd, fun c z => ?_, w.keep, w.base, w.sep, w.live⟩
  · rcases List.mem_cons.mp z with rfl | z
    · exact hp
    · exact w.at_ c z
  · rcases List.mem_cons.mp z with rfl | z
    · exact hG
    · exact w.out c z
  · rcases List.mem_cons.mp z with rfl | z
    · exact .inr hE
    · exact w.own c z
end
end MK

namespace MK
open PySem PySem.Spec L2

/-! ### the mirror's words -/
theorem bindS {α β : Type} {a : Option α} {f : α → Option β} {r : β} (h : a.bind f = some r) : ∃ x, a = some x ∧ f x = some r := by
  cases a with
  | none => cases h
  | some x => exact ⟨x, rfl, h⟩
theorem iteT' {α : Type} {b : Bool} {A B : Option α} {r : α} (h : (if b = true then A else B) = some r) (hb : b = true) : A = some r := by rw [if_pos hb] at h; exact h
theorem iteF' {α : Type} {b : Bool} {A B : Option α} {r : α} (h : (if b = true then A else B) = some r) (hb : b = false) : B = some r := by rw [hb, if_neg Bool.false_ne_true] at h; exact h
theorem someI {α : Type} {a b : α} (h : some a = some b) : a = b := Option.some.inj h
/-- a way out of a loop's turn -/
inductive Ctl (ρ σ : Type) where
  | nx (s : σ) | bk (s : σ) | rt (r : ρ)
def loopM {α ρ σ : Type} (f : α → σ → Option (Ctl ρ σ)) : List α → σ → Option (Ctl ρ σ)
  | [], s => some (.nx s)
  | x :: xs, s => (f x s).bind fun c => match c with
    | .nx s' => loopM f xs s'
    | .bk s' => some (.nx s')
    | .rt r => some (.rt r)
def foldO {α σ : Type} (f : α → σ → Option σ) : List α → σ → Option σ
  | [], s => some s
  | x :: xs, s => (f x s).bind (foldO f xs)
def whileM {ρ σ : Type} (c : σ → Option Bool) (f : σ → Option (Ctl ρ σ)) : Nat → σ → Option (Ctl ρ σ)
  | 0, _ => none
  | n + 1, s => (c s).bind fun b => if b = true then (f s).bind fun r => match r with
    | .nx s' => whileM c f n s'
    | .bk s' => some (.nx s')
    | .rt r => some (.rt r)
    else some (.nx s)
/-- a comprehension: the item kept or not, the state behind it -/
def lcS {α β σ : Type} (f : α → σ → Option (Option β × σ)) : List α → σ → Option (List β × σ)
  | [], s => some ([], s)
  | x :: xs, s => (f x s).bind fun r => (lcS f xs r.2).bind fun q => some (match r.1 with | some y => (y :: q.1, q.2) | none => q)
def lcP {α β : Type} (f : α → Option (Option β)) : List α → Option (List β)
  | [] => some []
  | x :: xs => (f x).bind fun r => (lcP f xs).bind fun q => some (match r with | some y => y :: q | none => q)
def mapP {α β : Type} (f : α → Option β) : List α → Option (List β)
  | [] => some []
  | x :: xs => (f x).bind fun y => (mapP f xs).bind fun q => some (y :: q)

/-! ### expressions that make nothing -/
def EV (te : TE) (σ : St) (H : Hp) (v : V) : Prop := ∀ Q : VK, Q v H → te σ H Q
def ET (t : TT) (σ : St) (H : Hp) (b : Bool) : Prop := ∀ Q : Bool → Hp → Prop, Q b H → t σ H Q
def EA (t : TA) (σ : St) (H : Hp) (vs : List V) : Prop := ∀ Q : List V → Hp → Prop, Q vs H → t σ H Q
def EO (t : TO) (σ : St) (H : Hp) (o : Option Int) : Prop := ∀ Q : Option Int → Hp → Prop, Q o H → t σ H Q
section
variable {σ σ' : St} {H H' : Hp} {Q : VK} {v x y z : V} {te ta tb tc : TE} {tt tu : TT} {rr : R2} {b c : Bool} {D : Ends} {i : Nat} {rest ts tsu : TS}
theorem ev_use (h : EV te σ H v) (k : Q v H) : te σ H Q := h Q k
theorem et_use {Q : Bool → Hp → Prop} (h : ET tt σ H b) (k : Q b H) : tt σ H Q := h Q k
theorem ea_use {t : TA} {vs : List V} {Q : List V → Hp → Prop} (h : EA t σ H vs) (k : Q vs H) : t σ H Q := h Q k
theorem ev_var (h : σ[i]? = some (some v)) : EV (tVar i) σ H v := fun _ q => ⟨v, h, q⟩
theorem ev_c : EV (tC v) σ H v := fun _ q => q
theorem ev_op (h1 : EV ta σ H x) (h2 : EV tb σ H y) (k : ∀ Q : VK, Q z H → rr x y H Q) : EV (tOp rr ta tb) σ H z := fun Q q => h1 _ (h2 _ (k Q q))
theorem ev_un {r : V → Hp → VK → Prop} (h1 : EV ta σ H x) (k : ∀ Q : VK, Q z H → r x H Q) : EV (tUn r ta) σ H z := fun Q q => h1 _ (k Q q)
theorem ev_cb {r : List V → Hp → VK → Prop} {t : TA} {vs : List V} (h1 : EA t σ H vs) (k : ∀ Q : VK, Q z H → r vs H Q) : EV (tCB r t) σ H z := fun Q q => h1 _ (k Q q)
theorem ea_nil : EA tNil σ H [] := fun _ q => q
theorem ea_cons {t : TA} {vs : List V} (h : EV ta σ H x) (h2 : EA t σ H vs) : EA (tCons ta t) σ H (x :: vs) := fun _ q => h _ (h2 _ q)
theorem eo_none : EO tNoPart σ H none := fun _ q => q
theorem eo_some {n : Int} (h : EV ta σ H (.int n)) : EO (tPart ta) σ H (some n) := fun _ q => h _ ⟨n, rfl, q⟩
theorem et_test (h : EV ta σ H (.bl b)) : ET (tTest ta) σ H b := fun _ q => h _ ⟨b, rfl, q⟩
theorem et_b (h : EV ta σ H (.bl b)) : ET (tB ta) σ H b := fun _ q => h _ ⟨b, rfl, q⟩
theorem et_not (h : ET tt σ H b) : ET (tNot tt) σ H (!b) := fun _ q => h _ q
theorem et_and (h : ET tt σ H b) (h2 : b = true → ET tu σ H c) : ET (tAnd tt tu) σ H (b && c) := fun Q q => h _ (by
  cases b with
  | true => exact h2 rfl Q q
  | false => exact q)
theorem et_or (h : ET tt σ H b) (h2 : b = false → ET tu σ H c) : ET (tOr tt tu) σ H (b || c) := fun Q q => h _ (by
  cases b with
  | true => exact q
  | false => exact h2 rfl Q q)
theorem ev_and (h : EV ta σ H (.bl b)) (h2 : b = true → EV tb σ H (.bl c)) : EV (tAndV ta tb) σ H (.bl (b && c)) := fun Q q => h _ ⟨b, rfl, by
  cases b with
  | true => exact h2 rfl Q q
  | false => exact q⟩
theorem ev_or (h : EV ta σ H (.bl b)) (h2 : b = false → EV tb σ H (.bl c)) : EV (tOrV ta tb) σ H (.bl (b || c)) := fun Q q => h _ ⟨b, rfl, by
  cases b with
  | true => exact q
  | false => exact h2 rfl Q q⟩
theorem ev_not (h : EV ta σ H (.bl b)) : EV (tNotV ta) σ H (.bl (!b)) := fun _ q => h _ ⟨b, rfl, q⟩
theorem ev_if (h : ET tt σ H b) (h1 : b = true → EV ta σ H x) (h2 : b = false → EV tb σ H x) : EV (tIf tt ta tb) σ H x := fun Q q => h _ (by
  cases b with
  | true => exact h1 rfl Q q
  | false => exact h2 rfl Q q)
/-! operators on values -/
theorem k_I0 {g : Int → Int → V} (i j : Int) : ∀ Q : VK, Q (g i j) H → rI0 g (.int i) (.int j) H Q := fun _ q => ⟨i, j, rfl, rfl, q⟩
theorem k_I {C : Int → Int → Prop} {g : Int → Int → V} (i j : Int) (h : C i j) : ∀ Q : VK, Q (g i j) H → rI C g (.int i) (.int j) H Q := fun _ q => ⟨i, j, rfl, rfl, h, q⟩
theorem k_neg (i : Int) : ∀ Q : VK, Q (.int (-i)) H → rU (fun i => .int (-i)) (.int i) H Q := fun _ q => ⟨i, rfl, q⟩
theorem k_eqI (i j : Int) : ∀ Q : VK, Q (.bl (decide (i = j))) H → rEq (.int i) (.int j) H Q := fun Q q => ⟨rfl, by
  have e : decide (V.int i = V.int j) = decide (i = j) := by by_cases h : i = j <;> simp [h]
  rw [e]; exact q⟩
theorem k_neI (i j : Int) : ∀ Q : VK, Q (.bl (!decide (i = j))) H → rNe (.int i) (.int j) H Q := fun Q q => ⟨rfl, by
  have e : decide (V.int i = V.int j) = decide (i = j) := by by_cases h : i = j <;> simp [h]
  rw [e]; exact q⟩
theorem vS_eq (l m : List Nat) : decide (vS l = vS m) = decide (l = m) := by
  by_cases h : l = m
  · subst h; simp
  · rw [decide_eq_false h, decide_eq_false]
    intro e
    exact h (sS_inj (V.str.inj e))
theorem k_eqS (l m : List Nat) : ∀ Q : VK, Q (.bl (decide (l = m))) H → rEq (vS l) (vS m) H Q := fun Q q => ⟨rfl, by rw [vS_eq]; exact q⟩
theorem k_neS (l m : List Nat) : ∀ Q : VK, Q (.bl (!decide (l = m))) H → rNe (vS l) (vS m) H Q := fun Q q => ⟨rfl, by rw [vS_eq]; exact q⟩
theorem k_eqB (l m : Bool) : ∀ Q : VK, Q (.bl (decide (l = m))) H → rEq (.bl l) (.bl m) H Q := fun Q q => ⟨rfl, by
  have e : decide (V.bl l = V.bl m) = decide (l = m) := by cases l <;> cases m <;> rfl
  rw [e]; exact q⟩
theorem k_neB (l m : Bool) : ∀ Q : VK, Q (.bl (!decide (l = m))) H → rNe (.bl l) (.bl m) H Q := fun Q q => ⟨rfl, by
  have e : decide (V.bl l = V.bl m) = decide (l = m) := by cases l <;> cases m <;> rfl
  rw [e]; exact q⟩
/-! ### statements -/
theorem cps_op (h : ta σ H fun x H1 => tb σ H1 fun y H2 => rr x y H2 Q) : tOp rr ta tb σ H Q := h
theorem cps_un {r : V → Hp → VK → Prop} (h : ta σ H fun x H1 => r x H1 Q) : tUn r ta σ H Q := h
theorem cps_cons {t : TA} {Q : List V → Hp → Prop} (h : ta σ H fun x H1 => t σ H1 fun xs H2 => Q (x :: xs) H2) : tCons ta t σ H Q := h
theorem cps_nil {Q : List V → Hp → Prop} (h : Q [] H) : tNil σ H Q := h
theorem cps_cb {r : List V → Hp → VK → Prop} {t : TA} (h : t σ H fun vs H1 => r vs H1 Q) : tCB r t σ H Q := h
theorem cps_test {Q : Bool → Hp → Prop} (h : te σ H fun x H1 => ∃ k, x = .bl k ∧ Q k H1) : tTest te σ H Q := h
theorem cps_b {Q : Bool → Hp → Prop} (h : te σ H fun x H1 => ∃ k, x = .bl k ∧ Q k H1) : tB te σ H Q := h
theorem cps_not {Q : Bool → Hp → Prop} (h : tt σ H fun b H1 => Q (!b) H1) : tNot tt σ H Q := h
theorem cps_asg (τ : V → St) (e : ∀ x, σ.set i (some x) = τ x) (h : te σ H fun x H1 => rest D (τ x) H1) : tSeq (tAsg te (gName i)) rest D σ H := by
  have e' : τ = fun x => σ.set i (some x) := funext fun x => (e x).symm
  subst e'
  exact h
theorem cps_drop (h : te σ H fun _ H1 => rest D σ H1) : tSeq (tDrop te) rest D σ H := h
theorem cps_ret (h : te σ H D.rt) : tSeq (tRet te) rest D σ H := h
theorem cps_for {wi : TI} {g : TG} {tb : TS} (h : wi σ H fun J H1 => ∃ W : Nat → Nat → St → Hp → Prop, (∃ m, W 0 m σ H1) ∧ ∀ i m σ H, W i m σ H →
  (J.stop i H ∧ rest D σ H) ∨ (J.go i H ∧ ∃ N : St → Hp → Prop, (∀ σ' H', N σ' H' → ∃ m', m' < m ∧ W (i + 1) m' σ' H') ∧ ∀ x H', J.yld i H x H' → g x σ H' fun σ2 H2 => tb { D with nx := N, ct := N, bk := rest D } σ2 H2)) :
  tSeq (tFor wi g tb) rest D σ H := h
/-- an if behind which the rest goes on: P holds at the end of either way -/
theorem s_if (P : St → Hp → Prop) (k : ∀ σ' H', P σ' H' → rest D σ' H') (h : tt σ H fun b H1 => if b = true then ts { D with nx := rest D } σ H1 else tsu { D with nx := rest D } σ H1) : tSeq (tIfS tt ts tsu) rest D σ H := h
/-- by cases, the end of either way cut -/
theorem cut_if {P : St → Hp → Prop} {N : St → Hp → Prop} (b : Bool) (k : ∀ σ' H', P σ' H' → N σ' H')
    (h1 : b = true → ∀ N' : St → Hp → Prop, (∀ σ' H', P σ' H' → N' σ' H') → ts { D with nx := N' } σ H) (h2 : b = false → ∀ N' : St → Hp → Prop, (∀ σ' H', P σ' H' → N' σ' H') → tsu { D with nx := N' } σ H) :
    if b = true then ts { D with nx := N } σ H else tsu { D with nx := N } σ H := by
  cases b with
  | true => exact h1 rfl N k
  | false => exact h2 rfl N k
theorem if_cases {A B : Prop} (b : Bool) (h1 : b = true → A) (h2 : b = false → B) : if b = true then A else B := by
  cases b with
  | true => exact h1 rfl
  | false => exact h2 rfl
/-- the end of an expression cut -/
theorem cut_ev {P : V → Hp → Prop} (k : ∀ v H', P v H' → Q v H') (h : ∀ Q' : VK, (∀ v H', P v H' → Q' v H') → te σ H Q') : te σ H Q := h Q k
theorem cut_et {Q : Bool → Hp → Prop} {P : Bool → Hp → Prop} (k : ∀ v H', P v H' → Q v H') (h : ∀ Q' : Bool → Hp → Prop, (∀ v H', P v H' → Q' v H') → tt σ H Q') : tt σ H Q := h Q k
end
end MK

namespace MK
open PySem PySem.Spec L2
section
variable {J : It} {n : Nat} {G : Hp → Prop} {Y : Nat → Hp → V → Hp → Prop} {α β ρ S : Type}
theorem drop_at {xs : List α} {i : Nat} (h : i < xs.length) : xs.drop i = xs[i] :: xs.drop (i + 1) := by
  exact List.drop_eq_getElem_cons h
theorem loop_w (w : Walk J n G Y) {f : α → S → Option (Ctl ρ S)} {xs : List α} (hn : xs.length = n) {s0 : S} {res : Ctl ρ S} (hm : loopM f xs s0 = some res)
    {g : TG} {tb : TS} {D : Ends} {σ : St} {H : Hp} (P : S → St → Hp → Prop) (h0 : P s0 σ H) (hG : ∀ s σ H, P s σ H → G H)
    (turn : ∀ (i : Nat) x s c v σ H H', xs[i]? = some x → f x s = some c → (∀ s', c = .bk s' → res = .nx s') → (∀ r, c = .rt r → res = .rt r) → P s σ H → Y i H v H' →
      ∀ N : St → Hp → Prop, (∀ s' σ' H', c = .nx s' → P s' σ' H' → N σ' H') → g v σ H' fun σ2 H2 => tb { D with nx := N, ct := N, bk := D.nx } σ2 H2)
    (done : ∀ s' σ H, res = .nx s' → P s' σ H → D.nx σ H) :
    ∃ W : Nat → Nat → St → Hp → Prop, (∃ m, W 0 m σ H) ∧ ∀ i m σ H, W i m σ H →
      (J.stop i H ∧ D.nx σ H) ∨ (J.go i H ∧ ∃ N : St → Hp → Prop, (∀ σ' H', N σ' H' → ∃ m', m' < m ∧ W (i + 1) m' σ' H') ∧ ∀ x H', J.yld i H x H' → g x σ H' fun σ2 H2 => tb { D with nx := N, ct := N, bk := D.nx } σ2 H2) := by
  subst hn
  refine for_it w (fun i σ H => ∃ s, loopM f (xs.drop i) s = some res ∧ P s σ H) ⟨s0, by simpa using hm, h0⟩ (fun i σ H _ ⟨s, _, p⟩ => hG s σ H p) ?_ ?_
  · rintro i v σ H H' hi ⟨s, hl, p⟩ y
    rw [drop_at hi] at hl
    obtain ⟨c, e1, e2⟩ := bindS hl
    refine turn i xs[i] s c v σ H H' (by simp [hi]) e1 ?_ ?_ p y _ ?_
    · intro s' e; subst e; exact (someI e2).symm
    · intro r e; subst e; exact (someI e2).symm
    · intro s' σ' H' e p'; subst e; exact ⟨s', e2, p'⟩
  · rintro σ H ⟨s, hl, p⟩
    rw [List.drop_length] at hl
    exact done s σ H (someI hl).symm p
theorem fold_w (w : Walk J n G Y) {f : α → S → Option S} {xs : List α} (hn : xs.length = n) {s0 res : S} (hm : foldO f xs s0 = some res)
    {g : TG} {tb : TS} {D : Ends} {σ : St} {H : Hp} (P : S → St → Hp → Prop) (h0 : P s0 σ H) (hG : ∀ s σ H, P s σ H → G H)
    (turn : ∀ (i : Nat) x s s' v σ H H', xs[i]? = some x → f x s = some s' → P s σ H → Y i H v H' →
      ∀ N : St → Hp → Prop, (∀ σ' H', P s' σ' H' → N σ' H') → g v σ H' fun σ2 H2 => tb { D with nx := N, ct := N, bk := D.nx } σ2 H2)
    (done : ∀ σ H, P res σ H → D.nx σ H) :
    ∃ W : Nat → Nat → St → Hp → Prop, (∃ m, W 0 m σ H) ∧ ∀ i m σ H, W i m σ H →
      (J.stop i H ∧ D.nx σ H) ∨ (J.go i H ∧ ∃ N : St → Hp → Prop, (∀ σ' H', N σ' H' → ∃ m', m' < m ∧ W (i + 1) m' σ' H') ∧ ∀ x H', J.yld i H x H' → g x σ H' fun σ2 H2 => tb { D with nx := N, ct := N, bk := D.nx } σ2 H2) := by
  subst hn
  refine for_it w (fun i σ H => ∃ s, foldO f (xs.drop i) s = some res ∧ P s σ H) ⟨s0, by simpa using hm, h0⟩ (fun i σ H _ ⟨s, _, p⟩ => hG s σ H p) ?_ ?_
  · rintro i v σ H H' hi ⟨s, hl, p⟩ y
    rw [drop_at hi] at hl
    obtain ⟨c, e1, e2⟩ := bindS hl
    exact turn i xs[i] s c v σ H H' (by simp [hi]) e1 p y _ fun σ' H' p' => ⟨c, e2, p'⟩
  · rintro σ H ⟨s, hl, p⟩
    rw [List.drop_length] at hl
    cases someI hl
    exact done σ H p
theorem lc_w (w : Walk J n G Y) {f : α → S → Option (Option β × S)} {xs : List α} (hn : xs.length = n) {s0 s1 : S} {ys : List β} (hm : lcS f xs s0 = some (ys, s1)) (hz : n ≤ sizeLine)
    {g : TG} {tt : TT} {te : TE} {vs : List Nat} {σ : St} {H1 : Hp} {D : Addr} {Qd : Hp → Prop} (P : List V → List β → S → Hp → Prop) (h0 : P [] [] s0 (upd H1 D (.lst []))) (hG : ∀ av acc s H, P av acc s H → G H)
    (turn : ∀ (i : Nat) x s r s' v av acc H H', xs[i]? = some x → f x s = some (r, s') → P av acc s H → av.length < sizeLine → Y i H v H' →
      ∀ N : Hp → Prop, (r = none → ∀ H3, P av acc s' H3 → N H3) → (∀ y u H4, r = some y → P (av ++ [u]) (acc ++ [y]) s' H4 → N H4) → g v (wipe σ vs) H' fun σ2 H2 => wipe σ2 vs = wipe σ vs ∧ tt σ2 H2 fun b H3 =>
      if b = true then te σ2 H3 fun y H4 => ∃ acc, H4 D = some (.lst acc) ∧ acc.length < sizeLine ∧ N (upd H4 D (.lst (acc ++ [y]))) else N H3)
    (done : ∀ av H, P av ys s1 H → Qd H) :
    ∃ W : Nat → Nat → Hp → Prop, (∃ m, W 0 m (upd H1 D (.lst []))) ∧ ∀ i m H, W i m H →
      (J.stop i H ∧ Qd H) ∨ (J.go i H ∧ ∃ Nx : Hp → Prop, (∀ H', Nx H' → ∃ m', m' < m ∧ W (i + 1) m' H') ∧ ∀ x H', J.yld i H x H' → g x (wipe σ vs) H' fun σ2 H2 => wipe σ2 vs = wipe σ vs ∧ tt σ2 H2 fun b H3 =>
        if b = true then te σ2 H3 fun y H4 => ∃ acc, H4 D = some (.lst acc) ∧ acc.length < sizeLine ∧ Nx (upd H4 D (.lst (acc ++ [y]))) else Nx H3) := by
  subst hn
  refine lc_it w (fun i H => ∃ s av acc q, av.length ≤ i ∧ lcS f (xs.drop i) s = some q ∧ acc ++ q.1 = ys ∧ q.2 = s1 ∧ P av acc s H) ⟨s0, [], [], _, Nat.le_refl _, by simpa using hm, rfl, rfl, h0⟩ (fun i H _ ⟨s, av, acc, _, _, _, _, _, p⟩ => hG av acc s H p) ?_ ?_
  · rintro i v H H' hi ⟨s, av, acc, q, hl, hq, ha, hs, p⟩ y
    rw [drop_at hi] at hq
    obtain ⟨⟨r, s'⟩, e1, e2⟩ := bindS hq
    obtain ⟨q', e3, e4⟩ := bindS e2
    have e5 := someI e4
    refine turn i xs[i] s r s' v av acc H H' (by simp [hi]) e1 p (by omega) y _ ?_ ?_
    · intro e H3 p'
      subst e
      have e6 : q' = q := e5
      subst e6
      exact ⟨s', av, acc, q', by omega, e3, ha, hs, p'⟩
    · intro y' u H4 e p'
      subst e
      have e6 : (y' :: q'.1, q'.2) = q := e5
      subst e6
      refine ⟨s', av ++ [u], acc ++ [y'], q', by simp; omega, e3, by simpa using ha, hs, p'⟩
  · rintro H ⟨s, av, acc, q, hl, hq, ha, hs, p⟩
    rw [List.drop_length] at hq
    cases someI hq
    simp only [List.append_nil] at ha
    subst ha; subst hs
    exact done av H p
theorem lcS_of_P {f : α → Option (Option β)} : ∀ {xs : List α} {ys : List β}, lcP f xs = some ys → lcS (fun x (_ : Unit) => (f x).bind fun r => some (r, ())) xs () = some (ys, ())
  | [], ys, h => by cases h; rfl
  | x :: xs, ys, h => by
    obtain ⟨r, e1, h⟩ := bindS h
    obtain ⟨q, e2, h⟩ := bindS h
    have ih := lcS_of_P e2
    simp only [lcS, e1, Option.bind_some]
    rw [ih]
    cases r with
    | none => cases h; rfl
    | some y => cases h; rfl
theorem lcP_of_map {f : α → Option β} : ∀ {xs : List α} {ys : List β}, mapP f xs = some ys → lcP (fun x => (f x).bind fun r => some (some r)) xs = some ys
  | [], ys, h => by cases h; rfl
  | x :: xs, ys, h => by
    obtain ⟨r, e1, h⟩ := bindS h
    obtain ⟨q, e2, h⟩ := bindS h
    have ih := lcP_of_map e2
    simp only [lcP, e1, Option.bind_some]
    rw [ih]
    cases h; rfl
/-- no state -/
theorem lc_wP (w : Walk J n G Y) {f : α → Option (Option β)} {xs : List α} (hn : xs.length = n) {ys : List β} (hm : lcP f xs = some ys) (hz : n ≤ sizeLine)
    {g : TG} {tt : TT} {te : TE} {vs : List Nat} {σ : St} {H1 : Hp} {D : Addr} {Qd : Hp → Prop} (P : List V → List β → Hp → Prop) (h0 : P [] [] (upd H1 D (.lst []))) (hG : ∀ av acc H, P av acc H → G H)
    (turn : ∀ (i : Nat) x r v av acc H H', xs[i]? = some x → f x = some r → P av acc H → av.length < sizeLine → Y i H v H' →
      ∀ N : Hp → Prop, (r = none → ∀ H3, P av acc H3 → N H3) → (∀ y u H4, r = some y → P (av ++ [u]) (acc ++ [y]) H4 → N H4) → g v (wipe σ vs) H' fun σ2 H2 => wipe σ2 vs = wipe σ vs ∧ tt σ2 H2 fun b H3 =>
      if b = true then te σ2 H3 fun y H4 => ∃ acc, H4 D = some (.lst acc) ∧ acc.length < sizeLine ∧ N (upd H4 D (.lst (acc ++ [y]))) else N H3)
    (done : ∀ av H, P av ys H → Qd H) :
    ∃ W : Nat → Nat → Hp → Prop, (∃ m, W 0 m (upd H1 D (.lst []))) ∧ ∀ i m H, W i m H →
      (J.stop i H ∧ Qd H) ∨ (J.go i H ∧ ∃ Nx : Hp → Prop, (∀ H', Nx H' → ∃ m', m' < m ∧ W (i + 1) m' H') ∧ ∀ x H', J.yld i H x H' → g x (wipe σ vs) H' fun σ2 H2 => wipe σ2 vs = wipe σ vs ∧ tt σ2 H2 fun b H3 =>
        if b = true then te σ2 H3 fun y H4 => ∃ acc, H4 D = some (.lst acc) ∧ acc.length < sizeLine ∧ Nx (upd H4 D (.lst (acc ++ [y]))) else Nx H3) :=
  lc_w w hn (lcS_of_P hm) hz (fun av acc _ H => P av acc H) h0 (fun av acc _ H p => hG av acc H p) (fun i x _ r _ v av acc H H' h1 h2 h3 h4 h5 N k1 k2 => by
    obtain ⟨r', e1, e2⟩ := bindS h2
    have e3 : r' = r := congrArg Prod.fst (someI e2)
    subst e3
    exact turn i x r' v av acc H H' h1 e1 h3 h4 h5 N k1 k2) done
theorem lc_wM (w : Walk J n G Y) {f : α → Option β} {xs : List α} (hn : xs.length = n) {ys : List β} (hm : mapP f xs = some ys) (hz : n ≤ sizeLine)
    {g : TG} {tt : TT} {te : TE} {vs : List Nat} {σ : St} {H1 : Hp} {D : Addr} {Qd : Hp → Prop} (P : List V → List β → Hp → Prop) (h0 : P [] [] (upd H1 D (.lst []))) (hG : ∀ av acc H, P av acc H → G H)
    (turn : ∀ (i : Nat) x y v av acc H H', xs[i]? = some x → f x = some y → P av acc H → av.length < sizeLine → Y i H v H' →
      ∀ N : Hp → Prop, (∀ u H4, P (av ++ [u]) (acc ++ [y]) H4 → N H4) → g v (wipe σ vs) H' fun σ2 H2 => wipe σ2 vs = wipe σ vs ∧ tt σ2 H2 fun b H3 =>
      if b = true then te σ2 H3 fun y H4 => ∃ acc, H4 D = some (.lst acc) ∧ acc.length < sizeLine ∧ N (upd H4 D (.lst (acc ++ [y]))) else N H3)
    (done : ∀ av H, P av ys H → Qd H) :
    ∃ W : Nat → Nat → Hp → Prop, (∃ m, W 0 m (upd H1 D (.lst []))) ∧ ∀ i m H, W i m H →
      (J.stop i H ∧ Qd H) ∨ (J.go i H ∧ ∃ Nx : Hp → Prop, (∀ H', Nx H' → ∃ m', m' < m ∧ W (i + 1) m' H') ∧ ∀ x H', J.yld i H x H' → g x (wipe σ vs) H' fun σ2 H2 => wipe σ2 vs = wipe σ vs ∧ tt σ2 H2 fun b H3 =>
        if b = true then te σ2 H3 fun y H4 => ∃ acc, H4 D = some (.lst acc) ∧ acc.length < sizeLine ∧ Nx (upd H4 D (.lst (acc ++ [y]))) else Nx H3) :=
  lc_wP w hn (lcP_of_map hm) hz P h0 hG (fun i x r v av acc H H' h1 h2 h3 h4 h5 N k1 k2 => by
    obtain ⟨y, e1, e2⟩ := bindS h2
    have e3 : some y = r := someI e2
    subst e3
    exact turn i x y v av acc H H' h1 e1 h3 h4 h5 N (fun u H4 p => k2 y u H4 rfl p)) done
theorem lc_nm {K : St → Hp → Prop} {σ τ : St} {vs : List Nat} {i : Nat} {v : V} {H' : Hp} (e1 : (wipe σ vs).set i (some v) = τ) (e2 : wipe τ vs = wipe σ vs) (h : K τ H') :
    gName i v (wipe σ vs) H' fun σ2 H2 => wipe σ2 vs = wipe σ vs ∧ K σ2 H2 := by
  subst e1
  exact ⟨e2, h⟩
/-- while -/
theorem while_w {c : S → Option Bool} {f : S → Option (Ctl ρ S)} {fuel : Nat} {s0 : S} {res : Ctl ρ S} (hm : whileM c f fuel s0 = some res)
    {tc : TT} {tb : TS} {D : Ends} {rest : TS} {σ : St} {H : Hp} (P : S → St → Hp → Prop) (h0 : P s0 σ H)
    (test : ∀ s b σ H, c s = some b → P s σ H → ∀ Q : Bool → Hp → Prop, (∀ H1, P s σ H1 → Q b H1) → tc σ H Q)
    (body : ∀ s cc σ H, c s = some true → f s = some cc → (∀ s', cc = .bk s' → res = .nx s') → (∀ r, cc = .rt r → res = .rt r) → P s σ H →
      ∀ N : St → Hp → Prop, (∀ s' σ' H', cc = .nx s' → P s' σ' H' → N σ' H') → tb { D with nx := N, ct := N, bk := rest D } σ H)
    (done : ∀ s' σ H, res = .nx s' → P s' σ H → rest D σ H) : tSeq (tWhile tc tb) rest D σ H := by
  refine ⟨fun m σ H => ∃ s, whileM c f m s = some res ∧ P s σ H, ⟨fuel, s0, hm, h0⟩, ?_⟩
  rintro m σ H ⟨s, hl, p⟩
  cases m with
  | zero => cases hl
  | succ m =>
    obtain ⟨b, e1, e2⟩ := bindS hl
    refine test s b σ H e1 p _ fun H1 p1 => ?_
    cases b with
    | false =>
      rw [if_neg Bool.false_ne_true]
      rw [if_neg Bool.false_ne_true] at e2
      exact done s σ H1 (someI e2).symm p1
    | true =>
      rw [if_pos rfl]
      rw [if_pos rfl] at e2
      obtain ⟨cc, ec, e3⟩ := bindS e2
      refine ⟨fun σ' H' => ∃ s', cc = .nx s' ∧ P s' σ' H', fun σ' H' ⟨s', hs, p'⟩ => ⟨m, Nat.lt_succ_self _, s', ?_, p'⟩, body s cc σ H1 e1 ec ?_ ?_ p1 _ fun s' σ' H' e p' => ⟨s', e, p'⟩⟩
      · subst hs; exact e3
      · intro s' e; subst e; exact (someI e3).symm
      · intro r e; subst e; exact (someI e3).symm
/-- a while without break and return -/
def whileF {σ : Type} (c : σ → Option Bool) (f : σ → Option σ) : Nat → σ → Option σ
  | 0, _ => none
  | n + 1, s => (c s).bind fun b => if b = true then (f s).bind (whileF c f n) else some s
theorem while_f {c : S → Option Bool} {f : S → Option S} {fuel : Nat} {s0 res : S} (hm : whileF c f fuel s0 = some res)
    {tc : TT} {tb : TS} {D : Ends} {rest : TS} {σ : St} {H : Hp} (P : S → St → Hp → Prop) (h0 : P s0 σ H)
    (test : ∀ s b σ H, c s = some b → P s σ H → ∀ Q : Bool → Hp → Prop, (∀ H1, P s σ H1 → Q b H1) → tc σ H Q)
    (body : ∀ s s' σ H, c s = some true → f s = some s' → P s σ H →
      ∀ N : St → Hp → Prop, (∀ σ' H', P s' σ' H' → N σ' H') → tb { D with nx := N, ct := N, bk := rest D } σ H)
    (done : ∀ σ H, P res σ H → rest D σ H) : tSeq (tWhile tc tb) rest D σ H := by
  refine ⟨fun m σ H => ∃ s, whileF c f m s = some res ∧ P s σ H, ⟨fuel, s0, hm, h0⟩, ?_⟩
  rintro m σ H ⟨s, hl, p⟩
  cases m with
  | zero => cases hl
  | succ m =>
    obtain ⟨b, e1, e2⟩ := bindS hl
    refine test s b σ H e1 p _ fun H1 p1 => ?_
    cases b with
    | false =>
      rw [if_neg Bool.false_ne_true]
      rw [if_neg Bool.false_ne_true] at e2
      cases someI e2
      exact done σ H1 p1
    | true =>
      rw [if_pos rfl]
      rw [if_pos rfl] at e2
      obtain ⟨s', ec, e3⟩ := bindS e2
      exact ⟨fun σ' H' => P s' σ' H', fun σ' H' p' => ⟨m, Nat.lt_succ_self _, s', e3, p'⟩, body s s' σ H1 e1 ec p1 _ fun σ' H' p' => p'⟩
end
end MK

namespace MK
open PySem PySem.Spec L2

/-! ### mirrors of operations -/
def fdivM (i j : Int) : Option Int := if decide (0 < j ∧ j < 1073741824) = true then some (i / j) else none
def modM (i j : Int) : Option Int := if decide (0 < j) = true then some (i % j) else none
def mulM (i j : Int) : Option Int := if decide (i.natAbs.log2 + j.natAbs.log2 < 1000000) = true then some (i * j) else none
def powM (i j : Int) : Option Int := if decide (0 ≤ j ∧ (Builtin.Int.intBits i : Int) * j ≤ 2 ^ 27) = true then some (i ^ j.toNat) else none
def shlM (i j : Int) : Option Int := if decide (0 ≤ j ∧ j ≤ 1000000 ∧ i.natAbs < 2 ^ 64) = true then some (i * 2 ^ j.toNat) else none
def shrM (i j : Int) : Option Int := if decide (0 ≤ j) = true then some (i / 2 ^ j.toNat) else none
def catM (a b : List Nat) : Option (List Nat) := if decide (a.length + b.length ≤ sizeLine) = true then some (a ++ b) else none
def repM (l : List Nat) (n : Int) : Option (List Nat) := if decide (-(2 ^ 63) ≤ n ∧ n < 2 ^ 63 ∧ l.length * n.toNat ≤ sizeLine) = true then some (List.replicate n.toNat l).flatten else none
def cutL {α : Type} (xs : List α) (lo hi : Option Int) : List α := (xs.drop (HT.sIx xs.length 0 lo)).take (HT.sIx xs.length xs.length hi - HT.sIx xs.length 0 lo)
def idxM {α : Type} (xs : List α) (i : Int) : Option α := L2.atI xs i
def sidxM (l : List Nat) (i : Int) : Option (List Nat) := (L2.atI l i).bind fun c => some [c]
def setM {α : Type} (xs : List α) (i : Int) (x : α) : Option (List α) := (L2.ixN xs.length i).bind fun j => some (xs.set j x)
def appM {α : Type} (xs : List α) (y : α) : Option (List α) := if decide (xs.length < sizeLine) = true then some (xs ++ [y]) else none
def catLM {α : Type} (xs ys : List α) : Option (List α) := if decide (xs.length + ys.length ≤ sizeLine) = true then some (xs ++ ys) else none
def repLM {α : Type} (xs : List α) (n : Int) : Option (List α) := if decide (-(2 ^ 63) ≤ n ∧ n < 2 ^ 63 ∧ xs.length * n.toNat ≤ sizeLine) = true then some (List.replicate n.toNat xs).flatten else none
def rangeL (lo : Int) (n : Nat) : List Int := (List.range n).map fun i => lo + (i : Nat)
def rngM (lo hi : Int) : Option (List Int) := if decide (-(2 ^ 62) ≤ lo ∧ lo < 2 ^ 62 ∧ -(2 ^ 62) ≤ hi ∧ hi < 2 ^ 62 ∧ hi - lo ≤ sizeLine) = true then some (rangeL lo (hi - lo).toNat) else none
def joinM (s : List Nat) (ys : List (List Nat)) : Option (List Nat) := if decide ((ys.map List.length).sum + ys.length * s.length ≤ 16777216) = true then some (TL.joinL s ys) else none
theorem guardS {α : Type} {c : Prop} [Decidable c] {a r : α} (h : (if decide c = true then some a else none) = some r) : c ∧ a = r := by
  by_cases hc : c
  · rw [if_pos (decide_eq_true hc)] at h
    exact ⟨hc, someI h⟩
  · rw [if_neg (by simpa using hc)] at h
    cases h
theorem sizeLine_16 : sizeLine = 16777216 := by decide
theorem rangeL_len (lo : Int) (n : Nat) : (rangeL lo n).length = n := by simp [rangeL]
theorem rangeL_at {lo : Int} {n i : Nat} {x : Int} (h : (rangeL lo n)[i]? = some x) : x = lo + (i : Nat) ∧ i < n := by
  unfold rangeL at h
  rw [List.getElem?_map] at h
  by_cases hi : i < n
  · rw [List.getElem?_range hi] at h
    exact ⟨(someI h).symm, hi⟩
  · rw [List.getElem?_eq_none (by simp; omega)] at h
    cases h
/-! texts stay good -/
theorem OkS.nil : OkS [] := ⟨by simp, by simp⟩
theorem OkS.lit {l : List Nat} (h : (decide (l.length ≤ 16777216) && l.all (· < 0x110000)) = true) : OkS l := by
  simp only [Bool.and_eq_true, decide_eq_true_eq, List.all_eq_true] at h
  exact ⟨by rw [sizeLine_16]; exact h.1, fun c hc => h.2 c hc⟩
theorem OkS.cut {l : List Nat} (h : OkS l) (lo hi : Option Int) : OkS (cutL l lo hi) := ⟨by
  refine Nat.le_trans ?_ h.len
  unfold cutL
  rw [List.length_take, List.length_drop]; omega, fun c hc => h.cps c (List.mem_of_mem_drop (List.mem_of_mem_take hc))⟩
theorem OkS.cat {a b r : List Nat} (h : OkS a) (h2 : OkS b) (e : catM a b = some r) : OkS r := by
  obtain ⟨c, rfl⟩ := guardS e
  exact ⟨by rw [List.length_append]; exact c, fun x hx => (List.mem_append.mp hx).elim (h.cps x) (h2.cps x)⟩
theorem OkS.rep {a r : List Nat} {n : Int} (h : OkS a) (e : repM a n = some r) : OkS r := by
  obtain ⟨c, rfl⟩ := guardS e
  refine ⟨?_, fun x hx => ?_⟩
  · rw [List.length_flatten, List.map_replicate, List.sum_replicate_nat, Nat.mul_comm]; exact c.2.2
  · obtain ⟨l, hl, hx⟩ := List.mem_flatten.mp hx
    rw [(List.mem_replicate.mp hl).2] at hx
    exact h.cps x hx
theorem OkS.one {a : List Nat} (h : OkS a) {c : Nat} (hc : c ∈ a) : OkS [c] := ⟨by rw [sizeLine_16]; simp, fun x hx => by rw [List.mem_singleton.mp hx]; exact h.cps c hc⟩
theorem atI_mem {α : Type} {xs : List α} {i : Int} {x : α} (h : L2.atI xs i = some x) : x ∈ xs := by
  unfold L2.atI at h
  cases e : L2.ixN xs.length i with
  | none => rw [e] at h; cases h
  | some j => rw [e] at h; exact List.mem_of_getElem? h
theorem OkS.idx {a r : List Nat} {i : Int} (h : OkS a) (e : sidxM a i = some r) : OkS r := by
  obtain ⟨c, e1, e2⟩ := bindS e
  cases someI e2
  exact h.one (atI_mem e1)
theorem OkS.rev {a : List Nat} (h : OkS a) : OkS a.reverse := ⟨by rw [List.length_reverse]; exact h.len, fun x hx => h.cps x (List.mem_reverse.mp hx)⟩
theorem joinL_len (s : List Nat) : ∀ ys : List (List Nat), (TL.joinL s ys).length ≤ (ys.map List.length).sum + ys.length * s.length
  | [] => by simp [TL.joinL]
  | [p] => by simp [TL.joinL]
  | p :: q :: r => by
    have ih := joinL_len s (q :: r)
    simp only [TL.joinL, List.length_append, List.map_cons, List.sum_cons, List.length_cons] at ih ⊢
    have e : (r.length + 1 + 1) * s.length = (r.length + 1) * s.length + s.length := by rw [Nat.succ_mul]
    omega
theorem joinL_mem {s : List Nat} {x : Nat} : ∀ {ys : List (List Nat)}, x ∈ TL.joinL s ys → x ∈ s ∨ ∃ y ∈ ys, x ∈ y
  | [], h => by simp [TL.joinL] at h
  | [p], h => .inr ⟨p, by simp, by simpa [TL.joinL] using h⟩
  | p :: q :: r, h => by
    simp only [TL.joinL, List.mem_append] at h
    rcases h with h | h | h
    · exact .inr ⟨p, by simp, h⟩
    · exact .inl h
    · rcases joinL_mem h with h | ⟨y, hy, hx⟩
      · exact .inl h
      · exact .inr ⟨y, List.mem_cons_of_mem _ hy, hx⟩
theorem OkS.join {s r : List Nat} {ys : List (List Nat)} (h : OkS s) (hy : ∀ y ∈ ys, OkS y) (e : joinM s ys = some r) : OkS r := by
  obtain ⟨c, rfl⟩ := guardS e
  refine ⟨by rw [sizeLine_16]; exact Nat.le_trans (joinL_len s ys) c, fun x hx => ?_⟩
  rcases joinL_mem hx with hx | ⟨y, h1, h2⟩
  · exact h.cps x hx
  · exact (hy y h1).cps x h2
theorem cutS_L (l : List Nat) (lo hi : Option Int) : cutS (sS l) lo hi = sS (cutL l lo hi) := by
  unfold cutS cutL
  rw [sS_list, sS_len]
  rfl
theorem app_L (a b : List Nat) : sS a ++ sS b = sS (a ++ b) := by
  show (⟨(sS a).cps ++ (sS b).cps⟩ : Str) = _
  simp [sS]
theorem join_L (s : List Nat) (ys : List (List Nat)) : Txt.join (sS s) (ys.map sS) = sS (TL.joinL s ys) := by
  rw [TL.join_eq]
  have h := TL.tl_join (sS s) (ys.map sS)
  have e : (ys.map sS).map TL.tl = ys := by
    rw [List.map_map]
    have h2 : ys.map (TL.tl ∘ sS) = ys.map id := List.map_congr_left fun x _ => sS_list x
    rw [h2, List.map_id]
  rw [e] at h
  have e2 : TL.tl (sS s) = s := sS_list s
  rw [e2] at h
  have e3 : (Str.join (sS s) (ys.map sS)) = sS (TL.tl (Str.join (sS s) (ys.map sS))) := by
    show _ = (⟨(Str.join (sS s) (ys.map sS)).cps.toList.toArray⟩ : Str)
    rw [Array.toArray_toList]
  rw [e3, h]

section
variable {X : Cx} {σ : St} {H : Hp} {K : PySem.W.Frag}
/-! ### rules the kit lacks -/
def CPowX (i j : Int) : Prop := 0 ≤ j ∧ (Builtin.Int.intBits i : Int) * j ≤ 2 ^ 27
theorem op_powX : OpR X (binaryOp .Pow) (rI CPowX fun i j => .int (i ^ j.toNat)) := opI fun _ _ _ _ _ _ _ hc q => PyProof.Rows.pow_int hc.1 hc.2 q
theorem foldl_rep (x : Array Nat) : ∀ (n : Nat) (acc : Array Nat), (List.replicate n x).foldl (· ++ ·) acc = (acc.toList ++ (List.replicate n x.toList).flatten).toArray
  | 0, acc => by simp
  | n + 1, acc => by
    rw [List.replicate_succ, List.foldl_cons, foldl_rep x n (acc ++ x)]
    simp [List.replicate_succ]
/-- text * int -/
def rRepS : R2 := fun x y H Q => ∃ l n, x = vS l ∧ y = .int n ∧ -(2 ^ 63) ≤ n ∧ n < 2 ^ 63 ∧ l.length ≤ sizeLine ∧ l.length * n.toNat ≤ sizeLine ∧ Q (vS (List.replicate n.toNat l).flatten) H
theorem op_repS : OpR X (binaryOp .Mult) rRepS := by
  intro pins s σ H x y v u Q I rx ry h
  obtain ⟨l, n, rfl, rfl, h1, h2, h3, h4, q⟩ := h
  obtain ⟨t, rfl⟩ := rx
  obtain ⟨t', rfl⟩ := ry
  refine P.mul_str ?_ (fun hn _ => ?_) (fun hn _ => ?_) ?_
  · rw [decide_eq_false (by omega), decide_eq_false (by omega)]; rfl
  · rw [sS_len]
    have hn' : 0 < n := by omega
    rw [show ((l.length : Int) > (2 ^ 63 - 1) / n ↔ (2 ^ 63 - 1) / n < (l.length : Int)) from Iff.rfl, Int.ediv_lt_iff_lt_mul hn']
    have e : ((l.length * n.toNat : Nat) : Int) = (l.length : Int) * n := by rw [Int.natCast_mul, Int.toNat_of_nonneg (by omega)]
    have : ((l.length * n.toNat : Nat) : Int) ≤ (sizeLine : Int) := by exact_mod_cast h4
    rw [e, sizeLine_16] at this
    omega
  · rw [sS_len]
    unfold PySem.Builtin.Str.tooLong
    exact decide_eq_false (Nat.not_lt.mpr h4)
  · by_cases c1 : n < 1
    · rw [if_pos c1]
      have e : n.toNat = 0 := by omega
      rw [e] at q
      exact ⟨by decide, V.str _, H, I.tok _, ⟨_, rfl⟩, q⟩
    · rw [if_neg c1]
      by_cases c2 : (n == 1 || (sS l).length == 0) = true
      · rw [if_pos c2]
        refine ⟨V.str (sS l), H, I, ⟨t, rfl⟩, ?_⟩
        have e : (List.replicate n.toNat l).flatten = l := by
          rcases Bool.or_eq_true_iff.mp c2 with c | c
          · have : n = 1 := by simpa using c
            subst this; simp
          · have : l = [] := by
              have : l.length = 0 := by rw [← sS_len]; simpa using c
              exact List.length_eq_zero_iff.mp this
            subst this; simp
        rw [e] at q
        exact q
      · rw [if_neg c2]
        have e : (⟨(List.replicate n.toNat (sS l).cps).foldl (· ++ ·) #[]⟩ : Str) = sS (List.replicate n.toNat l).flatten := by
          rw [foldl_rep]
          simp [sS]
        rw [e]
        refine ⟨?_, V.str _, H, I.tok _, ⟨_, rfl⟩, q⟩
        rw [sS_len, List.length_flatten, List.map_replicate, List.sum_replicate_nat, Nat.mul_comm]
        exact h4
end
end MK

namespace MK
open PySem PySem.Spec L2
section
variable {X : Cx} {σ : St} {H G G' H' : Hp} {K : PySem.W.Frag} {te tf tg : TE} {tl th : TO} {v w x y z : V} {α β γ δ : Type} {R : Rep α} {S : Rep β} {T : Rep γ} {U : Rep δ}
theorem pe_globI {n : Str} {i : Int} {pos : Pos} (hm : ∃ t, X.mg n = some (.int i t)) (hg : Gl X n := by rfl) (hd : (n == ("__debug__" : Str)) = false := by decide) : PE X (.Name n pos) (tC (.int i)) := by
  obtain ⟨t, h⟩ := hm
  exact pe_glob hg h ⟨t, rfl⟩ hd
theorem pe_globS {n x : Str} {pos : Pos} (hm : ∃ t, X.mg n = some (.str x t)) (hg : Gl X n := by rfl) (hd : (n == ("__debug__" : Str)) = false := by decide) : PE X (.Name n pos) (tC (.str x)) := by
  obtain ⟨t, h⟩ := hm
  exact pe_glob hg h ⟨t, rfl⟩ hd
theorem ev_str {s : Str} {l : List Nat} (h : s = sS l) : EV (tC (.str s)) σ H (vS l) := fun Q q => by rw [h]; exact q
theorem castI {a b : Int} (e : some a = some b) (h : EV te σ H (.int a)) : EV te σ H (.int b) := by cases e; exact h
theorem castB {a b : Bool} (e : some a = some b) (h : EV te σ H (.bl a)) : EV te σ H (.bl b) := by cases e; exact h
theorem castS {a b : List Nat} (e : some a = some b) (h : EV te σ H (vS a)) : EV te σ H (vS b) := by cases e; exact h
theorem castOk {a b : List Nat} (e : some a = some b) (h : OkS a) : OkS b := by cases e; exact h
theorem castET {tt : TT} {a b : Bool} (e : some a = some b) (h : ET tt σ H a) : ET tt σ H b := by cases e; exact h
theorem et_andM {tt tu : TT} {a b : Bool} {m : Option Bool} (h : ET tt σ H a) (e : (if a = true then m else some false) = some b) (h2 : a = true → m = some b → ET tu σ H b) : ET (tAnd tt tu) σ H b := fun Q q => h _ (by
  cases a with
  | true => exact h2 rfl (by simpa using e) Q q
  | false => rw [if_neg Bool.false_ne_true] at e ⊢; cases someI e; exact q)
theorem et_orM {tt tu : TT} {a b : Bool} {m : Option Bool} (h : ET tt σ H a) (e : (if a = true then some true else m) = some b) (h2 : a = false → m = some b → ET tu σ H b) : ET (tOr tt tu) σ H b := fun Q q => h _ (by
  cases a with
  | true => rw [if_pos rfl] at e ⊢; cases someI e; exact q
  | false => exact h2 rfl (by simpa using e) Q q)
theorem ev_andM {a b : Bool} {m : Option Bool} (h : EV te σ H (.bl a)) (e : (if a = true then m else some false) = some b) (h2 : a = true → m = some b → EV tf σ H (.bl b)) : EV (tAndV te tf) σ H (.bl b) := fun Q q => h _ ⟨a, rfl, by
  cases a with
  | true => exact h2 rfl (by simpa using e) Q q
  | false => rw [if_neg Bool.false_ne_true] at e ⊢; cases someI e; exact q⟩
theorem ev_orM {a b : Bool} {m : Option Bool} (h : EV te σ H (.bl a)) (e : (if a = true then some true else m) = some b) (h2 : a = false → m = some b → EV tf σ H (.bl b)) : EV (tOrV te tf) σ H (.bl b) := fun Q q => h _ ⟨a, rfl, by
  cases a with
  | true => rw [if_pos rfl] at e ⊢; cases someI e; exact q
  | false => exact h2 rfl (by simpa using e) Q q⟩
/-- a if c else b, of values -/
theorem ev_ifI {tt : TT} {c : Bool} {a b : Int} (h : ET tt σ H c) (h1 : c = true → EV te σ H (.int a)) (h2 : c = false → EV tf σ H (.int b)) : EV (tIf tt te tf) σ H (.int (if c = true then a else b)) := ev_if h (fun e => by rw [if_pos e]; exact h1 e) (fun e => by rw [e, if_neg Bool.false_ne_true]; exact h2 e)
theorem ev_ifM {tt : TT} {c : Bool} {m n : Option α} {r : α} {v : V} (h : ET tt σ H c) (e : (if c = true then m else n) = some r) (h1 : c = true → m = some r → EV te σ H v) (h2 : c = false → n = some r → EV tf σ H v) : EV (tIf tt te tf) σ H v := ev_if h (fun q => h1 q (iteT' e q)) (fun q => h2 q (iteF' e q))
/-- a < b < c -/
theorem ev_chain {r r' : R2} {b c : Bool} (h1 : EV te σ H x) (h2 : EV tf σ H y) (k1 : ∀ Q : VK, Q (.bl b) H → r x y H Q) (h3 : EV tg σ H z) (k2 : ∀ Q : VK, Q (.bl c) H → r' y z H Q) : EV (tChain r r' te tf tg) σ H (.bl (b && c)) := fun Q q => h1 _ (h2 _ (k1 _ ⟨b, rfl, by
  cases b with
  | true => exact h3 _ (k2 _ q)
  | false => exact q⟩))
theorem ev_sl {r : V → Option Int → Option Int → Hp → VK → Prop} {lo hi : Option Int} (h1 : EV te σ H x) (h2 : EO tl σ H lo) (h3 : EO th σ H hi) (k : ∀ Q : VK, Q z H → r x lo hi H Q) : EV (tSl r te tl th) σ H z := fun Q q => h1 _ (h2 _ (h3 _ (k Q q)))
theorem cps_sl {r : V → Option Int → Option Int → Hp → VK → Prop} {Q : VK} (h : te σ H fun x H1 => tl σ H1 fun l H2 => th σ H2 fun u H3 => r x l u H3 Q) : tSl r te tl th σ H Q := h
theorem cps_part {Q : Option Int → Hp → Prop} (h : te σ H fun x H1 => ∃ i, x = .int i ∧ Q (some i) H1) : tPart te σ H Q := h
theorem cps_nopart {Q : Option Int → Hp → Prop} (h : Q none H) : tNoPart σ H Q := h
/-! numbers with a check -/
theorem k_fdiv {i j r : Int} (h : fdivM i j = some r) : ∀ Q : VK, Q (.int r) H → rI CDiv (fun i j => .int (i / j)) (.int i) (.int j) H Q := by
  obtain ⟨c, rfl⟩ := guardS h
  exact fun Q q => ⟨i, j, rfl, rfl, c, q⟩
theorem k_mod {i j r : Int} (h : modM i j = some r) : ∀ Q : VK, Q (.int r) H → rI (fun _ j => 0 < j) (fun i j => .int (i % j)) (.int i) (.int j) H Q := by
  obtain ⟨c, rfl⟩ := guardS h
  exact fun Q q => ⟨i, j, rfl, rfl, c, q⟩
theorem k_mul {i j r : Int} (h : mulM i j = some r) : ∀ Q : VK, Q (.int r) H → rI CMulW (fun i j => .int (i * j)) (.int i) (.int j) H Q := by
  obtain ⟨c, rfl⟩ := guardS h
  exact fun Q q => ⟨i, j, rfl, rfl, c, q⟩
theorem k_pow {i j r : Int} (h : powM i j = some r) : ∀ Q : VK, Q (.int r) H → rI CPowX (fun i j => .int (i ^ j.toNat)) (.int i) (.int j) H Q := by
  obtain ⟨c, rfl⟩ := guardS h
  exact fun Q q => ⟨i, j, rfl, rfl, c, q⟩
theorem k_shl {i j r : Int} (h : shlM i j = some r) : ∀ Q : VK, Q (.int r) H → rI CPow (fun i j => .int (i * 2 ^ j.toNat)) (.int i) (.int j) H Q := by
  obtain ⟨c, rfl⟩ := guardS h
  exact fun Q q => ⟨i, j, rfl, rfl, c, q⟩
theorem k_shr {i j r : Int} (h : shrM i j = some r) : ∀ Q : VK, Q (.int r) H → rI (fun _ j => 0 ≤ j) (fun i j => .int (i / 2 ^ j.toNat)) (.int i) (.int j) H Q := by
  obtain ⟨c, rfl⟩ := guardS h
  exact fun Q q => ⟨i, j, rfl, rfl, c, q⟩
/-! texts -/
theorem k_cat {a b r : List Nat} (h : catM a b = some r) : ∀ Q : VK, Q (vS r) H → (∃ i j, vS a = .str i ∧ vS b = .str j ∧ i.length + j.length ≤ sizeLine ∧ Q (.str (i ++ j)) H) := by
  obtain ⟨c, rfl⟩ := guardS h
  exact fun Q q => ⟨sS a, sS b, rfl, rfl, by rw [sS_len, sS_len]; exact c, by rw [app_L]; exact q⟩
theorem k_rep {a r : List Nat} {n : Int} (ha : OkS a) (h : repM a n = some r) : ∀ Q : VK, Q (vS r) H → rRepS (vS a) (.int n) H Q := by
  obtain ⟨c, rfl⟩ := guardS h
  exact fun Q q => ⟨a, n, rfl, rfl, c.1, c.2.1, ha.len, c.2.2, q⟩
theorem k_cutS {l : List Nat} {lo hi : Option Int} (h : OkS l) : ∀ Q : VK, Q (vS (cutL l lo hi)) H → rSlS (vS l) lo hi H Q := fun Q q => ⟨sS l, rfl, by rw [sS_len]; exact h.len, by rw [cutS_L]; exact q⟩
theorem k_idxS {l r : List Nat} {i : Int} (h : OkS l) (e : sidxM l i = some r) : ∀ Q : VK, Q (vS r) H → rIxS (vS l) (.int i) H Q := by
  obtain ⟨c, e1, e2⟩ := bindS e
  cases someI e2
  exact fun Q q => ⟨sS l, i, c, rfl, rfl, by rw [sS_len]; exact h.len, by rw [sS_list]; exact e1, q⟩
theorem k_lenS {l : List Nat} (h : OkS l) : ∀ Q : VK, Q (.int (l.length : Int)) H → (∃ z, [vS l] = [V.str z] ∧ z.length ≤ sizeLine ∧ Q (.int z.length) H) := fun Q q => ⟨sS l, rfl, by rw [sS_len]; exact h.len, by rw [sS_len]; exact q⟩
theorem k_ltS (a b : List Nat) : ∀ Q : VK, Q (.bl (decide (a < b))) H → (∃ i j, vS a = .str i ∧ vS b = .str j ∧ Q (.bl (decide (i.cps.toList < j.cps.toList))) H) := fun Q q => ⟨sS a, sS b, rfl, rfl, by rw [sS_list, sS_list]; exact q⟩
theorem k_leS (a b : List Nat) : ∀ Q : VK, Q (.bl (!decide (b < a))) H → (∃ i j, vS a = .str i ∧ vS b = .str j ∧ Q (.bl (!decide (j.cps.toList < i.cps.toList))) H) := fun Q q => ⟨sS a, sS b, rfl, rfl, by rw [sS_list, sS_list]; exact q⟩
theorem k_join {s r : List Nat} {ys : List (List Nat)} (h : pL pS ys v H) (e : joinM s ys = some r) : ∀ Q : VK, Q (vS r) H → (∃ a p, ∃ ys : List Str, vS s = .str a ∧ [v] = [.ref p] ∧ (SqL K H p (ys.map V.str) ∨ SqT K H p (ys.map V.str)) ∧ (ys.map (·.length)).sum + ys.length * a.length ≤ 16777216 ∧ Q (.str (Txt.join a ys)) H) := by
  obtain ⟨c, rfl⟩ := guardS e
  obtain ⟨p, vs, rfl, hp, ha, _⟩ := h
  obtain ⟨rfl, _⟩ := ha.str
  refine fun Q q => ⟨sS s, p, ys.map sS, rfl, rfl, .inl (SqL.of (by rw [← vS_map]; exact hp)), ?_, by rw [join_L]; exact q⟩
  rw [List.map_map, List.length_map, sS_len]
  have e2 : ys.map ((fun x : Str => x.length) ∘ sS) = ys.map List.length := List.map_congr_left fun x _ => sS_len x
  rw [e2]
  exact c
theorem ok_join {s r : List Nat} {ys : List (List Nat)} (hs : OkS s) (h : pL pS ys v H) (e : joinM s ys = some r) : OkS r := by
  obtain ⟨p, vs, rfl, hp, ha, _⟩ := h
  exact hs.join ha.str.2 e
/-! lists -/
theorem k_lenL {xs : List α} (h : pL R xs v H) : ∀ Q : VK, Q (.int (xs.length : Int)) H → (∃ p ys, [v] = [.ref p] ∧ (SqL K H p ys ∨ SqT K H p ys) ∧ Q (.int ys.length) H) := by
  obtain ⟨a, vs, rfl, ha, hx, _⟩ := h
  exact fun Q q => ⟨a, vs, rfl, .inl (SqL.of ha), by rw [← hx.len]; exact q⟩
theorem k_lenScr {ns : List Int} (h : pScr K ns v H) : ∀ Q : VK, Q (.int (ns.length : Int)) H → (∃ p ys, [v] = [.ref p] ∧ (SqL K H p ys ∨ SqT K H p ys) ∧ Q (.int ys.length) H) := by
  obtain ⟨a, rfl, ha⟩ := h
  exact fun Q q => ⟨a, _, rfl, .inl ha, by rw [List.length_map]; exact q⟩
theorem atI_some {α : Type} {xs : List α} {i : Int} {x : α} (h : L2.atI xs i = some x) : ∃ j, L2.ixN xs.length i = some j ∧ xs[j]? = some x := bindS h
theorem All2.atI {xs : List α} {vs : List V} {i : Int} {x : α} (h : All2 R H xs vs) (e : L2.atI xs i = some x) : ∃ w, L2.atI vs i = some w ∧ R x w H := by
  obtain ⟨j, h1, h2⟩ := atI_some e
  obtain ⟨w, h3, h4⟩ := h.get h2
  exact ⟨w, by unfold L2.atI; rw [← h.len, h1]; exact h3, h4⟩
theorem k_idxL {xs : List α} {i : Int} {x : α} (h : pL R xs v H) (e : idxM xs i = some x) : ∃ w, R x w H ∧ ∀ Q : VK, Q w H → rIxL K v (.int i) H Q := by
  obtain ⟨a, vs, rfl, ha, hx, _⟩ := h
  obtain ⟨w, h1, h2⟩ := hx.atI e
  exact ⟨w, h2, fun Q q => ⟨a, vs, i, w, rfl, rfl, SqL.of ha, h1, q⟩⟩
theorem k_idxScr {ns : List Int} {i : Int} {x : Int} (h : pScr K ns v H) (e : idxM ns i = some x) : ∀ Q : VK, Q (.int x) H → rIxL K v (.int i) H Q := by
  obtain ⟨a, rfl, ha⟩ := h
  obtain ⟨j, h1, h2⟩ := atI_some e
  exact fun Q q => ⟨a, _, i, _, rfl, rfl, ha, by unfold L2.atI; rw [List.length_map, h1]; show (ns.map V.int)[j]? = _; rw [List.getElem?_map, h2]; rfl, q⟩
/-- a place of a tuple whose items are of one kind -/
theorem k_idxT {xs : List α} {vs : List V} {a : Addr} {i : Int} {x : α} (ha : H a = some (.tup vs)) (h : All2 R H xs vs) (e : idxM xs i = some x) : ∃ w, R x w H ∧ ∀ Q : VK, Q w H → rIxT K (.ref a) (.int i) H Q := by
  obtain ⟨w, h1, h2⟩ := h.atI e
  exact ⟨w, h2, fun Q q => ⟨a, vs, i, w, rfl, rfl, SqT.of ha, h1, q⟩⟩
theorem k_idxLl {xs : List α} {vs : List V} {a : Addr} {i : Int} {x : α} (ha : H a = some (.lst vs)) (h : All2 R H xs vs) (e : idxM xs i = some x) : ∃ w, R x w H ∧ ∀ Q : VK, Q w H → rIxL K (.ref a) (.int i) H Q := by
  obtain ⟨w, h1, h2⟩ := h.atI e
  exact ⟨w, h2, fun Q q => ⟨a, vs, i, w, rfl, rfl, SqL.of ha, h1, q⟩⟩
theorem cutV_L {xs : List α} {vs : List V} (h : All2 R H xs vs) (lo hi : Option Int) : All2 R H (cutL xs lo hi) (cutV vs lo hi) := by
  unfold cutL cutV
  rw [← h.len]
  exact (h.drop _).take _
theorem cutL_len {xs : List α} (lo hi : Option Int) : (cutL xs lo hi).length ≤ xs.length := by
  unfold cutL
  rw [List.length_take, List.length_drop]; omega
theorem setM_some {xs ys : List α} {i : Int} {x : α} (e : setM xs i x = some ys) : ∃ j, L2.ixN xs.length i = some j ∧ ys = xs.set j x := by
  obtain ⟨j, h1, h2⟩ := bindS e
  exact ⟨j, h1, (someI h2).symm⟩
end
/-! ### == of data -/
class Dt {α : Type} (R : Rep α) where
  toD : α → PyData
  dep : Nat
  dp : ∀ {K : PySem.W.Frag} {x : α} {v : V} {H : Hp}, R x v H → Dp K H v (toD x)
  can : ∀ {x : α} {v : V} {H : Hp}, R x v H → (toD x).canLay0 = true
  depth : ∀ x, (toD x).depth ≤ dep
  eqv : ∀ x y, PyData.eqv (toD x) (toD y) = true ↔ x = y
class Nn {α : Type} (R : Rep α) [Dt R] : Prop where
  nn : ∀ x : α, PyData.eqv (.none) (Dt.toD R x) = false ∧ PyData.eqv (Dt.toD R x) (.none) = false
instance : Dt pI where
  toD := .int
  dep := 0
  dp := fun h => by rw [show _ = _ from h]; exact .int _
  can := fun _ => rfl
  depth := fun _ => Nat.le_refl _
  eqv := fun x y => by simp [PyData.eqv]
instance : Dt pB where
  toD := .bool
  dep := 0
  dp := fun h => by rw [show _ = _ from h]; exact .bl _
  can := fun _ => rfl
  depth := fun _ => Nat.le_refl _
  eqv := fun x y => by simp [PyData.eqv]
instance : Dt pS where
  toD := fun l => .str (sS l)
  dep := 0
  dp := fun h => by rw [show _ = _ from h.1]; exact .str _
  can := fun {x} {v} {H} h => by
    simp only [PyData.canLay0, PyData.strOk, Array.all_eq_true']
    intro c hc
    have : c ∈ x := by rw [← sS_list x]; exact Array.mem_toList_iff.mpr hc
    exact decide_eq_true (h.2.cps c this)
  depth := fun _ => Nat.le_refl _
  eqv := fun x y => by
    simp only [PyData.eqv, beq_iff_eq]
    exact ⟨sS_inj, fun e => by rw [e]⟩
instance : Nn pI := ⟨fun _ => by simp [Dt.toD, PyData.eqv]⟩
instance : Nn pB := ⟨fun _ => by simp [Dt.toD, PyData.eqv]⟩
instance : Nn pS := ⟨fun _ => by simp [Dt.toD, PyData.eqv]⟩
theorem canAll_map {α : Type} {R : Rep α} [Dt R] {H : Hp} : ∀ {xs : List α} {vs : List V}, All2 R H xs vs → PyData.canLayAll0 (xs.map (Dt.toD R)) = true
  | _, _, .nil => rfl
  | _, _, .cons r t => by simp only [List.map_cons, PyData.canLayAll0, Dt.can r, canAll_map t, Bool.and_self]
theorem depAll_map {α : Type} {R : Rep α} [Dt R] : ∀ xs : List α, PyData.depthAll (xs.map (Dt.toD R)) ≤ Dt.dep R
  | [] => Nat.zero_le _
  | x :: xs => by simp only [List.map_cons, PyData.depthAll]; exact Nat.max_le.mpr ⟨Dt.depth x, depAll_map xs⟩
theorem eqvAll_map {α : Type} {R : Rep α} [Dt R] : ∀ xs ys : List α, PyData.eqvAll (xs.map (Dt.toD R)) (ys.map (Dt.toD R)) = true ↔ xs = ys
  | [], [] => by simp [PyData.eqvAll]
  | [], y :: ys => by simp [PyData.eqvAll]
  | x :: xs, [] => by simp [PyData.eqvAll]
  | x :: xs, y :: ys => by simp only [List.map_cons, PyData.eqvAll, Bool.and_eq_true, Dt.eqv, eqvAll_map xs ys, List.cons.injEq]
theorem dpAll_map {α : Type} {R : Rep α} [Dt R] {K : PySem.W.Frag} {H : Hp} : ∀ {xs : List α} {vs : List V}, All2 R H xs vs → DpAll K H vs (xs.map (Dt.toD R))
  | _, _, .nil => .nil
  | _, _, .cons r t => .cons (Dt.dp r) (dpAll_map t)
instance {α : Type} {R : Rep α} [Dt R] : Dt (pL R) where
  toD := fun xs => .list (xs.map (Dt.toD R))
  dep := Dt.dep R + 1
  dp := fun ⟨a, vs, e, h, p, _⟩ => by rw [e]; exact .lst (SqL.of h) (dpAll_map p)
  can := fun ⟨a, vs, e, h, p, _⟩ => by simp only [PyData.canLay0]; exact canAll_map p
  depth := fun xs => by simp only [PyData.depth]; exact Nat.succ_le_succ (depAll_map xs)
  eqv := fun x y => by simp only [PyData.eqv]; exact eqvAll_map x y
instance {α : Type} {R : Rep α} [Dt R] : Nn (pL R) := ⟨fun _ => by simp [Dt.toD, PyData.eqv]⟩
instance {α : Type} {R : Rep α} [Dt R] [Nn R] : Dt (pO R) where
  toD := fun o => match o with | none => .none | some x => Dt.toD R x
  dep := Dt.dep R
  dp := fun {K x v H} h => by
    cases x with
    | none => rw [show v = .non from h]; exact .non
    | some x => exact Dt.dp (R := R) h
  can := fun {x v H} h => by
    cases x with
    | none => rfl
    | some x => exact Dt.can (R := R) h
  depth := fun x => by
    cases x with
    | none => exact Nat.zero_le _
    | some x => exact Dt.depth x
  eqv := fun x y => by
    cases x with
    | none => cases y with
      | none => simp [PyData.eqv]
      | some y => simp [(Nn.nn (R := R) y).1]
    | some x => cases y with
      | none => simp [(Nn.nn (R := R) x).2]
      | some y => simp [Dt.eqv]
instance {α β : Type} {R : Rep α} {S : Rep β} [Dt R] [Dt S] : Dt (pT2 R S) where
  toD := fun p => .tuple [Dt.toD R p.1, Dt.toD S p.2]
  dep := max (Dt.dep R) (Dt.dep S) + 1
  dp := fun ⟨a, u, w, e, h, p, q⟩ => by rw [e]; exact .tup (SqT.of h) (.cons (Dt.dp p) (.cons (Dt.dp q) .nil))
  can := fun ⟨a, u, w, e, h, p, q⟩ => by simp only [PyData.canLay0, PyData.canLayAll0, Dt.can p, Dt.can q, Bool.and_self]
  depth := fun p => by
    have h1 := Dt.depth (R := R) p.1
    have h2 := Dt.depth (R := S) p.2
    simp only [PyData.depth, PyData.depthAll]; omega
  eqv := fun x y => by
    obtain ⟨a, b⟩ := x
    obtain ⟨c, d⟩ := y
    simp [PyData.eqv, PyData.eqvAll, Dt.eqv]
instance {α β γ : Type} {R : Rep α} {S : Rep β} {T : Rep γ} [Dt R] [Dt S] [Dt T] : Dt (pT3 R S T) where
  toD := fun p => .tuple [Dt.toD R p.1, Dt.toD S p.2.1, Dt.toD T p.2.2]
  dep := max (max (Dt.dep R) (Dt.dep S)) (Dt.dep T) + 1
  dp := fun ⟨a, u, w, x, e, h, p, q, r⟩ => by rw [e]; exact .tup (SqT.of h) (.cons (Dt.dp p) (.cons (Dt.dp q) (.cons (Dt.dp r) .nil)))
  can := fun ⟨a, u, w, x, e, h, p, q, r⟩ => by simp only [PyData.canLay0, PyData.canLayAll0, Dt.can p, Dt.can q, Dt.can r, Bool.and_self]
  depth := fun p => by
    have h1 := Dt.depth (R := R) p.1
    have h2 := Dt.depth (R := S) p.2.1
    have h3 := Dt.depth (R := T) p.2.2
    simp only [PyData.depth, PyData.depthAll]; omega
  eqv := fun x y => by
    obtain ⟨a, b, c⟩ := x
    obtain ⟨d, e, f⟩ := y
    simp [PyData.eqv, PyData.eqvAll, Dt.eqv]
instance {α β : Type} {R : Rep α} {S : Rep β} [Dt R] [Dt S] : Nn (pT2 R S) := ⟨fun _ => by simp [Dt.toD, PyData.eqv]⟩
instance {α β γ : Type} {R : Rep α} {S : Rep β} {T : Rep γ} [Dt R] [Dt S] [Dt T] : Nn (pT3 R S T) := ⟨fun _ => by simp [Dt.toD, PyData.eqv]⟩
section
variable {σ : St} {H G : Hp} {K : PySem.W.Frag} {v w : V} {α : Type} [DecidableEq α] {R : Rep α} [Dt R]
theorem shapedD {x : α} (h : R x v H) (hd : Dt.dep R ≤ 64 := by decide) : SeqAt.shaped (Dt.toD R x) = true := by
  unfold SeqAt.shaped
  rw [Dt.can h, decide_eq_true (Nat.le_trans (Dt.depth x) hd)]
  rfl
theorem eqvD (x y : α) : PyData.eqv (Dt.toD R x) (Dt.toD R y) = decide (x = y) := by
  by_cases e : x = y
  · rw [decide_eq_true e]; exact (Dt.eqv x y).mpr e
  · rw [decide_eq_false e]
    cases q : PyData.eqv (Dt.toD R x) (Dt.toD R y) with
    | false => rfl
    | true => exact absurd ((Dt.eqv x y).mp q) e
theorem k_eqD {x y : α} (h1 : R x v H) (h2 : R y w H) (hd : Dt.dep R ≤ 64 := by decide) : ∀ Q : VK, Q (.bl (decide (x = y))) H → rEqD K v w H Q := fun Q q => ⟨Dt.toD R x, Dt.toD R y, Dt.dp h1, Dt.dp h2, shapedD h1 hd, shapedD h2 hd, by rw [eqvD]; exact q⟩
theorem k_neD {x y : α} (h1 : R x v H) (h2 : R y w H) (hd : Dt.dep R ≤ 64 := by decide) : ∀ Q : VK, Q (.bl (!decide (x = y))) H → rNeD K v w H Q := fun Q q => ⟨Dt.toD R x, Dt.toD R y, Dt.dp h1, Dt.dp h2, shapedD h1 hd, shapedD h2 hd, by rw [eqvD]; exact q⟩
end
end MK

namespace MK
open PySem PySem.Spec L2
section
variable {E G0 G G' G2 H H' : Hp} {M : List Addr} {cs : List (Addr × HO)} {p a : Addr} {o o' : HO} {α β γ δ : Type} {R : Rep α} {S : Rep β} {T : Rep γ} {U : Rep δ}
theorem W.dropN (w : W E G0 M G cs H) (k : Nat) : W E G0 M G (cs.drop k) H := w.sub' (List.drop_sublist k cs)
theorem W.callOwn (w : W E G0 M G cs H) (q : Post [] G H G' H') (hp : H p = none) (hG : G' p = none) (hH : H' p = some o) : W E G0 M G' ((p, o) :: cs) H' :=
  (w.call q).own' (w.freshE hp) hH hG (w.ne hp)
theorem W.callLay (w : W E G0 M G cs H) (q : Post [] G H G' H') (hp : H p = none) (hG : G' p = none) (hH : H' p = some o) : W E G0 M (upd G' p o) cs H' := by
  have h := (w.callOwn q hp hG hH).freeze 0 rfl (w.freshE hp)
  exact h
theorem W.callMOwn {r : Addr} {u : HO} (w : W E G0 M G cs H) (k : Nat) (hk : cs[k]? = some (p, o)) (q : Post [p] G H G' H') (hp' : H' p = some o') (hr : H r = none) (hG : G' r = none) (hH : H' r = some u) : W E G0 M G' ((r, u) :: cs.set k (p, o')) H' := by
  refine (w.callM k hk q hp').own' (w.freshE hr) hH hG fun c hc => ?_
  have hpp : (p, o) ∈ cs := List.mem_of_getElem? hk
  rcases mem_set_ne w.nd hk c hc with rfl | ⟨h1, h2⟩
  · have q2 := w.ne hr (p, o) hpp; exact q2
  · exact w.ne hr c h1
theorem W.callMLay {r : Addr} {u : HO} (w : W E G0 M G cs H) (k : Nat) (hk : cs[k]? = some (p, o)) (q : Post [p] G H G' H') (hp' : H' p = some o') (hr : H r = none) (hG : G' r = none) (hH : H' r = some u) : W E G0 M (upd G' r u) (cs.set k (p, o')) H' := by
  have h := (w.callMOwn k hk q hp' hr hG hH).freeze 0 rfl (w.freshE hr)
  exact h
theorem same_new (hG : G p = none) : L2.Same G (upd G p o) := fun b u e => by rw [upd_ne (ne_of_none e hG)]; exact e
theorem pL_new [Mn R] {xs : List α} {vs : List V} (hG : G p = none) (ha : All2 R G xs vs) (hl : xs.length ≤ sizeLine) : pL R xs (.ref p) (upd G p (.lst vs)) := ⟨p, vs, rfl, upd_same, All2.mono ha (same_new hG), hl⟩
theorem pL_cell [Mn R] {xs : List α} {vs : List V} (hH : H p = some (.lst vs)) (ha : All2 R G xs vs) (s : L2.Same G H) (hl : xs.length ≤ sizeLine) : pL R xs (.ref p) H := ⟨p, vs, rfl, hH, All2.mono ha s, hl⟩
theorem pT2_new [Mn R] [Mn S] {x : α} {y : β} {u v : V} (hG : G p = none) (h1 : R x u G) (h2 : S y v G) : pT2 R S (x, y) (.ref p) (upd G p (.tup [u, v])) := ⟨p, u, v, rfl, upd_same, Mn.mono h1 (same_new hG), Mn.mono h2 (same_new hG)⟩
theorem pT3_new [Mn R] [Mn S] [Mn T] {x : α} {y : β} {z : γ} {u v w : V} (hG : G p = none) (h1 : R x u G) (h2 : S y v G) (h3 : T z w G) : pT3 R S T (x, y, z) (.ref p) (upd G p (.tup [u, v, w])) := ⟨p, u, v, w, rfl, upd_same, Mn.mono h1 (same_new hG), Mn.mono h2 (same_new hG), Mn.mono h3 (same_new hG)⟩
theorem pT4_new [Mn R] [Mn S] [Mn T] [Mn U] {x : α} {y : β} {z : γ} {t : δ} {u v w q : V} (hG : G p = none) (h1 : R x u G) (h2 : S y v G) (h3 : T z w G) (h4 : U t q G) : pT4 R S T U (x, y, z, t) (.ref p) (upd G p (.tup [u, v, w, q])) := ⟨p, u, v, w, q, rfl, upd_same, Mn.mono h1 (same_new hG), Mn.mono h2 (same_new hG), Mn.mono h3 (same_new hG), Mn.mono h4 (same_new hG)⟩
theorem pT1_new [Mn R] {x : α} {u : V} (hG : G p = none) (h1 : R x u G) : pT1 R x (.ref p) (upd G p (.tup [u])) := ⟨p, u, rfl, upd_same, Mn.mono h1 (same_new hG)⟩
/-! ranges and items -/
def rng1M (n : Int) : Option (List Int) := if decide (-(2 ^ 62) ≤ n ∧ n < 2 ^ 62 ∧ n ≤ sizeLine) = true then some (rangeL 0 n.toNat) else none
theorem rng1_ok {n : Int} {xs : List Int} (h : rng1M n = some xs) : (-(2 ^ 62) ≤ n ∧ n < 2 ^ 62) ∧ xs = rangeL 0 n.toNat ∧ n.toNat ≤ sizeLine := by
  obtain ⟨c, rfl⟩ := guardS h
  exact ⟨⟨c.1, c.2.1⟩, rfl, by omega⟩
theorem rng_ok {lo hi : Int} {xs : List Int} (h : rngM lo hi = some xs) : (-(2 ^ 62) ≤ lo ∧ lo < 2 ^ 62 ∧ -(2 ^ 62) ≤ hi ∧ hi < 2 ^ 62) ∧ xs = rangeL lo (hi - lo).toNat ∧ (hi - lo).toNat ≤ sizeLine := by
  obtain ⟨c, rfl⟩ := guardS h
  exact ⟨⟨c.1, c.2.1, c.2.2.1, c.2.2.2.1⟩, rfl, by omega⟩
theorem rng_item {lo : Int} {n i : Nat} {x : Int} {v : V} (hx : (rangeL lo n)[i]? = some x) (hy : YFn (fun i => .int (lo + i)) i H v H') : H' = H ∧ v = .int x := by
  obtain ⟨rfl, _⟩ := rangeL_at hx
  exact hy
theorem lst_item {xs : List α} {vs : List V} {i : Nat} {x : α} {v : V} (ha : All2 R G xs vs) (hx : xs[i]? = some x) (hy : YAt vs i H v H') : H' = H ∧ R x v G := by
  obtain ⟨e, hv⟩ := hy
  obtain ⟨w, h1, h2⟩ := ha.get hx
  rw [hv] at h1
  cases h1
  exact ⟨e, h2⟩
theorem scr_item {xs : List Int} {i : Nat} {x : Int} {v : V} (hx : xs[i]? = some x) (hy : YAt (xs.map V.int) i H v H') : H' = H ∧ v = .int x := by
  obtain ⟨e, hv⟩ := hy
  rw [List.getElem?_map, hx] at hv
  exact ⟨e, (someI hv).symm⟩
def charsL (l : List Nat) : List (List Nat) := l.map fun c => [c]
theorem str_item {l : List Nat} {i : Nat} {x : List Nat} {v : V} (hx : (charsL l)[i]? = some x) (hy : H' = H ∧ ∃ c, (sS l).cps[i]? = some c ∧ v = .str ⟨#[c]⟩) : H' = H ∧ v = vS x := by
  obtain ⟨e, c, hc, hv⟩ := hy
  unfold charsL at hx
  rw [List.getElem?_map] at hx
  have h2 : l[i]? = some c := by rw [← hc]; simp [sS]
  rw [h2] at hx
  cases hx
  exact ⟨e, hv⟩
theorem str_ok {l : List Nat} {i : Nat} {x : List Nat} (h : OkS l) (hx : (charsL l)[i]? = some x) : OkS x := by
  unfold charsL at hx
  rw [List.getElem?_map] at hx
  cases e : l[i]? with
  | none => rw [e] at hx; cases hx
  | some c => rw [e] at hx; cases hx; exact h.one (List.mem_of_getElem? e)
theorem charsL_len (l : List Nat) : (charsL l).length = (sS l).cps.size := by simp [charsL, sS]
/-! ### control -/
def ctlK {X σ : Type} (c : Ctl X σ) (k : σ → Option X) : Option X := match c with
  | .rt x => some x
  | .nx s => k s
  | .bk s => k s
theorem ctlK_rt {X σ : Type} {c : Ctl X σ} {k : σ → Option X} {r x : X} (h : ctlK c k = some r) (e : c = .rt x) : r = x := by subst e; exact (someI h).symm
theorem ctlK_nx {X σ : Type} {c : Ctl X σ} {k : σ → Option X} {r : X} {s : σ} (h : ctlK c k = some r) (e : c = .nx s) : k s = some r := by subst e; exact h
end
section
variable {σ : St} {H : Hp} {Q : VK} {te : TE} {tt : TT} {D : Ends} {rest ts tsu t : TS} {sp : Sp} {E : XK} {ta : TA}
theorem cps_call (h : ta σ H fun vs H1 => sp (vs ++ []) H1 Q E) : tCall sp [] E ta σ H Q := h
theorem cps_tup (h : ta σ H fun xs H1 => xs.length ≤ sizeLine ∧ ∀ p, H1 p = none → Q (.ref p) (upd H1 p (.tup xs))) : tTup ta σ H Q := h
theorem cps_lst (h : ta σ H fun xs H1 => xs.length ≤ sizeLine ∧ ∀ p, H1 p = none → Q (.ref p) (upd H1 p (.lst xs))) : tLst ta σ H Q := h
theorem cps_rng1 {R : It → Hp → Prop} (h : ta σ H fun vs H1 => ∃ j : Int, vs = [.int j] ∧ -(2 ^ 62) ≤ j ∧ j < 2 ^ 62 ∧ R (Itr 0 j.toNat) H1) : iRng1 ta σ H R := h
theorem cps_rng2 {R : It → Hp → Prop} (h : ta σ H fun vs H1 => ∃ i j : Int, vs = [.int i, .int j] ∧ (-(2 ^ 62) ≤ i ∧ i < 2 ^ 62 ∧ -(2 ^ 62) ≤ j ∧ j < 2 ^ 62) ∧ R (Itr i (j - i).toNat) H1) : iRng2 ta σ H R := h
theorem cps_list {K : PySem.W.Frag} {R : It → Hp → Prop} (h : te σ H fun x H1 => ∃ a, x = .ref a ∧ (∃ xs, SqL K H1 a xs) ∧ R (Itl K a) H1) : iList K te σ H R := h
theorem cps_str {R : It → Hp → Prop} (h : te σ H fun v H1 => ∃ x, v = .str x ∧ R (Its x) H1) : iStr te σ H R := h
theorem cps_tupI {K : PySem.W.Frag} {R : It → Hp → Prop} (h : te σ H fun x H1 => ∃ a, x = .ref a ∧ (∃ xs, SqT K H1 a xs) ∧ R (Itt K a) H1) : iTup K te σ H R := h
theorem s_if0 (h : tt σ H fun b H1 => if b = true then ts { D with nx := rest D } σ H1 else tsu { D with nx := rest D } σ H1) : tSeq (tIfS tt ts tsu) rest D σ H := h
theorem cps_next (h : D.nx σ H) : tNext D σ H := h
theorem cps_nextS {N : St → Hp → Prop} (h : N σ H) : tNext { D with nx := N } σ H := h
theorem st_conv {σ' : St} (e : σ = σ') (h : t D σ' H) : t D σ H := by subst e; exact h
theorem cps_par {i j : Nat} (τ : V → V → St) (e : ∀ x y, (σ.set i (some x)).set j (some y) = τ x y) (h : ta σ H fun vs H1 => ∃ v w, vs = [v, w] ∧ rest D (τ v w) H1) : tSeq (tPar i j ta) rest D σ H := by
  have e' : τ = fun x y => (σ.set i (some x)).set j (some y) := funext fun x => funext fun y => (e x y).symm
  subst e'
  exact h
theorem cps_asgG {g : TG} (h : te σ H fun x H1 => g x σ H1 (rest D)) : tSeq (tAsg te g) rest D σ H := h
theorem cps_sub {to ti : TE} {s : TSet} {v : V} {N : St → Hp → Prop} (h : to σ H fun o H1 => ti σ H1 fun i H2 => s o i v H2 fun H3 => N σ H3) : gSub to ti s v σ H N := h
theorem cps_aug {i : Nat} {ti : TIp} {x : V} (τ : V → St) (e : ∀ z, σ.set i (some z) = τ z) (hx : σ[i]? = some (some x)) (h : te σ H fun y H1 => ti x y H1 fun z H2 => rest D (τ z) H2) : tSeq (tAug i te ti) rest D σ H := by
  have e' : τ = fun z => σ.set i (some z) := funext fun z => (e z).symm
  subst e'
  exact ⟨x, hx, h⟩
theorem cps_bm {K : PySem.W.Frag} {n : String} {r : V → List V → Hp → VK → Prop} {to : TE} (h : to σ H fun x H1 => tyV K n x H1 ∧ ta σ H1 fun xs H2 => r x xs H2 Q) : tBM K n r to ta σ H Q := h
theorem cps_bm0 {K : PySem.W.Frag} {n : String} {r : V → List V → Hp → VK → Prop} {to : TE} (h : to σ H fun x H1 => tyV K n x H1 ∧ r x [] H1 Q) : tBM0 K n r to σ H Q := h
theorem tyL {K : PySem.W.Frag} {a : Addr} {xs : List V} (h : H a = some (.lst xs)) : tyV K "list" (.ref a) H := Or.inl ⟨rfl, _, SqL.of h⟩
theorem cps_lc {wi : TI} {g : TG} {te' : TE} {vs : List Nat} (h : wi σ H fun J H1 => ∀ D, H1 D = none → ∃ W : Nat → Nat → Hp → Prop, (∃ m, W 0 m (upd H1 D (.lst []))) ∧ ∀ i m H, W i m H →
  (J.stop i H ∧ Q (.ref D) H) ∨ (J.go i H ∧ ∃ Nx : Hp → Prop, (∀ H', Nx H' → ∃ m', m' < m ∧ W (i + 1) m' H') ∧ ∀ x H', J.yld i H x H' → g x (wipe σ vs) H' fun σ2 H2 => wipe σ2 vs = wipe σ vs ∧ tt σ2 H2 fun b H3 =>
    if b = true then te' σ2 H3 fun y H4 => ∃ acc, H4 D = some (.lst acc) ∧ acc.length < sizeLine ∧ Nx (upd H4 D (.lst (acc ++ [y]))) else Nx H3)) : tLc wi g tt te' vs σ H Q := h
end
section
variable {H G : Hp} {K : PySem.W.Frag} {α : Type} {R : Rep α} {v w : V}
/-- xs[i] of a list that is in the base -/
theorem k_idxG {xs : List α} {i : Int} {x : α} (h : pL R xs v G) (s : L2.Same G H) (e : idxM xs i = some x) : ∃ w, R x w G ∧ ∀ Q : VK, Q w H → rIxL K v (.int i) H Q := by
  obtain ⟨a, vs, rfl, ha, hx, _⟩ := h
  obtain ⟨w, h1, h2⟩ := hx.atI e
  exact ⟨w, h2, fun Q q => ⟨a, vs, i, w, rfl, rfl, SqL.of (s _ _ ha), h1, q⟩⟩
theorem k_idxC {xs : List α} {vs : List V} {a : Addr} {i : Int} {x : α} (ha : H a = some (.lst vs)) (h : All2 R G xs vs) (e : idxM xs i = some x) : ∃ w, R x w G ∧ ∀ Q : VK, Q w H → rIxL K (.ref a) (.int i) H Q := by
  obtain ⟨w, h1, h2⟩ := h.atI e
  exact ⟨w, h2, fun Q q => ⟨a, vs, i, w, rfl, rfl, SqL.of ha, h1, q⟩⟩
theorem k_idxTG {xs : List α} {vs : List V} {a : Addr} {i : Int} {x : α} (ha : H a = some (.tup vs)) (h : All2 R G xs vs) (e : idxM xs i = some x) : ∃ w, R x w G ∧ ∀ Q : VK, Q w H → rIxT K (.ref a) (.int i) H Q := by
  obtain ⟨w, h1, h2⟩ := h.atI e
  exact ⟨w, h2, fun Q q => ⟨a, vs, i, w, rfl, rfl, SqT.of ha, h1, q⟩⟩
theorem appM_ok {xs ys : List α} {y : α} (h : appM xs y = some ys) : xs.length < sizeLine ∧ ys = xs ++ [y] ∧ ys.length ≤ sizeLine := by
  obtain ⟨c, rfl⟩ := guardS h
  exact ⟨c, rfl, by rw [List.length_append]; exact c⟩
theorem app_hw {a : Addr} {vs : List V} {y : V} {Q : VK} {xs ys : List α} {x : α} (hx : All2 R G xs vs) (e : appM xs x = some ys) (ha : H a = some (.lst vs)) (h : Q .non (upd H a (.lst (vs ++ [y])))) : rAppend (.ref a) [y] H Q := ⟨a, vs, y, rfl, rfl, ha, by rw [← hx.len]; exact (appM_ok e).1, h⟩
theorem app_all {vs : List V} {y : V} {xs ys : List α} {x : α} (hx : All2 R G xs vs) (hy : R x y G) (e : appM xs x = some ys) : All2 R G ys (vs ++ [y]) := by
  rw [(appM_ok e).2.1]
  exact hx.app (All2.one hy)
theorem ixN_len {α β : Type} {xs : List α} {ys : List β} (h : xs.length = ys.length) {i : Int} {j : Nat} (e : L2.ixN xs.length i = some j) : L2.ixN ys.length i = some j := by rw [← h]; exact e
theorem set_all {vs : List V} {y : V} {xs ys : List α} {x : α} {i : Int} (hx : All2 R G xs vs) (hy : R x y G) (e : setM xs i x = some ys) : ∃ j, L2.ixN vs.length i = some j ∧ All2 R G ys (vs.set j y) ∧ ys.length = xs.length := by
  obtain ⟨j, h1, rfl⟩ := setM_some e
  exact ⟨j, ixN_len hx.len h1, hx.set hy j, by rw [List.length_set]⟩
theorem set_hw {a : Addr} {vs : List V} {y : V} {i : Int} {j : Nat} {N : Hp → Prop} (ha : H a = some (.lst vs)) (hj : L2.ixN vs.length i = some j) (h : N (upd H a (.lst (vs.set j y)))) : rSetL (.ref a) (.int i) y H N := ⟨a, vs, i, j, rfl, rfl, ha, hj, h⟩
/-! isinstance of what is known -/
theorem isiT {x : V} {t n : String} {b : Bool} (h : TyX K H x (.type t)) (k : kitB t n = some b) : ∀ Q : VK, Q (.bl b) H → rIsi K [x, .ty n] H Q := fun Q q => ⟨x, .ty n, .type t, .type n, b, rfl, .ty n, h, kit_ty k, q⟩
theorem tyI (i : Int) : TyX K H (.int i) (.type "int") := .base (.int i)
theorem tyB (i : Bool) : TyX K H (.bl i) (.type "bool") := .base (.bl i)
theorem tyS (l : List Nat) : TyX K H (vS l) (.type "str") := .base (.str _)
theorem tyN : TyX K H .non (.type "NoneType") := .base .non
theorem tyLs {xs : List α} (h : pL R xs v H) : TyX K H v (.type "list") := by
  obtain ⟨a, vs, rfl, ha, _⟩ := h
  exact .base (.lst ha)
end
end MK

namespace MK
open PySem PySem.Spec L2
def fuel : Nat := 100000
def ForG (J : It) (g : TG) (tb : TS) (D : Ends) (σ : St) (H : Hp) : Prop := ∃ W : Nat → Nat → St → Hp → Prop, (∃ m, W 0 m σ H) ∧ ∀ i m σ H, W i m σ H →
  (J.stop i H ∧ D.nx σ H) ∨ (J.go i H ∧ ∃ N : St → Hp → Prop, (∀ σ' H', N σ' H' → ∃ m', m' < m ∧ W (i + 1) m' σ' H') ∧ ∀ x H', J.yld i H x H' → g x σ H' fun σ2 H2 => tb { D with nx := N, ct := N, bk := D.nx } σ2 H2)
section
variable {J : It} {n : Nat} {G : Hp → Prop} {Y : Nat → Hp → V → Hp → Prop} {α β ρ S : Type}
theorem cps_forG {wi : TI} {g : TG} {tb rest : TS} {D : Ends} {σ : St} {H : Hp} (h : wi σ H fun J H1 => ForG J g tb { D with nx := rest D } σ H1) : tSeq (tFor wi g tb) rest D σ H := h
theorem loop_w2 (w : Walk J n G Y) {xs : List α} (hn : xs.length = n) {f : α → S → Option (Ctl ρ S)} {s0 : S} {res : Ctl ρ S} (hm : loopM f xs s0 = some res)
    {g : TG} {tb : TS} {D : Ends} {σ : St} {H : Hp} (P : S → St → Hp → Prop) (h0 : P s0 σ H) (hG : ∀ s σ H, P s σ H → G H)
    (turn : ∀ (i : Nat) x s c v σ H H', xs[i]? = some x → f x s = some c → (∀ r, c = .rt r → res = .rt r) → P s σ H → Y i H v H' →
      ∀ N : St → Hp → Prop, (∀ s' σ' H', c = .nx s' → P s' σ' H' → N σ' H') → (∀ s' σ' H', c = .bk s' → P s' σ' H' → D.nx σ' H') → g v σ H' fun σ2 H2 => tb { D with nx := N, ct := N, bk := D.nx } σ2 H2)
    (done : ∀ s' σ H, res = .nx s' → P s' σ H → D.nx σ H) : ForG J g tb D σ H :=
  loop_w w hn hm P h0 hG (fun i x s c v σ H H' h1 h2 h3 h4 h5 h6 N kN => turn i x s c v σ H H' h1 h2 h4 h5 h6 N kN fun s' σ' H' e p => done s' σ' H' (h3 s' e) p) done
theorem fold_w2 (w : Walk J n G Y) {xs : List α} (hn : xs.length = n) {f : α → S → Option S} {s0 res : S} (hm : foldO f xs s0 = some res)
    {g : TG} {tb : TS} {D : Ends} {σ : St} {H : Hp} (P : S → St → Hp → Prop) (h0 : P s0 σ H) (hG : ∀ s σ H, P s σ H → G H)
    (turn : ∀ (i : Nat) x s s' v σ H H', xs[i]? = some x → f x s = some s' → P s σ H → Y i H v H' →
      ∀ N : St → Hp → Prop, (∀ σ' H', P s' σ' H' → N σ' H') → g v σ H' fun σ2 H2 => tb { D with nx := N, ct := N, bk := D.nx } σ2 H2)
    (done : ∀ σ H, P res σ H → D.nx σ H) : ForG J g tb D σ H := fold_w w hn hm P h0 hG turn done
theorem while_w2 {c : S → Option Bool} {f : S → Option (Ctl ρ S)} {fu : Nat} {s0 : S} {res : Ctl ρ S} (hm : whileM c f fu s0 = some res)
    {tc : TT} {tb : TS} {D : Ends} {rest : TS} {σ : St} {H : Hp} (P : S → St → Hp → Prop) (h0 : P s0 σ H)
    (test : ∀ s b σ H, c s = some b → P s σ H → ∀ Q : Bool → Hp → Prop, (∀ H1, P s σ H1 → Q b H1) → tc σ H Q)
    (body : ∀ s cc σ H, c s = some true → f s = some cc → (∀ r, cc = .rt r → res = .rt r) → P s σ H →
      ∀ N : St → Hp → Prop, (∀ s' σ' H', cc = .nx s' → P s' σ' H' → N σ' H') → (∀ s' σ' H', cc = .bk s' → P s' σ' H' → rest D σ' H') → tb { D with nx := N, ct := N, bk := rest D } σ H)
    (done : ∀ s' σ H, res = .nx s' → P s' σ H → rest D σ H) : tSeq (tWhile tc tb) rest D σ H :=
  while_w hm P h0 test (fun s cc σ H h1 h2 h3 h4 h5 N kN => body s cc σ H h1 h2 h4 h5 N kN fun s' σ' H' e p => done s' σ' H' (h3 s' e) p) done
theorem for_nm {K : St → Hp → Prop} {σ τ : St} {i : Nat} {v : V} {H' : Hp} (e1 : σ.set i (some v) = τ) (h : K τ H') : gName i v σ H' K := by
  subst e1; exact h
theorem mapP_len {f : α → Option β} : ∀ {xs : List α} {ys : List β}, mapP f xs = some ys → ys.length ≤ xs.length
  | [], ys, h => by cases h; simp
  | x :: xs, ys, h => by
    obtain ⟨r, e1, h⟩ := bindS h
    obtain ⟨q, e2, h⟩ := bindS h
    cases h
    have := mapP_len e2
    simpa using this
theorem lcP_len {f : α → Option (Option β)} : ∀ {xs : List α} {ys : List β}, lcP f xs = some ys → ys.length ≤ xs.length
  | [], ys, h => by cases h; simp
  | x :: xs, ys, h => by
    obtain ⟨r, e1, h⟩ := bindS h
    obtain ⟨q, e2, h⟩ := bindS h
    have := lcP_len e2
    cases r <;> cases h <;> simp <;> omega
theorem lcS_len {f : α → S → Option (Option β × S)} : ∀ {xs : List α} {s : S} {q : List β × S}, lcS f xs s = some q → q.1.length ≤ xs.length
  | [], s, q, h => by cases h; simp
  | x :: xs, s, q, h => by
    obtain ⟨r, e1, h⟩ := bindS h
    obtain ⟨q', e2, h⟩ := bindS h
    have := lcS_len e2
    cases hr : r.1 with
    | none => rw [hr] at h; cases h; simp; omega
    | some y => rw [hr] at h; cases h; simp; omega
theorem lenz {xs : List α} {n : Nat} (h : xs.length = n) (z : n ≤ sizeLine) : xs.length ≤ sizeLine := by rw [h]; exact z
theorem charsL_length (l : List Nat) : (charsL l).length = l.length := by simp [charsL]
theorem iteT_yes {A B : Hp → Prop} {σ : St} {H : Hp} (h : A H) : tYes σ H (fun b H3 => if b = true then A H3 else B H3) := by
  show if true = true then A H else B H
  exact iteT h
end
section
variable {σ : St} {H G G' : Hp} {Q : VK} {te tf : TE} {tt tu : TT} {D : Ends} {rest ts tsu : TS} {K : PySem.W.Frag} {v w u x y : V} {α β γ δ : Type} {R : Rep α} {S : Rep β} {T : Rep γ} {U : Rep δ} {a : Addr}
theorem cut_if3 {P N : St → Hp → Prop} (b : Bool) (h1 : b = true → ∀ N' : St → Hp → Prop, (∀ σ' H', P σ' H' → N' σ' H') → ts { D with nx := N' } σ H) (h2 : b = false → ∀ N' : St → Hp → Prop, (∀ σ' H', P σ' H' → N' σ' H') → tsu { D with nx := N' } σ H)
    (k : ∀ σ' H', P σ' H' → N σ' H') : if b = true then ts { D with nx := N } σ H else tsu { D with nx := N } σ H := cut_if b k h1 h2
theorem cut_et2 {Q : Bool → Hp → Prop} {P : Bool → Hp → Prop} (h : ∀ Q' : Bool → Hp → Prop, (∀ v H', P v H' → Q' v H') → tt σ H Q') (k : ∀ v H', P v H' → Q v H') : tt σ H Q := h Q k
theorem cps_and {Q : Bool → Hp → Prop} (h : tt σ H fun c H1 => if c = true then tu σ H1 Q else Q false H1) : tAnd tt tu σ H Q := h
theorem cps_or {Q : Bool → Hp → Prop} (h : tt σ H fun c H1 => if c = true then Q true H1 else tu σ H1 Q) : tOr tt tu σ H Q := h
theorem cps_cont (h : D.ct σ H) : tSeq tCont rest D σ H := h
theorem cps_break (h : D.bk σ H) : tSeq tBreak rest D σ H := h
theorem cps_gtup2 {i j : Nat} {N : St → Hp → Prop} (τ : V → V → St) (e : ∀ x y, (σ.set i (some x)).set j (some y) = τ x y) (ha : H a = some (.tup [u, w])) (h : N (τ u w) H) : gTup K 2 (gCons (gName i) (gCons (gName j) gNil)) (.ref a) σ H N := by
  refine ⟨a, [u, w], rfl, SqT.of ha, rfl, u, [w], rfl, w, [], rfl, rfl, ?_⟩
  have e' := e u w
  first | exact e' ▸ h | (rw [e']; exact h)
theorem cps_gtup3 {i j k : Nat} {N : St → Hp → Prop} (τ : V → V → V → St) (e : ∀ x y z, ((σ.set i (some x)).set j (some y)).set k (some z) = τ x y z) (ha : H a = some (.tup [u, w, v])) (h : N (τ u w v) H) : gTup K 3 (gCons (gName i) (gCons (gName j) (gCons (gName k) gNil))) (.ref a) σ H N := by
  refine ⟨a, [u, w, v], rfl, SqT.of ha, rfl, u, [w, v], rfl, w, [v], rfl, v, [], rfl, rfl, ?_⟩
  have e' := e u w v
  first | exact e' ▸ h | (rw [e']; exact h)
theorem pO_some {o : Option α} {x : α} (h : pO R o v H) (e : o = some x) : R x v H := by subst e; exact h
end
end MK

namespace MK
open PySem PySem.Spec L2
section
variable {E G0 G G' H H' : Hp} {M : List Addr} {cs cs' : List (Addr × HO)}
theorem W.recell (w : W E G0 M G cs H) (e : cs = cs') : W E G0 M G cs' H := e ▸ w
end
section
variable {σ : St} {H G G' : Hp} {Q : VK} {te tf : TE} {K : PySem.W.Frag} {v w u x y : V} {α β γ δ : Type} {R : Rep α} {S : Rep β} {T : Rep γ} {U : Rep δ} {a : Addr}
/-! items of tuples -/
theorem k_tup1_0 {p : α} (h : pT1 R p v G) (s : L2.Same G H) : ∃ w, R p w G ∧ ∀ Q : VK, Q w H → rIxT K v (.int 0) H Q := by
  obtain ⟨a, u, rfl, h, r⟩ := h
  exact ⟨u, r, fun Q q => ⟨a, _, 0, u, rfl, rfl, SqT.of (s _ _ h), rfl, q⟩⟩
theorem k_tup2_0 {p : α × β} (h : pT2 R S p v G) (s : L2.Same G H) : ∃ w, R p.1 w G ∧ ∀ Q : VK, Q w H → rIxT K v (.int 0) H Q := by
  obtain ⟨a, u, w, rfl, h, r, r2⟩ := h
  exact ⟨u, r, fun Q q => ⟨a, _, 0, u, rfl, rfl, SqT.of (s _ _ h), rfl, q⟩⟩
theorem k_tup2_1 {p : α × β} (h : pT2 R S p v G) (s : L2.Same G H) : ∃ w, S p.2 w G ∧ ∀ Q : VK, Q w H → rIxT K v (.int 1) H Q := by
  obtain ⟨a, u, w, rfl, h, r, r2⟩ := h
  exact ⟨w, r2, fun Q q => ⟨a, _, 1, w, rfl, rfl, SqT.of (s _ _ h), rfl, q⟩⟩
theorem k_tup3_0 {p : α × β × γ} (h : pT3 R S T p v G) (s : L2.Same G H) : ∃ w, R p.1 w G ∧ ∀ Q : VK, Q w H → rIxT K v (.int 0) H Q := by
  obtain ⟨a, u, w, x, rfl, h, r, r2, r3⟩ := h
  exact ⟨u, r, fun Q q => ⟨a, _, 0, u, rfl, rfl, SqT.of (s _ _ h), rfl, q⟩⟩
theorem k_tup3_1 {p : α × β × γ} (h : pT3 R S T p v G) (s : L2.Same G H) : ∃ w, S p.2.1 w G ∧ ∀ Q : VK, Q w H → rIxT K v (.int 1) H Q := by
  obtain ⟨a, u, w, x, rfl, h, r, r2, r3⟩ := h
  exact ⟨w, r2, fun Q q => ⟨a, _, 1, w, rfl, rfl, SqT.of (s _ _ h), rfl, q⟩⟩
theorem k_tup3_2 {p : α × β × γ} (h : pT3 R S T p v G) (s : L2.Same G H) : ∃ w, T p.2.2 w G ∧ ∀ Q : VK, Q w H → rIxT K v (.int 2) H Q := by
  obtain ⟨a, u, w, x, rfl, h, r, r2, r3⟩ := h
  exact ⟨x, r3, fun Q q => ⟨a, _, 2, x, rfl, rfl, SqT.of (s _ _ h), rfl, q⟩⟩
theorem tyT2 {p : α × β} (h : pT2 R S p v H) : TyX K H v (.type "tuple") := by
  obtain ⟨a, u, w, rfl, h, _⟩ := h
  exact .base (.tup h)
theorem tyT3 {p : α × β × γ} (h : pT3 R S T p v H) : TyX K H v (.type "tuple") := by
  obtain ⟨a, u, w, x, rfl, h, _⟩ := h
  exact .base (.tup h)
/-! a list as it is got -/
structure GotL (R : Rep α) (G H : Hp) (xs : List α) (v : V) (vs : List V) : Prop where
  at_ : ∃ a, v = .ref a ∧ H a = some (.lst vs)
  all : All2 R G xs vs
  len : xs.length ≤ sizeLine
theorem gotL {xs : List α} {vs : List V} (h : H a = some (.lst vs)) (ha : All2 R G xs vs) (hl : xs.length ≤ sizeLine) : ∃ vs, GotL R G H xs (.ref a) vs := ⟨vs, ⟨a, rfl, h⟩, ha, hl⟩
theorem gotG {xs : List α} (h : pL R xs v G) (s : L2.Same G H) : ∃ vs, GotL R G H xs v vs := by
  obtain ⟨a, vs, e, h, ha, hl⟩ := h
  exact ⟨vs, ⟨a, e, s _ _ h⟩, ha, hl⟩
theorem k_listL {xs : List α} (h : ∃ vs, GotL R G H xs v vs) : ∃ vs, All2 R G xs vs ∧ xs.length ≤ sizeLine ∧ ∀ Q : VK, (∀ p, H p = none → Q (.ref p) (upd H p (.lst vs))) → (∃ p ys, [v] = [.ref p] ∧ (SqL K H p ys ∨ SqT K H p ys) ∧ ∀ l, H l = none → Q (.ref l) (upd H l (.lst ys))) := by
  obtain ⟨vs, ⟨a, rfl, h⟩, ha, hl⟩ := h
  exact ⟨vs, ha, hl, fun Q q => ⟨a, vs, rfl, .inl (SqL.of h), q⟩⟩
theorem k_catL {xs ys zs : List α} (h : ∃ vs, GotL R G H xs v vs) (h2 : ∃ vs, GotL R G H ys w vs) (e : catLM xs ys = some zs) : ∃ vs, All2 R G zs vs ∧ zs.length ≤ sizeLine ∧ ∀ Q : VK, (∀ p, H p = none → Q (.ref p) (upd H p (.lst vs))) → rCat v w H Q := by
  obtain ⟨vs, ⟨a, rfl, h⟩, ha, hl⟩ := h
  obtain ⟨ws, ⟨b, rfl, h2⟩, hb, hl2⟩ := h2
  obtain ⟨c, rfl⟩ := guardS e
  exact ⟨vs ++ ws, ha.app hb, by rw [List.length_append]; exact c, fun Q q => ⟨a, b, vs, ws, rfl, rfl, h, h2, by rw [← ha.len, ← hb.len]; exact c, q⟩⟩
theorem All2.rep {xs : List α} {vs : List V} (h : All2 R G xs vs) : ∀ n : Nat, All2 R G (List.replicate n xs).flatten (List.replicate n vs).flatten
  | 0 => .nil
  | n + 1 => by rw [List.replicate_succ, List.replicate_succ, List.flatten_cons, List.flatten_cons]; exact h.app (All2.rep h n)
theorem k_repL {xs zs : List α} {n : Int} (h : ∃ vs, GotL R G H xs v vs) (e : repLM xs n = some zs) : ∃ vs, All2 R G zs vs ∧ zs.length ≤ sizeLine ∧ ∀ Q : VK, (∀ p, H p = none → Q (.ref p) (upd H p (.lst vs))) → rRep v (.int n) H Q := by
  obtain ⟨vs, ⟨a, rfl, h⟩, ha, hl⟩ := h
  obtain ⟨c, rfl⟩ := guardS e
  refine ⟨_, ha.rep n.toNat, ?_, fun Q q => ⟨a, n, vs, rfl, rfl, h, c.1, c.2.1, by rw [← ha.len]; exact c.2.2, q⟩⟩
  rw [List.length_flatten, List.map_replicate, List.sum_replicate_nat, Nat.mul_comm]; exact c.2.2
theorem k_slL {xs : List α} {lo hi : Option Int} (h : ∃ vs, GotL R G H xs v vs) : ∃ vs, All2 R G (cutL xs lo hi) vs ∧ (cutL xs lo hi).length ≤ sizeLine ∧ ∀ Q : VK, (∀ p, H p = none → Q (.ref p) (upd H p (.lst vs))) → rSlL K v lo hi H Q := by
  obtain ⟨vs, ⟨a, rfl, h⟩, ha, hl⟩ := h
  exact ⟨_, cutV_L ha lo hi, Nat.le_trans (cutL_len lo hi) hl, fun Q q => ⟨a, vs, rfl, SqL.of h, q⟩⟩
/-! built-ins -/
theorem k_any {bs : List Bool} (h : pL pB bs v H) : ∀ Q : VK, Q (.bl (bs.any id)) H → rAny K [v] H Q := by
  obtain ⟨a, vs, rfl, h, ha, _⟩ := h
  cases ha.bool
  exact fun Q q => ⟨a, bs, rfl, SqL.of h, q⟩
theorem k_all {bs : List Bool} (h : pL pB bs v H) : ∀ Q : VK, Q (.bl (bs.all id)) H → rAll K [v] H Q := by
  obtain ⟨a, vs, rfl, h, ha, _⟩ := h
  cases ha.bool
  exact fun Q q => ⟨a, bs, rfl, SqL.of h, q⟩
theorem k_sum {ns : List Int} (h : pL pI ns v H) : ∀ Q : VK, Q (.int ns.sum) H → rSum K [v] H Q := by
  obtain ⟨a, vs, rfl, h, ha, _⟩ := h
  cases ha.int
  exact fun Q q => ⟨a, ns, rfl, SqL.of h, q⟩
theorem k_abs (i : Int) : ∀ Q : VK, Q (.int (if i < 0 then -i else i)) H → (∃ j, [V.int i] = [.int j] ∧ Q (.int (if j < 0 then -j else j)) H) := fun Q q => ⟨i, rfl, q⟩
theorem k_min2 (i j : Int) : ∀ Q : VK, Q (.int (if j < i then j else i)) H → (∃ k l, [V.int i, V.int j] = [.int k, .int l] ∧ Q (.int (if l < k then l else k)) H) := fun Q q => ⟨i, j, rfl, q⟩
theorem k_max2 (i j : Int) : ∀ Q : VK, Q (.int (if j > i then j else i)) H → (∃ k l, [V.int i, V.int j] = [.int k, .int l] ∧ Q (.int (if l > k then l else k)) H) := fun Q q => ⟨i, j, rfl, q⟩
theorem k_intB (b : Bool) : ∀ Q : VK, Q (.int (if b = true then 1 else 0)) H → ((∃ i, [V.bl b] = [.int i] ∧ Q (.int i) H) ∨ ∃ k, [V.bl b] = [.bl k] ∧ Q (.int (if k = true then 1 else 0)) H) := fun Q q => .inr ⟨b, rfl, q⟩
theorem k_intI (i : Int) : ∀ Q : VK, Q (.int i) H → ((∃ j, [V.int i] = [.int j] ∧ Q (.int j) H) ∨ ∃ k, [V.int i] = [.bl k] ∧ Q (.int (if k = true then 1 else 0)) H) := fun Q q => .inl ⟨i, rfl, q⟩
def inS (y x : List Nat) : Bool := !(Builtin.Str.occurrences (sS x) (sS y) 0 (sS x).length 1).isEmpty
theorem k_inS (y x : List Nat) : ∀ Q : VK, Q (.bl (inS y x)) H → (∃ i j, vS y = .str i ∧ vS x = .str j ∧ Q (.bl (!(Builtin.Str.occurrences j i 0 j.length 1).isEmpty)) H) := fun Q q => ⟨sS y, sS x, rfl, rfl, q⟩
theorem k_notinS (y x : List Nat) : ∀ Q : VK, Q (.bl (!inS y x)) H → (∃ i j, vS y = .str i ∧ vS x = .str j ∧ Q (.bl (!(!(Builtin.Str.occurrences j i 0 j.length 1).isEmpty))) H) := fun Q q => ⟨sS y, sS x, rfl, rfl, q⟩
theorem inV_int (i : Int) : ∀ xs : List Int, inV (.int i) (xs.map V.int) = decide (i ∈ xs)
  | [] => rfl
  | x :: xs => by
    have ih := inV_int i xs
    unfold inV at ih ⊢
    rw [List.map_cons, List.any_cons, ih]
    show ((x == i) || _) = _
    by_cases h : x = i
    · subst h; simp
    · have : i ≠ x := fun e => h e.symm
      simp [h, this]
theorem inV_str (l : List Nat) : ∀ xs : List (List Nat), inV (vS l) (xs.map vS) = decide (l ∈ xs)
  | [] => rfl
  | x :: xs => by
    have ih := inV_str l xs
    unfold inV at ih ⊢
    rw [List.map_cons, List.any_cons, ih]
    show ((sS x == sS l) || _) = _
    by_cases h : x = l
    · subst h; simp
    · have h2 : sS x ≠ sS l := fun e => h (sS_inj e)
      have : l ≠ x := fun e => h e.symm
      simp [h2, this]
theorem flat_int (xs : List Int) : (xs.map V.int).all flatV = true := by
  rw [List.all_map]; exact List.all_eq_true.mpr fun _ _ => rfl
theorem flat_str (xs : List (List Nat)) : (xs.map vS).all flatV = true := by
  rw [List.all_map]; exact List.all_eq_true.mpr fun _ _ => rfl
theorem k_inI {xs : List Int} (i : Int) (h : pL pI xs v H) : ∀ Q : VK, Q (.bl (decide (i ∈ xs))) H → rIn K false (.int i) v H Q := by
  obtain ⟨a, vs, rfl, h, ha, _⟩ := h
  cases ha.int
  exact fun Q q => ⟨a, _, rfl, .inl (SqL.of h), rfl, flat_int xs, by rw [inV_int]; exact q⟩
theorem k_notinI {xs : List Int} (i : Int) (h : pL pI xs v H) : ∀ Q : VK, Q (.bl (!decide (i ∈ xs))) H → rIn K true (.int i) v H Q := by
  obtain ⟨a, vs, rfl, h, ha, _⟩ := h
  cases ha.int
  exact fun Q q => ⟨a, _, rfl, .inl (SqL.of h), rfl, flat_int xs, by rw [inV_int]; exact q⟩
theorem k_inT {xs : List (List Nat)} (l : List Nat) (h : pL pS xs v H) : ∀ Q : VK, Q (.bl (decide (l ∈ xs))) H → rIn K false (vS l) v H Q := by
  obtain ⟨a, vs, rfl, h, ha, _⟩ := h
  cases ha.str.1
  exact fun Q q => ⟨a, _, rfl, .inl (SqL.of h), rfl, flat_str xs, by rw [inV_str]; exact q⟩
theorem k_notinT {xs : List (List Nat)} (l : List Nat) (h : pL pS xs v H) : ∀ Q : VK, Q (.bl (!decide (l ∈ xs))) H → rIn K true (vS l) v H Q := by
  obtain ⟨a, vs, rfl, h, ha, _⟩ := h
  cases ha.str.1
  exact fun Q q => ⟨a, _, rfl, .inl (SqL.of h), rfl, flat_str xs, by rw [inV_str]; exact q⟩
theorem cps_m1 {r : V → List V → Hp → VK → Prop} {to : TE} (h : to σ H fun x H1 => (∃ a, x = .str a) ∧ te σ H1 fun y H2 => r x [y] H2 Q) : tM1 r to te σ H Q := h
theorem ev_join {to : TE} {s r : List Nat} {ys : List (List Nat)} (h1 : EV to σ H (vS s)) (h2 : EV te σ H v) (h : pL pS ys v H) (e : joinM s ys = some r) : EV (tM1 (fun x xs H Q => ∃ a p, ∃ ys : List Str, x = .str a ∧ xs = [.ref p] ∧ (SqL K H p (ys.map V.str) ∨ SqT K H p (ys.map V.str)) ∧ (ys.map (·.length)).sum + ys.length * a.length ≤ 16777216 ∧ Q (.str (Txt.join a ys)) H) to te) σ H (vS r) :=
  fun Q q => h1 _ ⟨⟨_, rfl⟩, h2 _ (k_join h e Q q)⟩
/-! sorting -/
def sortI (xs : List Int) : List Int := xs.mergeSort fun a b => decide (a ≤ b)
theorem sortI_perm (xs : List Int) : (sortI xs).Perm xs := List.mergeSort_perm _ _
theorem sortI_sorted (xs : List Int) : (sortI xs).Pairwise (· ≤ ·) := by
  have h := List.pairwise_mergeSort (le := fun a b : Int => decide (a ≤ b)) (fun a b c h1 h2 => by simp at h1 h2 ⊢; omega) (fun a b => by simp; omega) xs
  exact h.imp fun h => by simpa using h
theorem sorted_one {a b : List Int} (hp : a.Perm b) (ha : a.Pairwise (· ≤ ·)) (hb : b.Pairwise (· ≤ ·)) : a = b := PySem.W.ksm_same hp ha hb
def sortIM (xs : List Int) : Option (List Int) := some (sortI xs)
theorem k_sortI {xs ys : List Int} (h : pL pI xs v H) (e : sortIM xs = some ys) : ∀ Q : VK, (∀ p, H p = none → Q (.ref p) (upd H p (.lst (ys.map V.int)))) → rSortedI K [v] H Q := by
  obtain ⟨a, vs, rfl, h, ha, _⟩ := h
  cases ha.int
  cases e
  refine fun Q q => ⟨a, xs, rfl, SqL.of h, fun ns' p h1 h2 h3 => ?_⟩
  have e : ns' = sortI xs := sorted_one (h1.trans (sortI_perm xs).symm) h2 (sortI_sorted xs)
  subst e
  exact q p h3
theorem sortI_len {xs ys : List Int} (h : pL pI xs v H) (e : sortIM xs = some ys) : ys.length ≤ sizeLine := by
  obtain ⟨a, vs, rfl, h, ha, hl⟩ := h
  cases e
  rw [(sortI_perm xs).length_eq]; exact hl
end
end MK

namespace MK
open PySem PySem.Spec L2
section
variable {X : Cx} {σ : St} {H G : Hp} {Q : VK} {te : TE} {K : PySem.W.Frag} {v : V} {α : Type} {R : Rep α}
theorem revPick (l : List Nat) : ((Builtin.Str.strSliceIndices none none (-1) (sS l).length).filterMap ((sS l).cps[·]?)).toArray = l.reverse.toArray := by
  rw [PyProof.Rows.picked_rev, sS_len]
  congr 1
  have e : (List.range l.length).map (fun k => l.length - 1 - k) = (List.range l.length).reverse := PySem.W.krv_range l.length
  rw [e, List.filterMap_reverse]
  congr 1
  have e2 : (fun i : Nat => (sS l).cps[i]?) = fun i : Nat => l[i]? := by funext i; simp [sS]
  rw [e2]
  clear e e2
  induction l with
  | nil => rfl
  | cons a t ih =>
    rw [List.length_cons, List.range_succ_eq_map, List.filterMap_cons, List.filterMap_map]
    simp only [List.getElem?_cons_zero]
    congr 1
/-- text[::-1] -/
def tRevS (te : TE) : TE := fun σ H Q => te σ H fun x H1 => ∃ l, x = vS l ∧ l.length ≤ sizeLine ∧ Q (vS l.reverse) H1
theorem pe_revS {e : Expr} {te : TE} {k : Nat} {p1 p2 p3 pos : Pos} (he : PE X e te) : PE X (.Subscript e (.Slice none none (some (.UnaryOp .USub (.Constant (.int 1) k p1) p2)) p3) pos) (tRevS te) := by
  refine ⟨fun pins s σ H Q I h => ?_⟩
  refine PyProof.Rows.Subscript_ (thn (he.run pins s σ H _ I h) fun v s1 ⟨x, H1, I1, r1, q1⟩ => ?_)
  obtain ⟨a, ex, hx, q⟩ := q1
  subst ex
  obtain ⟨t, rfl⟩ := r1
  have hst : PO X (some (.UnaryOp .USub (.Constant (.int 1) k p1) p2)) (tPart (tUn (rU fun i => .int (-i)) (tC (.int 1)))) := po_some (pe_un un_neg pe_int)
  refine wpAny_Slice (thn (po_none.run pins s1 σ H1 (fun o H2 => o = none ∧ H2 = H1) I1 ⟨rfl, rfl⟩) fun vl s2 ⟨l, H2, I2, pl, el, e2⟩ => ?_)
  subst el e2
  refine thn (po_none.run pins s2 σ H2 (fun o H3 => o = none ∧ H3 = H2) I2 ⟨rfl, rfl⟩) fun vu s3 ⟨u, H3, I3, pu, eu, e3⟩ => ?_
  subst eu e3
  refine thn (hst.run pins s3 σ H3 (fun o H4 => o = some (-1) ∧ H4 = H3) I3 ⟨1, rfl, -1, rfl, rfl, rfl⟩) fun vs s4 ⟨o, H4, I4, ps, eo, e4⟩ => ?_
  subst eo e4
  have I5 : Inv X pins σ H4 { s4 with heap := s4.heap.push { cls := .type "slice", data := .fields #[vl, vu, vs] } } := I4.kept (t' := s4.toks) fun b ob q => Heap.get?_push_of_some _ q
  obtain ⟨l, rfl, hl⟩ := IsPart.raw pl
  obtain ⟨u, rfl, hu⟩ := IsPart.raw pu
  obtain ⟨st, rfl, hst⟩ := IsPart.raw ps
  show wpAny (model X.prog X.w) X.A (PyProof.Rows.subscriptTail e (.Slice none none (some (.UnaryOp .USub (.Constant (.int 1) k p1) p2)) p3) (.str (sS a) t) (.ref s4.heap.objs.size)) (EP X pins σ Q) X.xe { s4 with heap := s4.heap.push { cls := .type "slice", data := .fields #[partValue l, partValue u, partValue st] } }
  refine PyProof.Rows.tail_any (ops := [.str (sS a) t, .ref s4.heap.objs.size]) (typeIs_str _ _ _) (F.slot_str_getitem.lookup) ?_ (by with_unfolding_all rfl)
  have z := Heap.IsSliceOf.new s4.heap (partValue l) (partValue u) (partValue st)
  obtain ⟨os, hos, hcs, hds⟩ := z
  refine wpAny_getItem_str_slice (l := l) (u := u) (st := st) ⟨os, hos, hcs, hds⟩ (by rw [hst]; rfl) ?_
  show Made.post (if ((st.map (·.1)).getD 1 == 1 && (Builtin.Str.strSliceIndices (l.map (·.1)) (u.map (·.1)) ((st.map (·.1)).getD 1) (sS a).length).length == (sS a).length) = true then Made.val (.str (sS a) t)
    else Made.str ⟨((Builtin.Str.strSliceIndices (l.map (·.1)) (u.map (·.1)) ((st.map (·.1)).getD 1) (sS a).length).filterMap ((sS a).cps[·]?)).toArray⟩) (EP X pins σ Q) _
  rw [hl, hu, hst]
  show Made.post (if ((-1 : Int) == 1 && (Builtin.Str.strSliceIndices none none (-1) (sS a).length).length == (sS a).length) = true then Made.val (.str (sS a) t)
    else Made.str ⟨((Builtin.Str.strSliceIndices none none (-1) (sS a).length).filterMap ((sS a).cps[·]?)).toArray⟩) (EP X pins σ Q) _
  rw [if_neg (by simp), revPick]
  exact ⟨by show (sS a.reverse).length ≤ sizeLine; rw [sS_len, List.length_reverse]; exact hx, .str (sS a.reverse), H4, I5.tok _, ⟨_, rfl⟩, q⟩
theorem ev_revS {l : List Nat} (h : EV te σ H (vS l)) (hl : OkS l) : EV (tRevS te) σ H (vS l.reverse) := fun Q q => h _ ⟨l, rfl, hl.len, q⟩
theorem cps_revL (h : te σ H fun x H1 => ∃ a xs, x = .ref a ∧ SqL K H1 a xs ∧ ∀ p, H1 p = none → Q (.ref p) (upd H1 p (.lst xs.reverse))) : tRevL K te σ H Q := h
theorem k_revL {xs : List α} (h : ∃ vs, GotL R G H xs v vs) : ∃ vs, All2 R G xs.reverse vs ∧ xs.reverse.length ≤ sizeLine ∧ ∀ Q : VK, (∀ p, H p = none → Q (.ref p) (upd H p (.lst vs))) → (∃ a xs, v = .ref a ∧ SqL K H a xs ∧ ∀ p, H p = none → Q (.ref p) (upd H p (.lst xs.reverse))) := by
  obtain ⟨vs, ⟨a, rfl, h⟩, ha, hl⟩ := h
  exact ⟨_, ha.rev, by rw [List.length_reverse]; exact hl, fun Q q => ⟨a, vs, rfl, SqL.of h, q⟩⟩
end
end MK

namespace MK
open PySem PySem.Spec L2
section
variable {H : Hp}
theorem k_add (i j : Int) : ∀ Q : VK, Q (.int (i + j)) H → rI0 (fun i j => .int (i + j)) (.int i) (.int j) H Q := fun _ q => ⟨i, j, rfl, rfl, q⟩
theorem k_sub (i j : Int) : ∀ Q : VK, Q (.int (i - j)) H → rI0 (fun i j => .int (i - j)) (.int i) (.int j) H Q := fun _ q => ⟨i, j, rfl, rfl, q⟩
theorem k_ltI (i j : Int) : ∀ Q : VK, Q (.bl (decide (i < j))) H → rI0 (fun i j => .bl (decide (i < j))) (.int i) (.int j) H Q := fun _ q => ⟨i, j, rfl, rfl, q⟩
theorem k_leI (i j : Int) : ∀ Q : VK, Q (.bl (decide (i ≤ j))) H → rI0 (fun i j => .bl (decide (i ≤ j))) (.int i) (.int j) H Q := fun _ q => ⟨i, j, rfl, rfl, q⟩
theorem k_gtI (i j : Int) : ∀ Q : VK, Q (.bl (decide (j < i))) H → rI0 (fun i j => .bl (decide (j < i))) (.int i) (.int j) H Q := fun _ q => ⟨i, j, rfl, rfl, q⟩
theorem k_geI (i j : Int) : ∀ Q : VK, Q (.bl (decide (j ≤ i))) H → rI0 (fun i j => .bl (decide (j ≤ i))) (.int i) (.int j) H Q := fun _ q => ⟨i, j, rfl, rfl, q⟩
theorem k_mulC (i j : Int) (h : CMul i j) : ∀ Q : VK, Q (.int (i * j)) H → rI CMul (fun i j => .int (i * j)) (.int i) (.int j) H Q := fun _ q => ⟨i, j, rfl, rfl, h, q⟩
theorem k_mulW (i j : Int) (h : i.natAbs.log2 + j.natAbs.log2 < 1000000) : ∀ Q : VK, Q (.int (i * j)) H → rI CMulW (fun i j => .int (i * j)) (.int i) (.int j) H Q := fun _ q => ⟨i, j, rfl, rfl, h, q⟩
theorem k_fdivC (i j : Int) (h : CDiv i j) : ∀ Q : VK, Q (.int (i / j)) H → rI CDiv (fun i j => .int (i / j)) (.int i) (.int j) H Q := fun _ q => ⟨i, j, rfl, rfl, h, q⟩
theorem k_modC (i j : Int) (h : 0 < j) : ∀ Q : VK, Q (.int (i % j)) H → rI (fun _ j => 0 < j) (fun i j => .int (i % j)) (.int i) (.int j) H Q := fun _ q => ⟨i, j, rfl, rfl, h, q⟩
theorem k_powC (i j : Int) (h : 0 ≤ j ∧ (Builtin.Int.intBits i : Int) * j ≤ 2 ^ 27) : ∀ Q : VK, Q (.int (i ^ j.toNat)) H → rI CPowX (fun i j => .int (i ^ j.toNat)) (.int i) (.int j) H Q := fun _ q => ⟨i, j, rfl, rfl, h, q⟩
end
theorem lenle {n : Nat} (h : Nat.ble n 16777216 = true) : n ≤ sizeLine := by rw [sizeLine_16]; exact Nat.le_of_ble_eq_true h
/-! rules that name K -/
section
variable {X : Cx} {K : PySem.W.Frag} (hK : X.K = K)
include hK
theorem ix_listK : IxR X (rIxL K) := by subst hK; exact ix_list
theorem ix_tupK : IxR X (rIxT K) := by subst hK; exact ix_tup
theorem sl_listK : SlR X (rSlL K) := by subst hK; exact sl_list
theorem op_inK : OpR X (compareOp .In) (rIn K false) := by subst hK; exact op_in_seq
theorem op_ninK : OpR X (compareOp .NotIn) (rIn K true) := by subst hK; exact op_notIn_seq
theorem op_eqDK (hu : X.A.units + 64 < cLine) : OpR X (compareOp .Eq) (rEqD K) := by subst hK; exact op_eqD hu
theorem op_neDK (hu : X.A.units + 64 < cLine) : OpR X (compareOp .NotEq) (rNeD K) := by subst hK; exact op_neD hu
theorem op_catAK : OpR X (binaryOp .Add) (rCatA K) := by subst hK; exact op_catA
theorem call_lenK : CallR X (.builtin "len") (fun xs H Q => ∃ p ys, xs = [.ref p] ∧ (SqL K H p ys ∨ SqT K H p ys) ∧ Q (.int ys.length) H) := by subst hK; exact call_len_seq
theorem call_listK : CallR X (.type "list") (fun xs H Q => ∃ p ys, xs = [.ref p] ∧ (SqL K H p ys ∨ SqT K H p ys) ∧ ∀ l, H l = none → Q (.ref l) (upd H l (.lst ys))) := by subst hK; exact call_list_of
theorem cr_anyK (hc : X.calm = true) : CallR X (.builtin "any") (rAny K) := by subst hK; exact cr_any hc
theorem cr_allK (hc : X.calm = true) : CallR X (.builtin "all") (rAll K) := by subst hK; exact cr_all hc
theorem cr_sumK (hc : X.calm = true) : CallR X (.builtin "sum") (rSum K) := by subst hK; exact cr_sum hc
theorem cr_sortedIK : CallR X (.builtin "sorted") (rSortedI K) := by subst hK; exact cr_sortedI
theorem cr_sortedSK : CallR X (.builtin "sorted") (rSortedS K) := by subst hK; exact cr_sortedS
theorem call_isK : CallR X (.builtin "isinstance") (rIsi K) := by subst hK; exact call_isi
theorem pi_listK {tg l : Expr} {tl : TE} (hl : PE X l tl) : PI X tg l (iList K tl) := by subst hK; exact pi_list hl
theorem pi_tupK {tg l : Expr} {tl : TE} (hl : PE X l tl) : PI X tg l (iTup K tl) := by subst hK; exact pi_tup hl
theorem pg_K {tg : Expr} {n : Nat} {t : TGs} (h : PG X tg (gTup X.K n t)) : PG X tg (gTup K n t) := by subst hK; exact h
theorem pe_joinK {e : Expr} {to te : TE} (h : PE X e (tM1 (fun x xs H Q => ∃ a p, ∃ ys : List Str, x = .str a ∧ xs = [.ref p] ∧ (SqL X.K H p (ys.map V.str) ∨ SqT X.K H p (ys.map V.str)) ∧ (ys.map (·.length)).sum + ys.length * a.length ≤ 16777216 ∧ Q (.str (Txt.join a ys)) H) to te)) :
    PE X e (tM1 (fun x xs H Q => ∃ a p, ∃ ys : List Str, x = .str a ∧ xs = [.ref p] ∧ (SqL K H p (ys.map V.str) ∨ SqT K H p (ys.map V.str)) ∧ (ys.map (·.length)).sum + ys.length * a.length ≤ 16777216 ∧ Q (.str (Txt.join a ys)) H) to te) := by subst hK; exact h
theorem pe_revLK {e : Expr} {te : TE} {k : Nat} {p1 p2 p3 pos : Pos} (he : PE X e te) : PE X (.Subscript e (.Slice none none (some (.UnaryOp .USub (.Constant (.int 1) k p1) p2)) p3) pos) (tRevL K te) := by subst hK; exact pe_revL he
theorem pe_bmK {T : String} {r : V → List V → Hp → VK → Prop} {e : Expr} {to : TE} {t : TA} (h : PE X e (tBM X.K T r to t)) : PE X e (tBM K T r to t) := by subst hK; exact h
theorem pe_bm0K {T : String} {r : V → List V → Hp → VK → Prop} {e : Expr} {to : TE} (h : PE X e (tBM0 X.K T r to)) : PE X e (tBM0 K T r to) := by subst hK; exact h
end
section
variable {J : It} {n : Nat} {G : Hp → Prop} {Y : Nat → Hp → V → Hp → Prop} {α β ρ S : Type}
theorem loop_w3 (w : Walk J n G Y) {xs : List α} (hn : xs.length = n) {f : α → S → Option (Ctl ρ S)} {s0 : S} {res : Ctl ρ S} (hm : loopM f xs s0 = some res)
    {g : TG} {tb rest : TS} {D : Ends} {σ : St} {H : Hp} (P : S → St → Hp → Prop) (h0 : P s0 σ H) (hG : ∀ s σ H, P s σ H → G H)
    (turn : ∀ (i : Nat) x s c v σ H H', xs[i]? = some x → f x s = some c → (∀ r, c = .rt r → res = .rt r) → P s σ H → Y i H v H' →
      ∀ N : St → Hp → Prop, (∀ s' σ' H', c = .nx s' → P s' σ' H' → N σ' H') → (∀ s' σ' H', c = .bk s' → P s' σ' H' → rest D σ' H') → g v σ H' fun σ2 H2 => tb { D with nx := N, ct := N, bk := rest D } σ2 H2)
    (done : ∀ s' σ H, res = .nx s' → P s' σ H → rest D σ H) : ForG J g tb { D with nx := rest D } σ H :=
  loop_w2 w hn hm P h0 hG turn done
theorem fold_w3 (w : Walk J n G Y) {xs : List α} (hn : xs.length = n) {f : α → S → Option S} {s0 res : S} (hm : foldO f xs s0 = some res)
    {g : TG} {tb rest : TS} {D : Ends} {σ : St} {H : Hp} (P : S → St → Hp → Prop) (h0 : P s0 σ H) (hG : ∀ s σ H, P s σ H → G H)
    (turn : ∀ (i : Nat) x s s' v σ H H', xs[i]? = some x → f x s = some s' → P s σ H → Y i H v H' →
      ∀ N : St → Hp → Prop, (∀ σ' H', P s' σ' H' → N σ' H') → g v σ H' fun σ2 H2 => tb { D with nx := N, ct := N, bk := rest D } σ2 H2)
    (done : ∀ σ H, P res σ H → rest D σ H) : ForG J g tb { D with nx := rest D } σ H := fold_w2 w hn hm P h0 hG turn done
theorem cps_nextR {D : Ends} {rest : TS} {σ : St} {H : Hp} (h : rest D σ H) : tNext { D with nx := rest D } σ H := h
theorem cut_if4 {ts tsu rest : TS} {D : Ends} {σ : St} {H : Hp} {P : St → Hp → Prop} (b : Bool) (h1 : b = true → ∀ N' : St → Hp → Prop, (∀ σ' H', P σ' H' → N' σ' H') → ts { D with nx := N' } σ H) (h2 : b = false → ∀ N' : St → Hp → Prop, (∀ σ' H', P σ' H' → N' σ' H') → tsu { D with nx := N' } σ H)
    (k : ∀ σ' H', P σ' H' → rest D σ' H') : if b = true then ts { D with nx := rest D } σ H else tsu { D with nx := rest D } σ H := cut_if b k h1 h2
end
end MK

namespace MK
open PySem PySem.Spec L2
/-! readings by name -/
abbrev RC := List V → Hp → VK → Prop
def rCatS : R2 := fun x y H Q => ∃ i j, x = .str i ∧ y = .str j ∧ i.length + j.length ≤ sizeLine ∧ Q (.str (i ++ j)) H
def rLtS : R2 := fun x y H Q => ∃ i j, x = .str i ∧ y = .str j ∧ Q (.bl (decide (i.cps.toList < j.cps.toList))) H
def rLeS : R2 := fun x y H Q => ∃ i j, x = .str i ∧ y = .str j ∧ Q (.bl (!decide (j.cps.toList < i.cps.toList))) H
def rGtS : R2 := fun x y H Q => ∃ i j, x = .str i ∧ y = .str j ∧ Q (.bl (decide (j.cps.toList < i.cps.toList))) H
def rGeS : R2 := fun x y H Q => ∃ i j, x = .str i ∧ y = .str j ∧ Q (.bl (!decide (i.cps.toList < j.cps.toList))) H
def rInS' : R2 := fun x y H Q => ∃ i j, x = .str i ∧ y = .str j ∧ Q (.bl (!(Builtin.Str.occurrences j i 0 j.length 1).isEmpty)) H
def rNinS' : R2 := fun x y H Q => ∃ i j, x = .str i ∧ y = .str j ∧ Q (.bl (!(!(Builtin.Str.occurrences j i 0 j.length 1).isEmpty))) H
def rIsNo : R2 := fun x y H Q => y = .non ∧ Q (.bl (decide (x = .non))) H
def rNotNo : R2 := fun x y H Q => y = .non ∧ Q (.bl (!decide (x = .non))) H
def rLenS : RC := fun xs H Q => ∃ z, xs = [.str z] ∧ z.length ≤ sizeLine ∧ Q (.int z.length) H
def rLenQ (K : PySem.W.Frag) : RC := fun xs H Q => ∃ p ys, xs = [.ref p] ∧ (SqL K H p ys ∨ SqT K H p ys) ∧ Q (.int ys.length) H
def rLenDK : RC := fun xs H Q => ∃ a kvs, xs = [V.ref a] ∧ H a = some (.dK kvs) ∧ Q (.int kvs.length) H
def rAbs : RC := fun xs H Q => ∃ i, xs = [.int i] ∧ Q (.int (if i < 0 then -i else i)) H
def rMin2 : RC := fun xs H Q => ∃ i j, xs = [.int i, .int j] ∧ Q (.int (if j < i then j else i)) H
def rMax2 : RC := fun xs H Q => ∃ i j, xs = [.int i, .int j] ∧ Q (.int (if j > i then j else i)) H
def rInt1 : RC := fun xs H Q => (∃ i, xs = [.int i] ∧ Q (.int i) H) ∨ ∃ k, xs = [.bl k] ∧ Q (.int (if k = true then 1 else 0)) H
def rListOf (K : PySem.W.Frag) : RC := fun xs H Q => ∃ p ys, xs = [.ref p] ∧ (SqL K H p ys ∨ SqT K H p ys) ∧ ∀ l, H l = none → Q (.ref l) (upd H l (.lst ys))
def rJoin (K : PySem.W.Frag) : V → List V → Hp → VK → Prop := fun x xs H Q => ∃ a p, ∃ ys : List Str, x = .str a ∧ xs = [.ref p] ∧ (SqL K H p (ys.map V.str) ∨ SqT K H p (ys.map V.str)) ∧ (ys.map (·.length)).sum + ys.length * a.length ≤ 16777216 ∧ Q (.str (Txt.join a ys)) H
section
variable {X : Cx} {K : PySem.W.Frag}
theorem op_catS : OpR X (binaryOp .Add) rCatS := op_add_str
theorem op_ltS : OpR X (compareOp .Lt) rLtS := op_lt_str
theorem op_leS : OpR X (compareOp .LtE) rLeS := op_le_str
theorem op_gtS : OpR X (compareOp .Gt) rGtS := op_gt_str
theorem op_geS : OpR X (compareOp .GtE) rGeS := op_ge_str
theorem op_inStr : OpR X (compareOp .In) rInS' := op_in_str
theorem op_ninStr : OpR X (compareOp .NotIn) rNinS' := op_notin_str
theorem op_isNo : OpR X (compareOp .Is) rIsNo := op_isN
theorem op_notNo : OpR X (compareOp .IsNot) rNotNo := op_notN
theorem call_lenS : CallR X (.builtin "len") rLenS := call_len_str
theorem call_lenQ (hK : X.K = K) : CallR X (.builtin "len") (rLenQ K) := call_lenK hK
theorem call_lenDd : CallR X (.builtin "len") rLenDK := call_lenD
theorem call_absI : CallR X (.builtin "abs") rAbs := call_abs
theorem call_min2I (hc : X.calm = true) : CallR X (.builtin "min") rMin2 := call_min2 hc
theorem call_max2I (hc : X.calm = true) : CallR X (.builtin "max") rMax2 := call_max2 hc
theorem call_int1I : CallR X (.type "int") rInt1 := by
  intro pins s σ H xs us Q I r h
  exact call_int1 pins s σ H xs us Q I r h
theorem call_listOf (hK : X.K = K) : CallR X (.type "list") (rListOf K) := call_listK hK
theorem pe_joinN {e : Expr} {to te : TE} (hK : X.K = K) (h : PE X e (tM1 (fun x xs H Q => ∃ a p, ∃ ys : List Str, x = .str a ∧ xs = [.ref p] ∧ (SqL X.K H p (ys.map V.str) ∨ SqT X.K H p (ys.map V.str)) ∧ (ys.map (·.length)).sum + ys.length * a.length ≤ 16777216 ∧ Q (.str (Txt.join a ys)) H) to te)) :
    PE X e (tM1 (rJoin K) to te) := by subst hK; exact h
end
section
variable {H : Hp} {K : PySem.W.Frag} {v : V} {α : Type} {R : Rep α} {σ : St} {te to : TE}
theorem kk_cat {a b r : List Nat} (h : catM a b = some r) : ∀ Q : VK, Q (vS r) H → rCatS (vS a) (vS b) H Q := k_cat h
theorem kk_lt (a b : List Nat) : ∀ Q : VK, Q (.bl (decide (a < b))) H → rLtS (vS a) (vS b) H Q := k_ltS a b
theorem kk_le (a b : List Nat) : ∀ Q : VK, Q (.bl (!decide (b < a))) H → rLeS (vS a) (vS b) H Q := k_leS a b
theorem kk_gt (a b : List Nat) : ∀ Q : VK, Q (.bl (decide (b < a))) H → rGtS (vS a) (vS b) H Q := fun Q q => ⟨sS a, sS b, rfl, rfl, by rw [sS_list, sS_list]; exact q⟩
theorem kk_ge (a b : List Nat) : ∀ Q : VK, Q (.bl (!decide (a < b))) H → rGeS (vS a) (vS b) H Q := fun Q q => ⟨sS a, sS b, rfl, rfl, by rw [sS_list, sS_list]; exact q⟩
theorem kk_in (y x : List Nat) : ∀ Q : VK, Q (.bl (inS y x)) H → rInS' (vS y) (vS x) H Q := k_inS y x
theorem kk_nin (y x : List Nat) : ∀ Q : VK, Q (.bl (!inS y x)) H → rNinS' (vS y) (vS x) H Q := k_notinS y x
theorem kk_lenS {l : List Nat} (h : OkS l) : ∀ Q : VK, Q (.int (l.length : Int)) H → rLenS [vS l] H Q := k_lenS h
theorem kk_lenL {xs : List α} (h : pL R xs v H) : ∀ Q : VK, Q (.int (xs.length : Int)) H → rLenQ K [v] H Q := k_lenL h
theorem kk_lenScr {ns : List Int} (h : pScr K ns v H) : ∀ Q : VK, Q (.int (ns.length : Int)) H → rLenQ K [v] H Q := k_lenScr h
theorem kk_abs (i : Int) : ∀ Q : VK, Q (.int (if i < 0 then -i else i)) H → rAbs [V.int i] H Q := k_abs i
theorem kk_min2 (i j : Int) : ∀ Q : VK, Q (.int (if j < i then j else i)) H → rMin2 [V.int i, V.int j] H Q := k_min2 i j
theorem kk_max2 (i j : Int) : ∀ Q : VK, Q (.int (if j > i then j else i)) H → rMax2 [V.int i, V.int j] H Q := k_max2 i j
theorem kk_intB (b : Bool) : ∀ Q : VK, Q (.int (if b = true then 1 else 0)) H → rInt1 [V.bl b] H Q := k_intB b
theorem kk_intI (i : Int) : ∀ Q : VK, Q (.int i) H → rInt1 [V.int i] H Q := k_intI i
variable {G G' : Hp}
theorem kk_listL {xs : List α} (h : ∃ vs, GotL R G H xs v vs) : ∃ vs, All2 R G xs vs ∧ xs.length ≤ sizeLine ∧ ∀ Q : VK, (∀ p, H p = none → Q (.ref p) (upd H p (.lst vs))) → rListOf K [v] H Q := k_listL h
theorem kk_join {s r : List Nat} {ys : List (List Nat)} (h : pL pS ys v H) (e : joinM s ys = some r) : ∀ Q : VK, Q (vS r) H → rJoin K (vS s) [v] H Q := k_join h e
theorem ev_joinN {s r : List Nat} {ys : List (List Nat)} (h1 : EV to σ H (vS s)) (h2 : EV te σ H v) (h : pL pS ys v H) (e : joinM s ys = some r) : EV (tM1 (rJoin K) to te) σ H (vS r) := ev_join h1 h2 h e
/-! optional things -/
class Nv {α : Type} (R : Rep α) : Prop where
  nv : ∀ {x v H}, R x v H → v ≠ .non
instance : Nv pI := ⟨fun h e => by rw [show _ = _ from h] at e; cases e⟩
instance : Nv pB := ⟨fun h e => by rw [show _ = _ from h] at e; cases e⟩
instance : Nv pS := ⟨fun h e => by rw [show _ = _ from h.1] at e; cases e⟩
instance {R : Rep α} : Nv (pL R) := ⟨fun ⟨_, _, h, _⟩ e => by rw [h] at e; cases e⟩
instance {β : Type} {R : Rep α} {S : Rep β} : Nv (pT2 R S) := ⟨fun ⟨_, _, _, h, _⟩ e => by rw [h] at e; cases e⟩
instance {β γ : Type} {R : Rep α} {S : Rep β} {T : Rep γ} : Nv (pT3 R S T) := ⟨fun ⟨_, _, _, _, h, _⟩ e => by rw [h] at e; cases e⟩
theorem isO [Nv R] {o : Option α} (h : pO R o v G) : decide (v = .non) = o.isNone := by
  cases o with
  | none => rw [show v = .non from h]; rfl
  | some x => exact decide_eq_false (Nv.nv (R := R) h)
theorem k_isO [Nv R] {o : Option α} (h : pO R o v G) : ∀ Q : VK, Q (.bl o.isNone) H → rIsNo v .non H Q := fun Q q => ⟨rfl, by rw [isO h]; exact q⟩
theorem k_notO [Nv R] {o : Option α} (h : pO R o v G) : ∀ Q : VK, Q (.bl (!o.isNone)) H → rNotNo v .non H Q := fun Q q => ⟨rfl, by rw [isO h]; exact q⟩
theorem eqO_aux {o p : Option Int} {v w : V} (h1 : pO pI o v G) (h2 : pO pI p w G') : scal v w = true ∧ decide (v = w) = decide (o = p) := by
  cases o with
  | none =>
    rw [show v = .non from h1]
    cases p with
    | none => rw [show w = .non from h2]; exact ⟨rfl, rfl⟩
    | some x => rw [show w = .int x from h2]; exact ⟨rfl, by simp⟩
  | some y =>
    rw [show v = .int y from h1]
    cases p with
    | none => rw [show w = .non from h2]; exact ⟨rfl, by simp⟩
    | some x => rw [show w = .int x from h2]; exact ⟨rfl, by by_cases e : y = x <;> simp [e]⟩
theorem eqOS_aux {o p : Option (List Nat)} {v w : V} (h1 : pO pS o v G) (h2 : pO pS p w G') : scal v w = true ∧ decide (v = w) = decide (o = p) := by
  cases o with
  | none =>
    rw [show v = .non from h1]
    cases p with
    | none => rw [show w = .non from h2]; exact ⟨rfl, rfl⟩
    | some x => rw [show w = vS x from (show pS x w G' from h2).1]; exact ⟨rfl, by simp [vS]⟩
  | some y =>
    rw [show v = vS y from (show pS y v G from h1).1]
    cases p with
    | none => rw [show w = .non from h2]; exact ⟨rfl, by simp [vS]⟩
    | some x => rw [show w = vS x from (show pS x w G' from h2).1]; exact ⟨rfl, by rw [vS_eq]; by_cases e : y = x <;> simp [e]⟩
theorem k_eqOI {o p : Option Int} {v w : V} (h1 : pO pI o v G) (h2 : pO pI p w G') : ∀ Q : VK, Q (.bl (decide (o = p))) H → rEq v w H Q := fun Q q => ⟨(eqO_aux h1 h2).1, by rw [(eqO_aux h1 h2).2]; exact q⟩
theorem k_neOI {o p : Option Int} {v w : V} (h1 : pO pI o v G) (h2 : pO pI p w G') : ∀ Q : VK, Q (.bl (!decide (o = p))) H → rNe v w H Q := fun Q q => ⟨(eqO_aux h1 h2).1, by rw [(eqO_aux h1 h2).2]; exact q⟩
theorem k_eqOS {o p : Option (List Nat)} {v w : V} (h1 : pO pS o v G) (h2 : pO pS p w G') : ∀ Q : VK, Q (.bl (decide (o = p))) H → rEq v w H Q := fun Q q => ⟨(eqOS_aux h1 h2).1, by rw [(eqOS_aux h1 h2).2]; exact q⟩
theorem k_neOS {o p : Option (List Nat)} {v w : V} (h1 : pO pS o v G) (h2 : pO pS p w G') : ∀ Q : VK, Q (.bl (!decide (o = p))) H → rNe v w H Q := fun Q q => ⟨(eqOS_aux h1 h2).1, by rw [(eqOS_aux h1 h2).2]; exact q⟩
end
end MK

namespace MN
open PySem L2 MK
/-- it ends, and what it gives has the property -/
def Hd {α : Type} (o : Option α) (P : α → Prop) : Prop := ∃ x, o = some x ∧ P x
section
variable {α β σ ρ : Type}
theorem Hd.bind {o : Option α} {f : α → Option β} {P : α → Prop} {Q : β → Prop} (h : Hd o P) (k : ∀ x, P x → Hd (f x) Q) : Hd (o.bind f) Q := by
  obtain ⟨x, rfl, hx⟩ := h
  exact k x hx
theorem Hd.step {o : Option α} {x : α} {f : α → Option β} {Q : β → Prop} (e : o = Option.some x) (h : Hd (f x) Q) : Hd (o.bind f) Q := by rw [e]; exact h
theorem Hd.ret {x : α} {P : α → Prop} (h : P x) : Hd (some x) P := ⟨x, rfl, h⟩
theorem Hd.sb {x : α} {f : α → Option β} {Q : β → Prop} (h : Hd (f x) Q) : Hd ((some x).bind f) Q := h
theorem Hd.mono {o : Option α} {P Q : α → Prop} (h : Hd o P) (k : ∀ x, P x → Q x) : Hd o Q := by
  obtain ⟨x, e, hx⟩ := h
  exact ⟨x, e, k x hx⟩
theorem Hd.eq {o : Option α} {x : α} (h : o = some x) : Hd o (· = x) := ⟨x, h, rfl⟩
theorem Hd.to {o : Option α} {x : α} (h : Hd o (· = x)) : o = some x := by
  obtain ⟨y, e, rfl⟩ := h
  exact e
theorem Hd.ite {b : Bool} {A B : Option α} {P : α → Prop} (h1 : b = true → Hd A P) (h2 : b = false → Hd B P) : Hd (if b = true then A else B) P := by
  cases b with
  | true => exact h1 rfl
  | false => exact h2 rfl
theorem Hd.ited {c : Prop} [Decidable c] {A B : Option α} {P : α → Prop} (h1 : c → Hd A P) (h2 : ¬c → Hd B P) : Hd (if decide c = true then A else B) P := by
  by_cases h : c
  · rw [if_pos (decide_eq_true h)]; exact h1 h
  · rw [if_neg (by simpa using h)]; exact h2 h
theorem Hd.nd {c : Prop} [Decidable c] {x : α} {P : α → Prop} (h : c) (hp : P x) : Hd (if decide c = true then Option.some x else none) P := by
  rw [if_pos (decide_eq_true h)]; exact ⟨x, rfl, hp⟩
theorem hd_mod {i j : Int} (h : 0 < j) : Hd (modM i j) (fun r => r = i % j ∧ 0 ≤ r ∧ r < j) := Hd.nd h ⟨rfl, Int.emod_nonneg _ (by omega), Int.emod_lt_of_pos _ h⟩
theorem hd_fdiv {i j : Int} (h : 0 < j) (h2 : j < 1073741824) : Hd (fdivM i j) (fun r => r = i / j) := Hd.nd ⟨h, h2⟩ rfl
theorem log_lt {i : Int} {n : Nat} (h : i.natAbs < 2 ^ n) : i.natAbs.log2 ≤ n := by
  by_cases z : i.natAbs = 0
  · rw [z]; simp
  · exact Nat.le_of_lt ((Nat.log2_lt z).mpr h)
theorem hd_mul {i j : Int} {n m : Nat} (h : i.natAbs < 2 ^ n) (h2 : j.natAbs < 2 ^ m) (k : n + m < 1000000) : Hd (mulM i j) (fun r => r = i * j) := by
  have a := log_lt h
  have b := log_lt h2
  exact Hd.nd (by omega) rfl
theorem hd_mul_s {i j : Int} (h : -(2 ^ 64) < i ∧ i < 2 ^ 64) (h2 : -(2 ^ 64) < j ∧ j < 2 ^ 64) : Hd (mulM i j) (fun r => r = i * j) :=
  hd_mul (n := 64) (m := 64) (by omega) (by omega) (by omega)
theorem bits_le {i : Int} {n : Nat} (h : i.natAbs < 2 ^ n) : Builtin.Int.intBits i ≤ n := by
  unfold Builtin.Int.intBits
  split
  · omega
  · rename_i hz
    have := (Nat.log2_lt (n := i.natAbs) (k := n) (by simpa using hz)).mpr h
    omega
theorem hd_pow {i j : Int} (h : i.natAbs < 2 ^ 64) (h0 : 0 ≤ j) (h1 : j ≤ 64) : Hd (powM i j) (fun r => r = i ^ j.toNat) := by
  have a := bits_le h
  refine Hd.nd ⟨h0, ?_⟩ rfl
  have e : (Builtin.Int.intBits i : Int) * j ≤ 64 * 64 := Int.mul_le_mul (by omega) h1 h0 (by omega)
  omega
theorem hd_cat {a b : List Nat} (h : a.length + b.length ≤ 16777216) : Hd (catM a b) (fun r => r = a ++ b) := Hd.nd (by rw [sizeLine_16]; exact h) rfl
theorem hd_rep {l : List Nat} {n : Int} {m k : Nat} (h1 : l.length ≤ m) (h2 : n ≤ k) (h3 : -(2 ^ 63) ≤ n) (h4 : k < 2 ^ 62) (h5 : m * k ≤ 16777216) : Hd (repM l n) (fun r => r = (List.replicate n.toNat l).flatten ∧ r.length = n.toNat * l.length) := by
  refine Hd.nd ⟨h3, by omega, ?_⟩ ⟨rfl, ?_⟩
  · rw [sizeLine_16]
    exact Nat.le_trans (Nat.mul_le_mul h1 (by omega)) h5
  · rw [List.length_flatten, List.map_replicate, List.sum_replicate_nat]
theorem hd_rng1 {n : Int} (h1 : -(2 ^ 60) ≤ n) (h : n ≤ 16777216) : Hd (rng1M n) (fun r => r = rangeL 0 n.toNat) := Hd.nd (by rw [sizeLine_16]; omega) rfl
theorem hd_rng {lo hi : Int} (h1 : -(2 ^ 60) ≤ lo) (h2 : -(2 ^ 60) ≤ hi) (h3 : lo < 2 ^ 60) (h4 : hi < 2 ^ 60) (h : hi - lo ≤ 16777216) : Hd (rngM lo hi) (fun r => r = rangeL lo (hi - lo).toNat) := Hd.nd (by rw [sizeLine_16]; omega) rfl
theorem mem_rangeL {x lo : Int} {n : Nat} : x ∈ rangeL lo n ↔ lo ≤ x ∧ x < lo + n := by
  unfold rangeL
  rw [List.mem_map]
  constructor
  · rintro ⟨i, hi, rfl⟩
    have := List.mem_range.mp hi
    omega
  · rintro ⟨h1, h2⟩
    exact ⟨(x - lo).toNat, List.mem_range.mpr (by omega), by omega⟩
theorem ix_at {xs : List α} {i : Int} (h0 : 0 ≤ i) (h1 : i < xs.length) : ∃ x, idxM xs i = some x ∧ xs[i.toNat]? = some x := by
  have hl : i.toNat < xs.length := by omega
  refine ⟨xs[i.toNat], ?_, by simp [hl]⟩
  unfold idxM L2.atI
  have e : L2.ixN xs.length i = some i.toNat := by
    unfold L2.ixN
    rw [if_pos h0, if_pos h1]
  rw [e]
  show xs[i.toNat]? = _
  simp [hl]
theorem hd_idx {xs : List α} {i : Int} (h0 : 0 ≤ i) (h1 : i < xs.length) : Hd (idxM xs i) (fun x => x ∈ xs ∧ xs[i.toNat]? = some x) := by
  obtain ⟨x, e, e2⟩ := ix_at h0 h1
  exact ⟨x, e, List.mem_of_getElem? e2, e2⟩
theorem hd_sidx {l : List Nat} {i : Int} (h0 : 0 ≤ i) (h1 : i < l.length) : Hd (sidxM l i) (fun t => t.length = 1 ∧ ∃ c, c ∈ l ∧ t = [c] ∧ l[i.toNat]? = some c) := by
  obtain ⟨c, e, e2⟩ := ix_at h0 h1
  unfold sidxM
  have e' : L2.atI l i = some c := e
  rw [e']
  exact ⟨[c], rfl, rfl, c, List.mem_of_getElem? e2, rfl, e2⟩
theorem hd_join {s : List Nat} {ys : List (List Nat)} (h : (ys.map List.length).sum + ys.length * s.length ≤ 16777216) : Hd (joinM s ys) (fun r => r = TL.joinL s ys) := Hd.nd h rfl
theorem joinL_nil : ∀ ys : List (List Nat), TL.joinL [] ys = ys.flatten
  | [] => rfl
  | [p] => by simp [TL.joinL]
  | p :: q :: r => by
    rw [TL.joinL, joinL_nil (q :: r)]
    simp
theorem hd_app {xs : List α} {y : α} (h : xs.length < 16777216) : Hd (appM xs y) (fun r => r = xs ++ [y]) := Hd.nd (by rw [sizeLine_16]; exact h) rfl
theorem hd_catL {a b : List α} (h : a.length + b.length ≤ 16777216) : Hd (catLM a b) (fun r => r = a ++ b) := Hd.nd (by rw [sizeLine_16]; exact h) rfl
/-! loops -/
theorem Hd.foldO {f : α → σ → Option σ} {I : σ → Prop} : ∀ {xs : List α} {s : σ}, I s → (∀ x ∈ xs, ∀ s, I s → Hd (f x s) I) → Hd (MK.foldO f xs s) I
  | [], s, h, _ => ⟨s, rfl, h⟩
  | x :: xs, s, h, k => Hd.bind (k x (by simp) s h) fun s' h' => Hd.foldO h' fun y hy => k y (List.mem_cons_of_mem _ hy)
/-- a loop that neither breaks nor leaves -/
theorem Hd.loopN {f : α → σ → Option (Ctl ρ σ)} {I : σ → Prop} : ∀ {xs : List α} {s : σ}, I s → (∀ x ∈ xs, ∀ s, I s → Hd (f x s) (fun c => ∃ s', c = .nx s' ∧ I s')) → Hd (MK.loopM f xs s) (fun c => ∃ s', c = .nx s' ∧ I s')
  | [], s, h, _ => ⟨.nx s, rfl, s, rfl, h⟩
  | x :: xs, s, h, k => by
    refine Hd.bind (k x (by simp) s h) ?_
    rintro _ ⟨s', rfl, h'⟩
    exact Hd.loopN h' fun y hy => k y (List.mem_cons_of_mem _ hy)
/-- a loop with every way out -/
theorem Hd.loopM {f : α → σ → Option (Ctl ρ σ)} {I B : σ → Prop} {R : ρ → Prop} : ∀ {xs : List α} {s : σ}, I s → (∀ x ∈ xs, ∀ s, I s → Hd (f x s) (fun c => match c with | .nx s' => I s' | .bk s' => B s' | .rt r => R r)) → Hd (MK.loopM f xs s) (fun c => match c with | .nx s' => I s' ∨ B s' | .bk _ => False | .rt r => R r)
  | [], s, h, _ => ⟨.nx s, rfl, .inl h⟩
  | x :: xs, s, h, k => by
    refine Hd.bind (k x (by simp) s h) ?_
    intro c hc
    match c, hc with
    | .nx s', h' => exact Hd.loopM h' fun y hy => k y (List.mem_cons_of_mem _ hy)
    | .bk s', h' => exact ⟨.nx s', rfl, .inr h'⟩
    | .rt r, h' => exact ⟨.rt r, rfl, h'⟩
theorem Hd.ctl {X : Type} {c : Ctl X σ} {k : σ → Option X} {I : σ → Prop} {P : X → Prop} (h : ∃ s', c = .nx s' ∧ I s') (hk : ∀ s, I s → Hd (k s) P) : Hd (ctlK c k) P := by
  obtain ⟨s', rfl, h'⟩ := h
  exact hk s' h'
/-- comprehensions -/
theorem Hd.mapP {f : α → Option β} {P : β → Prop} : ∀ {xs : List α}, (∀ x ∈ xs, Hd (f x) P) → Hd (MK.mapP f xs) (fun ys => ys.length = xs.length ∧ ∀ y ∈ ys, P y)
  | [], _ => ⟨[], rfl, rfl, by simp⟩
  | x :: xs, k => by
    refine Hd.bind (k x (by simp)) fun y hy => Hd.bind (Hd.mapP fun z hz => k z (List.mem_cons_of_mem _ hz)) fun ys h => ⟨_, rfl, by simp [h.1], ?_⟩
    intro z hz
    rcases List.mem_cons.mp hz with rfl | hz
    · exact hy
    · exact h.2 z hz
theorem mapP_fn {f : α → Option β} {g : α → β} : ∀ {xs : List α}, (∀ x ∈ xs, f x = some (g x)) → MK.mapP f xs = some (xs.map g)
  | [], _ => rfl
  | x :: xs, k => by
    unfold MK.mapP
    rw [k x (by simp), Option.bind_some, mapP_fn fun z hz => k z (List.mem_cons_of_mem _ hz)]
    rfl
theorem lcP_fn {f : α → Option (Option β)} {g : α → Option β} : ∀ {xs : List α}, (∀ x ∈ xs, f x = some (g x)) → MK.lcP f xs = some (xs.filterMap g)
  | [], _ => rfl
  | x :: xs, k => by
    unfold MK.lcP
    rw [k x (by simp), Option.bind_some, lcP_fn fun z hz => k z (List.mem_cons_of_mem _ hz), Option.bind_some, List.filterMap_cons]
    cases g x <;> rfl
theorem Hd.lcP {f : α → Option (Option β)} {P : β → Prop} : ∀ {xs : List α}, (∀ x ∈ xs, Hd (f x) (fun r => ∀ y, r = Option.some y → P y)) → Hd (MK.lcP f xs) (fun ys => ys.length ≤ xs.length ∧ ∀ y ∈ ys, P y)
  | [], _ => ⟨[], rfl, Nat.le_refl _, by simp⟩
  | x :: xs, k => by
    refine Hd.bind (k x (by simp)) fun y hy => Hd.bind (Hd.lcP fun z hz => k z (List.mem_cons_of_mem _ hz)) fun ys h => ⟨_, rfl, ?_⟩
    cases y with
    | none => exact ⟨by have := h.1; simp; omega, h.2⟩
    | some y =>
      refine ⟨by have := h.1; simp; omega, ?_⟩
      intro z hz
      rcases List.mem_cons.mp hz with rfl | hz
      · exact hy _ rfl
      · exact h.2 z hz
theorem Hd.lcS {f : α → σ → Option (Option β × σ)} {I : σ → Prop} {P : β → Prop} : ∀ {xs : List α} {s : σ}, I s → (∀ x ∈ xs, ∀ s, I s → Hd (f x s) (fun r => I r.2 ∧ ∀ y, r.1 = Option.some y → P y)) → Hd (MK.lcS f xs s) (fun r => I r.2 ∧ r.1.length ≤ xs.length ∧ ∀ y ∈ r.1, P y)
  | [], s, h, _ => ⟨([], s), rfl, h, Nat.le_refl _, by simp⟩
  | x :: xs, s, h, k => by
    refine Hd.bind (k x (by simp) s h) fun y hy => Hd.bind (Hd.lcS hy.1 fun z hz => k z (List.mem_cons_of_mem _ hz)) fun ys h => ⟨_, rfl, ?_⟩
    obtain ⟨o, s'⟩ := y
    cases o with
    | none => exact ⟨h.1, by have := h.2.1; simp; omega, h.2.2⟩
    | some y =>
      refine ⟨h.1, by have := h.2.1; simp; omega, ?_⟩
      intro z hz
      rcases List.mem_cons.mp hz with rfl | hz
      · exact hy.2 _ rfl
      · exact h.2.2 z hz
/-- with each item kept -/
theorem Hd.lcSA {f : α → σ → Option (Option β × σ)} {I : σ → Prop} {P : β → Prop} : ∀ {xs : List α} {s : σ}, I s → (∀ x ∈ xs, ∀ s, I s → Hd (f x s) (fun r => I r.2 ∧ ∃ y, r.1 = Option.some y ∧ P y)) → Hd (MK.lcS f xs s) (fun r => I r.2 ∧ r.1.length = xs.length ∧ ∀ y ∈ r.1, P y)
  | [], s, h, _ => ⟨([], s), rfl, h, rfl, by simp⟩
  | x :: xs, s, h, k => by
    refine Hd.bind (k x (by simp) s h) fun y hy => Hd.bind (Hd.lcSA hy.1 fun z hz => k z (List.mem_cons_of_mem _ hz)) fun ys h => ⟨_, rfl, ?_⟩
    obtain ⟨o, s'⟩ := y
    obtain ⟨h1, y, h2, h3⟩ := hy
    cases h2
    refine ⟨h.1, by have := h.2.1; simp; omega, ?_⟩
    intro z hz
    rcases List.mem_cons.mp hz with rfl | hz
    · exact h3
    · exact h.2.2 z hz
/-! cuts -/
theorem cutL_len_le {xs : List α} {lo hi : Option Int} : (cutL xs lo hi).length ≤ xs.length := by
  unfold cutL
  rw [List.length_take, List.length_drop]
  omega
theorem sIx_in {n : Nat} {d : Nat} {i : Int} (h0 : 0 ≤ i) : HT.sIx n d (some i) = min i.toNat n := by
  unfold HT.sIx
  simp only [if_neg (show ¬ i < 0 by omega)]
  try omega
theorem cutL_hi {xs : List α} {i : Int} (h : 0 ≤ i) : cutL xs none (some i) = xs.take i.toNat := by
  unfold cutL
  rw [sIx_in h]
  have e : HT.sIx xs.length 0 none = 0 := rfl
  rw [e, List.drop_zero, Nat.sub_zero]
  by_cases g : i.toNat ≤ xs.length
  · rw [Nat.min_eq_left g]
  · rw [Nat.min_eq_right (by omega), List.take_of_length_le (by omega), List.take_of_length_le (by omega)]
theorem cutL_lo {xs : List α} {i : Int} (h : 0 ≤ i) : cutL xs (some i) none = xs.drop i.toNat := by
  unfold cutL
  rw [sIx_in h]
  have e : HT.sIx xs.length xs.length none = xs.length := rfl
  rw [e]
  by_cases g : i.toNat ≤ xs.length
  · rw [Nat.min_eq_left g, List.take_of_length_le (by rw [List.length_drop]; omega)]
  · rw [Nat.min_eq_right (by omega), Nat.sub_self, List.take_zero, List.drop_of_length_le (by omega)]
theorem cutL_mid {xs : List α} {i j : Int} (h : 0 ≤ i) (h2 : 0 ≤ j) : cutL xs (some i) (some j) = (xs.drop i.toNat).take (j.toNat - i.toNat) := by
  unfold cutL
  rw [sIx_in h, sIx_in h2]
  by_cases g : i.toNat ≤ xs.length
  · rw [Nat.min_eq_left g]
    by_cases g2 : j.toNat ≤ xs.length
    · rw [Nat.min_eq_left g2]
    · rw [Nat.min_eq_right (show xs.length ≤ j.toNat by omega), List.take_of_length_le (by rw [List.length_drop]; omega), List.take_of_length_le (by rw [List.length_drop]; omega)]
  · rw [Nat.min_eq_right (show xs.length ≤ i.toNat by omega), List.drop_of_length_le (Nat.le_refl _), List.drop_of_length_le (show xs.length ≤ i.toNat by omega), List.take_nil, List.take_nil]
end
end MN

namespace Lk02
open PySem L2 MK
def Lit0 : List Nat := [97, 98, 99, 100, 101, 102, 103, 104, 105, 106, 107, 108, 109, 110, 111, 112, 113, 114, 115, 116, 117, 118, 119, 120, 121, 122]
def Lit1 : List Nat := []
def m_law_pot_of (script_1 : (List Int)) (k_4 : Int) : Option (List Int) :=
  (if (decide (k_4 < ((script_1).length : Int))) = true then ((idxM script_1 k_4).bind fun t_11 =>
  (some ((if t_11 < 0 then -t_11 else t_11) % (((10) ^ (Int.toNat (60))) ^ (Int.toNat (4))))).bind fun cell_12 =>
  some cell_12) else (some (0))).bind fun j_7 =>
  (mulM j_7 (if (decide (((10) ^ (Int.toNat (18))) ≤ j_7)) = true then 1 else 0)).bind fun t_17 =>
  (powM (((j_7 % (2147483629)) + ((7919) * k_4)) + (1)) (5)).bind fun t_18 =>
  some ([t_17, (t_18 % (2147483647))])
def m_law_pick (pot_1 : (List Int)) (many_7 : Int) : Option (Int × (List Int)) :=
  (idxM pot_1 (0)).bind fun t_10 =>
  if (decide ((0) < t_10)) = true then ((idxM pot_1 (0)).bind fun t_15 =>
  (modM t_15 many_7).bind fun t_19 =>
  (idxM pot_1 (0)).bind fun t_20 =>
  (fdivM t_20 many_7).bind fun t_24 =>
  (setM pot_1 (0) t_24).bind fun xs_25 =>
  some (t_19, xs_25)) else
  (idxM pot_1 (1)).bind fun t_34 =>
  (setM pot_1 (1) (((t_34 * (69621)) + (12345)) % (2147483647))).bind fun xs_38 =>
  (idxM xs_38 (1)).bind fun t_47 =>
  (idxM xs_38 (1)).bind fun t_51 =>
  (mulM t_47 t_51).bind fun t_55 =>
  (modM ((t_55 % (2147483629)) / (64)) many_7).bind fun t_56 =>
  some (t_56, xs_38)
def m_law_signs_of_c1 (r_7 : (Int × (List Int))) (t_31 : Int) (x_43 : Int) : Option (List Nat) :=
  (mulM t_31 x_43).bind fun t_64 =>
    (sidxM Lit0 ((r_7.1 + t_64) % (26))).bind fun t_65 =>
    some t_65
def m_law_signs_of (pot_1 : (List Int)) : Option ((List (List Nat)) × (List Int)) :=
  (m_law_pick pot_1 (26)).bind fun r_7 =>
  (m_law_pick r_7.2 (8)).bind fun r_21 =>
  (idxM [(1), (3), (5), (7), (9), (11), (15), (25)] r_21.1).bind fun t_31 =>
  (rng1M (26)).bind fun xs_36 =>
  (mapP (m_law_signs_of_c1 r_7 t_31) xs_36).bind fun ys_67 =>
  some (ys_67, r_21.2)
def m_law_standard_text_l1 (many_10 : Int) (x_28 : Int) (s_29 : ((List Nat) × (List Nat) × (List Int))) : Option ((List Nat) × (List Nat) × (List Int)) :=
  (if (decide (((s_29.2.1).length : Int) < many_10)) = true then ((m_law_pick s_29.2.2 (3)).bind fun r_55 =>
  (repM s_29.2.1 ((1) + r_55.1)).bind fun t_65 =>
  (catM t_65 s_29.1).bind fun t_66 =>
  some (s_29.2.1, t_66, r_55.2)) else (some (s_29.1, s_29.2.1, s_29.2.2))).bind fun j_51 =>
    some (j_51.1, j_51.2.1, j_51.2.2)
def m_law_standard_text (pot_1 : (List Int)) (signs_7 : (List (List Nat))) (many_10 : Int) : Option ((List Nat) × (List Int)) :=
  (idxM signs_7 (1)).bind fun t_13 =>
  (idxM signs_7 (0)).bind fun t_18 =>
  (rng1M (10)).bind fun xs_23 =>
  (foldO (m_law_standard_text_l1 many_10) xs_23 (t_13, t_18, pot_1)).bind fun res_43 =>
  some ((cutL res_43.2.1 none (some many_10)), res_43.2.2)
def m_law_text_of_c1 (r_68 : ((List (List Nat)) × (List Int))) (t_99 : Int) (x_111 : Int) (s_125 : ((List Int))) : Option (Option (List Nat) × ((List Int))) :=
  (m_law_pick s_125 t_99).bind fun r_133 =>
    (idxM r_68.1 r_133.1).bind fun t_143 =>
    some (some t_143, r_133.2)
def m_law_text_of (pot_1 : (List Int)) (most_7 : Int) : Option ((List Nat) × (List Int)) :=
  (m_law_pick pot_1 (6)).bind fun r_10 =>
  (m_law_pick r_10.2 (most_7 + (1))).bind fun r_20 =>
  (m_law_pick r_20.2 (6)).bind fun r_30 =>
  (if (decide (r_30.1 = (0))) = true then ((m_law_pick r_30.2 (4)).bind fun r_48 =>
  (idxM [(0), (1), (2), most_7] r_48.1).bind fun t_58 =>
  some (t_58, r_48.2)) else (some (r_20.1, r_30.2))).bind fun j_40 =>
  (m_law_signs_of j_40.2).bind fun r_68 =>
  (m_law_pick r_68.2 (4)).bind fun r_89 =>
  (idxM [(2), (2), (3), (26)] r_89.1).bind fun t_99 =>
  (rng1M j_40.1).bind fun xs_104 =>
  (lcS (m_law_text_of_c1 r_68 t_99) xs_104 r_89.2).bind fun ys_149 =>
  (joinM Lit1 ys_149.1).bind fun t_162 =>
  (if (decide (r_10.1 = (1))) = true then ((idxM r_68.1 (0)).bind fun t_168 =>
  (repM t_168 j_40.1).bind fun t_173 =>
  some t_173) else (some t_162)).bind fun j_164 =>
  (if (decide (r_10.1 = (2))) = true then ((m_law_pick ys_149.2 (5)).bind fun r_183 =>
  (repM (cutL j_164 none (some ((1) + r_183.1))) j_40.1).bind fun t_193 =>
  some ((cutL t_193 none (some j_40.1)), r_183.2)) else (some (j_164, ys_149.2))).bind fun j_179 =>
  (if (decide (r_10.1 = (3))) = true then ((m_law_standard_text j_179.2 r_68.1 j_40.1).bind fun r_204 =>
  some (r_204.1, r_204.2)) else (some (j_179.1, j_179.2))).bind fun j_200 =>
  (if ((decide (r_10.1 = (4))) && (decide ((0) < j_40.1))) = true then ((m_law_pick j_200.2 j_40.1).bind fun r_225 =>
  (idxM r_68.1 (0)).bind fun t_235 =>
  (repM t_235 r_225.1).bind fun t_240 =>
  (idxM r_68.1 (1)).bind fun t_241 =>
  (catM t_240 t_241).bind fun t_246 =>
  (idxM r_68.1 (0)).bind fun t_247 =>
  (repM t_247 ((j_40.1 - r_225.1) - (1))).bind fun t_252 =>
  (catM t_246 t_252).bind fun t_253 =>
  some (t_253, r_225.2)) else (some (j_200.1, j_200.2))).bind fun j_221 =>
  (if (decide (r_10.1 = (5))) = true then ((catM (cutL j_221.1 none (some (j_40.1 / (2)))) (List.reverse (cutL j_221.1 none (some (j_40.1 / (2)))))).bind fun t_265 =>
  (catM t_265 j_221.1).bind fun t_266 =>
  (some (cutL t_266 none (some j_40.1))).bind fun text_267 =>
  some text_267) else (some j_221.1)).bind fun j_261 =>
  some (j_261, j_221.2)
def m_law_word_of (pot_1 : (List Int)) (text_7 : (List Nat)) : Option ((List Nat) × (List Int)) :=
  (m_law_pick pot_1 (6)).bind fun r_11 =>
  (m_law_pick r_11.2 (26)).bind fun r_21 =>
  (sidxM Lit0 r_21.1).bind fun t_31 =>
  if ((decide (text_7 = Lit1)) || (decide (r_11.1 = (5)))) = true then ((m_law_pick r_21.2 (60)).bind fun r_33 =>
  (repM t_31 ((1) + r_33.1)).bind fun t_43 =>
  some (t_43, r_33.2)) else
  (m_law_pick r_21.2 ((text_7).length : Int)).bind fun r_44 =>
  (m_law_pick r_44.2 (((text_7).length : Int) - r_44.1)).bind fun r_54 =>
  (m_law_pick r_54.2 (((cutL text_7 (some r_44.1) (some ((r_44.1 + (1)) + r_54.1)))).length : Int)).bind fun r_64 =>
  if (decide (r_11.1 = (3))) = true then ((catM (cutL (cutL text_7 (some r_44.1) (some ((r_44.1 + (1)) + r_54.1))) none (some r_64.1)) t_31).bind fun t_75 =>
  (catM t_75 (cutL (cutL text_7 (some r_44.1) (some ((r_44.1 + (1)) + r_54.1))) (some (r_64.1 + (1))) none)).bind fun t_76 =>
  some (t_76, r_64.2)) else
  if (decide (r_11.1 = (4))) = true then ((catM (cutL text_7 (some r_44.1) (some ((r_44.1 + (1)) + r_54.1))) t_31).bind fun t_78 =>
  (catM t_78 text_7).bind fun t_79 =>
  some ((cutL t_79 none (some (60))), r_64.2)) else
  if (decide (r_11.1 = (2))) = true then ((m_law_pick r_64.2 (3)).bind fun r_81 =>
  some ((cutL (cutL text_7 (some r_44.1) (some ((r_44.1 + (1)) + r_54.1))) none (some ((1) + r_81.1))), r_81.2)) else
  some ((cutL text_7 (some r_44.1) (some ((r_44.1 + (1)) + r_54.1))), r_64.2)
def m_places_c1 (row_1 : (List Nat)) (word_4 : (List Nat)) (many_9 : Int) (x_17 : Int) : Option (Option Int) :=
  if (decide ((cutL row_1 (some x_17) (some (x_17 + many_9))) = word_4)) = true then (some (some x_17)) else (some none)
def m_places (row_1 : (List Nat)) (word_4 : (List Nat)) : Option (List Int) :=
  (some ((word_4).length : Int)).bind fun many_9 =>
  (rng1M ((((row_1).length : Int) - many_9) + (1))).bind fun xs_10 =>
  (lcP (m_places_c1 row_1 word_4 many_9) xs_10).bind fun ys_40 =>
  some ys_40
def m_law_whole (thing_1 : Int) : Option Bool :=
  some (true && (!false))
def m_law_c3 (r_68 : ((List Nat) × (List Int))) (r_108 : ((List Nat) × (List Int))) (x_126 : Int) : Option (Option Int) :=
  if (decide ((cutL r_68.1 (some x_126) (some (x_126 + ((r_108.1).length : Int)))) = r_108.1)) = true then (some (some x_126)) else (some none)
def m_law_c4 (x_182 : Int) : Option Bool :=
  (m_law_whole x_182).bind fun r_204 =>
    some r_204
def m_law_l2 (r_68 : ((List Nat) × (List Int))) (x_84 : Int) (s_85 : (List Int)) : Option (Ctl (Ctl Bool Unit) (List Int)) :=
  (m_law_word_of s_85 r_68.1).bind fun r_108 =>
    (rng1M ((r_68.1).length : Int)).bind fun xs_119 =>
    (lcP (m_law_c3 r_68 r_108) xs_119).bind fun ys_149 =>
    (m_places r_68.1 r_108.1).bind fun r_161 =>
    (if (!true) = true then (some true) else ((if (!decide (r_161 = ys_149)) = true then (some true) else ((mapP (m_law_c4) r_161).bind fun ys_213 => some (!(ys_213.all id)))).bind fun b_177 => some b_177)).bind fun b_175 =>
    if b_175 = true then (some (.rt (.rt false))) else
    (appM r_161 (0)).bind fun xs_236 =>
  (m_places r_68.1 r_108.1).bind fun r_241 =>
  if (!decide (r_241 = ys_149)) = true then (some (.rt (.rt false))) else
  some (.nx r_108.2)
def m_law_l1 (script_1 : (List Int)) (x_9 : Int) (s_10 : Unit) : Option (Ctl Bool Unit) :=
  (m_law_pot_of script_1 x_9).bind fun r_35 =>
    (m_law_pick r_35 (3)).bind fun r_53 =>
    (idxM [(40), (40), (60)] r_53.1).bind fun t_63 =>
    (m_law_text_of r_53.2 t_63).bind fun r_68 =>
    (rng1M (6)).bind fun xs_79 =>
    (loopM (m_law_l2 r_68) xs_79 r_68.2).bind fun res_99 =>
    ctlK res_99 fun s_258 =>
    some (.nx ())
def m_law (script_1 : (List Int)) : Option Bool :=
  (rng1M (if (if (20) < ((script_1).length : Int) then (20) else ((script_1).length : Int)) > (1) then (if (20) < ((script_1).length : Int) then (20) else ((script_1).length : Int)) else (1))).bind fun xs_4 =>
  (loopM (m_law_l1 script_1) xs_4 ()).bind fun res_24 =>
  ctlK res_24 fun s_270 =>
  some true
end Lk02

namespace Lk02
open PySem L2 MK MN
def Pot (p : List Int) : Prop := ∃ a b : Int, p = [a, b] ∧ 0 ≤ a ∧ 0 ≤ b ∧ b < 2147483647
theorem Pot.g0 {p : List Int} (h : Pot p) : Hd (idxM p 0) (fun x => 0 ≤ x ∧ ∃ b, p = [x, b] ∧ 0 ≤ b ∧ b < 2147483647) := by
  obtain ⟨a, b, rfl, h0, h1, h2⟩ := h
  exact ⟨a, rfl, h0, b, rfl, h1, h2⟩
theorem Pot.g1 {p : List Int} (h : Pot p) : Hd (idxM p 1) (fun x => 0 ≤ x ∧ x < 2147483647 ∧ ∃ a, p = [a, x] ∧ 0 ≤ a) := by
  obtain ⟨a, b, rfl, h0, h1, h2⟩ := h
  exact ⟨b, rfl, h1, h2, a, rfl, h0⟩
theorem big_lt : ((10 : Int) ^ (Int.toNat 60)) ^ (Int.toNat 4) = ((10 ^ 240 : Nat) : Int) := by decide +kernel
theorem big_lt2 : (10 ^ 240 : Nat) < 2 ^ 800 := by decide +kernel
theorem pot_of_ok {ns : List Int} {k : Int} (h0 : 0 ≤ k) (h1 : k ≤ 100) : Hd (m_law_pot_of ns k) Pot := by
  unfold m_law_pot_of
  refine Hd.bind (P := fun x : Int => 0 ≤ x ∧ x.natAbs < 2 ^ 800) (Hd.ited ?_ ?_) ?_
  · intro hk
    refine Hd.bind (hd_idx h0 hk) fun x hx => Hd.sb (Hd.sb (Hd.ret ?_))
    rw [big_lt]
    have a := Int.emod_nonneg (if x < 0 then -x else x) (show ((10 ^ 240 : Nat) : Int) ≠ 0 by decide +kernel)
    have b := Int.emod_lt_of_pos (if x < 0 then -x else x) (show (0 : Int) < ((10 ^ 240 : Nat) : Int) by decide +kernel)
    refine ⟨a, Nat.lt_trans ?_ big_lt2⟩
    generalize (10 ^ 240 : Nat) = N at a b ⊢
    omega
  · intro _
    exact Hd.ret ⟨by omega, by decide +kernel⟩
  · rintro x ⟨hx0, hx1⟩
    refine Hd.bind (hd_mul (n := 800) (m := 1) hx1 (by split <;> decide) (by omega)) ?_
    rintro _ rfl
    have h1 := Int.emod_nonneg x (show (2147483629 : Int) ≠ 0 by omega)
    have h2 := Int.emod_lt_of_pos x (show (0 : Int) < 2147483629 by omega)
    refine Hd.bind (hd_pow (by omega) (by omega) (by omega)) ?_
    rintro _ rfl
    refine Hd.ret ⟨_, _, rfl, Int.mul_nonneg hx0 (by split <;> omega), Int.emod_nonneg _ (by omega), Int.emod_lt_of_pos _ (by omega)⟩
theorem pick_ok {p : List Int} {n : Int} (h : Pot p) (h0 : 0 < n) (h1 : n < 1000000) : Hd (m_law_pick p n) (fun r => 0 ≤ r.1 ∧ r.1 < n ∧ Pot r.2) := by
  unfold m_law_pick
  obtain ⟨a, b, rfl, ha, hb, hb2⟩ := h
  refine Hd.step (x := a) rfl (Hd.ited (fun hp => ?_) (fun hp => ?_))
  · refine Hd.step (x := a) rfl (Hd.bind (hd_mod h0) fun r hr => Hd.step (x := a) rfl (Hd.bind (hd_fdiv h0 (by omega)) fun q hq => Hd.step (x := [q, b]) rfl ?_))
    refine Hd.ret ⟨hr.2.1, hr.2.2, _, _, rfl, ?_, hb, hb2⟩
    rw [hq]
    exact Int.ediv_nonneg ha (by omega)
  · have e0 := Int.emod_nonneg (b * 69621 + 12345) (show (2147483647 : Int) ≠ 0 by omega)
    have e1 := Int.emod_lt_of_pos (b * 69621 + 12345) (show (0 : Int) < 2147483647 by omega)
    refine Hd.step (x := b) rfl (Hd.step (x := [a, (b * 69621 + 12345) % 2147483647]) rfl (Hd.step (x := (b * 69621 + 12345) % 2147483647) rfl (Hd.step (x := (b * 69621 + 12345) % 2147483647) rfl ?_)))
    refine Hd.bind (hd_mul_s (by omega) (by omega)) fun m hm => Hd.bind (hd_mod h0) fun r hr => Hd.ret ⟨hr.2.1, hr.2.2, _, _, rfl, ha, e0, e1⟩
theorem signs_ok {p : List Int} (h : Pot p) : Hd (m_law_signs_of p) (fun r => Pot r.2 ∧ r.1.length = 26 ∧ ∀ y ∈ r.1, y.length = 1) := by
  unfold m_law_signs_of
  refine Hd.bind (pick_ok h (by omega) (by omega)) fun a ha => Hd.bind (pick_ok ha.2.2 (by omega) (by omega)) fun b hb => ?_
  refine Hd.bind (hd_idx hb.1 (by simpa using hb.2.1)) fun t ht => Hd.bind (hd_rng1 (by omega) (by omega)) ?_
  rintro xs rfl
  refine Hd.bind (Hd.mapP (P := fun y => y.length = 1) ?_) fun ys hy => Hd.ret ⟨hb.2.2, by rw [hy.1, rangeL_len]; rfl, hy.2⟩
  intro x hx
  have hx := mem_rangeL.mp hx
  have ht : 0 ≤ t ∧ t ≤ 25 := by
    have := ht.1
    simp only [List.mem_cons, List.not_mem_nil, or_false] at this
    omega
  unfold m_law_signs_of_c1
  refine Hd.bind (hd_mul_s (by omega) (by omega)) fun m hm => Hd.bind (hd_sidx (Int.emod_nonneg _ (by omega)) (Int.emod_lt_of_pos _ (by decide))) fun t ht => Hd.ret ht.1
theorem standard_ok {p : List Int} {ss : List (List Nat)} {n : Int} (h : Pot p) (hl : ss.length = 26) (hs : ∀ y ∈ ss, y.length = 1) (h0 : 0 ≤ n) (h1 : n ≤ 100) : Hd (m_law_standard_text p ss n) (fun r => r.1.length ≤ n ∧ Pot r.2) := by
  unfold m_law_standard_text
  refine Hd.bind (hd_idx (by omega) (by omega)) fun a ha => Hd.bind (hd_idx (by omega) (by omega)) fun b hb => Hd.bind (hd_rng1 (by omega) (by omega)) ?_
  rintro xs rfl
  have la := hs a ha.1
  have lb := hs b hb.1
  refine Hd.bind (P := fun s => s.1.length ≤ 100 ∧ s.2.1.length ≤ 400 ∧ Pot s.2.2) (Hd.foldO ⟨by simp [la], by simp [lb], h⟩ ?_) ?_
  · rintro x hx ⟨s, t, p⟩ ⟨h2, h3, h4⟩
    unfold m_law_standard_text_l1
    refine Hd.bind (P := fun s : List Nat × List Nat × List Int => s.1.length ≤ 100 ∧ s.2.1.length ≤ 400 ∧ Pot s.2.2) (Hd.ited ?_ ?_) fun j hj => Hd.ret hj
    · intro hn
      refine Hd.bind (pick_ok h4 (by omega) (by omega)) fun r hr => ?_
      have hn : t.length < 100 := by
        have : (t.length : Int) < n := hn
        omega
      have h2 : s.length ≤ 100 := h2
      refine Hd.bind (hd_rep (m := 99) (k := 3) (by omega) (by omega) (by omega) (by omega) (by omega)) fun q hq => ?_
      have hq2 : q.length ≤ 3 * t.length := by rw [hq.2]; exact Nat.mul_le_mul (by omega) (Nat.le_refl _)
      refine Hd.bind (hd_cat (by show q.length + s.length ≤ _; omega)) ?_
      rintro _ rfl
      exact Hd.ret ⟨by show t.length ≤ 100; omega, by rw [List.length_append]; show q.length + s.length ≤ 400; omega, hr.2.2⟩
    · intro _
      exact Hd.ret ⟨h2, h3, h4⟩
  · intro s hs
    refine Hd.ret ⟨?_, hs.2.2⟩
    rw [cutL_hi h0, List.length_take]
    omega
theorem sum_ones : ∀ {ys : List (List Nat)}, (∀ y ∈ ys, y.length = 1) → (ys.map List.length).sum = ys.length
  | [], _ => rfl
  | y :: ys, h => by
    rw [List.map_cons, List.sum_cons, h y (by simp), sum_ones fun z hz => h z (List.mem_cons_of_mem _ hz), List.length_cons]
    omega
theorem text_ok {p : List Int} {n : Int} (h : Pot p) (h0 : 2 ≤ n) (h1 : n ≤ 100) : Hd (m_law_text_of p n) (fun r => (r.1.length : Int) ≤ n ∧ Pot r.2) := by
  unfold m_law_text_of
  refine Hd.bind (pick_ok h (by omega) (by omega)) fun a ha => Hd.bind (pick_ok ha.2.2 (by omega) (by omega)) fun b hb => Hd.bind (pick_ok hb.2.2 (by omega) (by omega)) fun c hc => ?_
  refine Hd.bind (P := fun s : Int × List Int => 0 ≤ s.1 ∧ s.1 ≤ n ∧ Pot s.2) (Hd.ited ?_ ?_) fun j hj => ?_
  · intro _
    refine Hd.bind (pick_ok hc.2.2 (by omega) (by omega)) fun d hd => Hd.bind (hd_idx hd.1 (by simpa using hd.2.1)) fun t ht => Hd.ret ?_
    have := ht.1
    simp only [List.mem_cons, List.not_mem_nil, or_false] at this
    exact ⟨by omega, by omega, hd.2.2⟩
  · intro _
    exact Hd.ret ⟨by omega, by omega, hc.2.2⟩
  obtain ⟨many, q⟩ := j
  obtain ⟨m0, m1, hq⟩ := hj
  simp only at m0 m1 hq ⊢
  refine Hd.bind (signs_ok hq) ?_
  rintro ⟨ss, q2⟩ ⟨hq2, sl, s1⟩
  simp only at hq2 sl s1 ⊢
  refine Hd.bind (pick_ok hq2 (by omega) (by omega)) fun d hd => Hd.bind (hd_idx hd.1 (by simpa using hd.2.1)) fun t ht => Hd.bind (hd_rng1 (by omega) (by omega)) ?_
  rintro xs rfl
  have ht : 1 ≤ t ∧ t ≤ 26 := by
    have := ht.1
    simp only [List.mem_cons, List.not_mem_nil, or_false] at this
    omega
  refine Hd.bind (Hd.lcSA (I := Pot) (P := fun y => y.length = 1) hd.2.2 ?_) ?_
  · intro x hx s hs
    unfold m_law_text_of_c1
    refine Hd.bind (pick_ok hs (by omega) (by omega)) fun r hr => Hd.bind (hd_idx hr.1 (by (first | omega | (dsimp only at *; omega)))) fun u hu => Hd.ret ⟨hr.2.2, u, rfl, s1 u hu.1⟩
  rintro ⟨ys, q3⟩ ⟨hq3, hyl, hy1⟩
  simp only at hq3 hyl hy1 ⊢
  rw [rangeL_len] at hyl
  have hsum := sum_ones hy1
  refine Hd.bind (hd_join (by rw [hsum]; simp [Lit1]; omega)) ?_
  rintro _ rfl
  have hx0 : (TL.joinL Lit1 ys).length = ys.length := by
    rw [show Lit1 = [] from rfl, joinL_nil, List.length_flatten, hsum]
  refine Hd.bind (P := fun x : List Nat => (x.length : Int) = many) (Hd.ited ?_ ?_) fun x1 hx1 => ?_
  · intro _
    refine Hd.bind (hd_idx (by omega) (by omega)) fun u hu => Hd.bind (hd_rep (m := 1) (k := 100) (by rw [s1 u hu.1]; omega) (by omega) (by omega) (by omega) (by omega)) fun v hv => Hd.ret ?_
    rw [hv.2, s1 u hu.1]; omega
  · intro _
    exact Hd.ret (by rw [hx0]; omega)
  refine Hd.bind (P := fun s : List Nat × List Int => (s.1.length : Int) ≤ many ∧ Pot s.2) (Hd.ited ?_ ?_) fun x2 hx2 => ?_
  · intro _
    refine Hd.bind (pick_ok hq3 (by omega) (by omega)) fun r hr => ?_
    have e : (cutL x1 none (some (1 + r.1))).length ≤ 5 := by
      rw [cutL_hi (by omega), List.length_take]; omega
    refine Hd.bind (hd_rep (m := 5) (k := 100) e (by omega) (by omega) (by omega) (by omega)) fun v hv => Hd.ret ⟨?_, hr.2.2⟩
    rw [cutL_hi m0, List.length_take]; omega
  · intro _
    exact Hd.ret ⟨by (first | omega | (dsimp only at *; omega)), hq3⟩
  refine Hd.bind (P := fun s : List Nat × List Int => (s.1.length : Int) ≤ many ∧ Pot s.2) (Hd.ited ?_ ?_) fun x3 hx3 => ?_
  · intro _
    refine Hd.bind (standard_ok hx2.2 sl s1 m0 (by omega)) fun r hr => Hd.ret hr
  · intro _
    exact Hd.ret hx2
  refine Hd.bind (P := fun s : List Nat × List Int => (s.1.length : Int) ≤ many ∧ Pot s.2) (Hd.ite ?_ ?_) fun x4 hx4 => ?_
  · intro hm
    have hm : 0 < many := by simp at hm; omega
    refine Hd.bind (pick_ok hx3.2 (by omega) (by omega)) fun r hr => Hd.bind (hd_idx (by omega) (by omega)) fun u hu => ?_
    have hu := s1 u hu.1
    refine Hd.bind (hd_rep (m := 1) (k := 100) (by omega) (by omega) (by omega) (by omega) (by omega)) fun v hv => Hd.bind (hd_idx (by omega) (by omega)) fun w hw => ?_
    have hw := s1 w hw.1
    rw [hu] at hv
    refine Hd.bind (hd_cat (by omega)) ?_
    rintro _ rfl
    refine Hd.bind (hd_idx (by omega) (by omega)) fun u2 hu2 => ?_
    have hu2 := s1 u2 hu2.1
    refine Hd.bind (hd_rep (m := 1) (k := 100) (by omega) (by omega) (by omega) (by omega) (by omega)) fun v2 hv2 => ?_
    rw [hu2] at hv2
    refine Hd.bind (hd_cat (by rw [List.length_append]; omega)) ?_
    rintro _ rfl
    exact Hd.ret ⟨by rw [List.length_append, List.length_append]; omega, hr.2.2⟩
  · intro _
    exact Hd.ret hx3
  refine Hd.bind (P := fun s : List Nat => (s.length : Int) ≤ many) (Hd.ited ?_ ?_) fun x5 hx5 => Hd.ret ⟨by (first | omega | (dsimp only at *; omega)), hx4.2⟩
  · intro _
    have l1 := cutL_len_le (xs := x4.1) (lo := none) (hi := some (many / 2))
    refine Hd.bind (hd_cat (by rw [List.length_reverse]; omega)) ?_
    rintro _ rfl
    refine Hd.bind (hd_cat (by rw [List.length_append, List.length_reverse]; omega)) ?_
    rintro _ rfl
    refine Hd.sb (Hd.ret ?_)
    rw [cutL_hi m0, List.length_take]; omega
  · intro _
    exact Hd.ret hx4.1
theorem word_ok {p : List Int} {t : List Nat} (h : Pot p) (ht : t.length ≤ 60) : Hd (m_law_word_of p t) (fun r => 1 ≤ r.1.length ∧ r.1.length ≤ 60 ∧ Pot r.2) := by
  unfold m_law_word_of
  refine Hd.bind (pick_ok h (by omega) (by omega)) fun a ha => Hd.bind (pick_ok ha.2.2 (by omega) (by omega)) fun b hb => Hd.bind (hd_sidx hb.1 hb.2.1) fun l hl => Hd.ite ?_ ?_
  · intro _
    refine Hd.bind (pick_ok hb.2.2 (by omega) (by omega)) fun c hc => Hd.bind (hd_rep (m := 1) (k := 60) (by rw [hl.1]; omega) (by omega) (by omega) (by omega) (by omega)) fun v hv => Hd.ret ?_
    rw [hl.1] at hv
    exact ⟨by (first | omega | (dsimp only at *; omega)), by (first | omega | (dsimp only at *; omega)), hc.2.2⟩
  intro hne
  have h1 : 1 ≤ t.length := by
    cases t with
    | nil => simp [Lit1] at hne
    | cons x xs => simp
  refine Hd.bind (pick_ok hb.2.2 (by omega) (by omega)) fun c hc => Hd.bind (pick_ok hc.2.2 (by omega) (by omega)) fun d hd => ?_
  have hw : (cutL t (some c.1) (some (c.1 + 1 + d.1))).length = (1 + d.1).toNat := by
    rw [cutL_mid hc.1 (by omega), List.length_take, List.length_drop]
    omega
  generalize cutL t (some c.1) (some (c.1 + 1 + d.1)) = w at hw ⊢
  refine Hd.bind (pick_ok hd.2.2 (by omega) (by omega)) fun e he => Hd.ited ?_ fun _ => Hd.ited ?_ fun _ => Hd.ited ?_ fun _ => Hd.ret ⟨by (first | omega | (dsimp only at *; omega)), by (first | omega | (dsimp only at *; omega)), he.2.2⟩
  · intro _
    rw [cutL_hi he.1, cutL_lo (by omega)]
    refine Hd.bind (hd_cat (by rw [List.length_take, hl.1]; omega)) ?_
    rintro _ rfl
    refine Hd.bind (hd_cat (by rw [List.length_append, List.length_take, List.length_drop, hl.1]; omega)) ?_
    rintro _ rfl
    refine Hd.ret ⟨?_, ?_, he.2.2⟩
    · rw [List.length_append, List.length_append, List.length_take, List.length_drop, hl.1]; omega
    · rw [List.length_append, List.length_append, List.length_take, List.length_drop, hl.1]; omega
  · intro _
    refine Hd.bind (hd_cat (by rw [hl.1]; omega)) ?_
    rintro _ rfl
    refine Hd.bind (hd_cat (by rw [List.length_append, hl.1]; omega)) ?_
    rintro _ rfl
    refine Hd.ret ⟨?_, ?_, he.2.2⟩
    · rw [cutL_hi (by omega), List.length_take, List.length_append, List.length_append, hl.1]; omega
    · rw [cutL_hi (by omega), List.length_take, List.length_append, List.length_append, hl.1]; omega
  · intro _
    refine Hd.bind (pick_ok he.2.2 (by omega) (by omega)) fun f hf => Hd.ret ⟨?_, ?_, hf.2.2⟩
    · rw [cutL_hi (by omega), List.length_take]; omega
    · rw [cutL_hi (by omega), List.length_take]; omega
end Lk02

namespace Lk02
open PySem L2 MK MN
/-- the places, as the law has them -/
def hits (t w : List Nat) (n : Nat) : List Int := (rangeL 0 n).filterMap fun x => if decide (cutL t (some x) (some (x + (w.length : Int))) = w) = true then some x else none
theorem rangeL_split (a b : Nat) : rangeL 0 (a + b) = rangeL 0 a ++ rangeL (a : Int) b := by
  unfold rangeL
  rw [List.range_add, List.map_append, List.map_map]
  congr 1
  apply List.map_congr_left
  intro x _
  simp
theorem hits_short {t w : List Nat} {a b : Nat} (hw : 1 ≤ w.length) (hb : (t.length : Int) < a + w.length) : hits t w (a + b) = hits t w a := by
  unfold hits
  rw [rangeL_split, List.filterMap_append]
  have e : (rangeL (a : Int) b).filterMap (fun x => if decide (cutL t (some x) (some (x + (w.length : Int))) = w) = true then some x else none) = [] := by
    rw [List.filterMap_eq_nil_iff]
    intro x hx
    have hx := mem_rangeL.mp hx
    rw [if_neg]
    intro h
    have h := congrArg List.length (of_decide_eq_true h)
    rw [cutL_mid (by omega) (by omega), List.length_take, List.length_drop] at h
    omega
  rw [e, List.append_nil]
theorem places_eq {t w : List Nat} (hw : 1 ≤ w.length) (hw2 : w.length ≤ 1000) (ht : t.length ≤ 1000) : m_places t w = some (hits t w t.length) := by
  unfold m_places
  refine Hd.to (Hd.sb (Hd.bind (hd_rng1 (by omega) (by omega)) ?_))
  rintro _ rfl
  rw [lcP_fn (g := fun x => if decide (cutL t (some x) (some (x + (w.length : Int))) = w) = true then some x else none)]
  · refine Hd.ret ?_
    have e : t.length = ((t.length : Int) - w.length + 1).toNat + (t.length - ((t.length : Int) - w.length + 1).toNat) := by omega
    show hits t w _ = hits t w _
    conv => rhs; rw [e]
    rw [hits_short hw (by omega)]
  · intro x _
    unfold m_places_c1
    split <;> rfl
theorem whole_ok (x : Int) : m_law_whole x = some true := rfl
theorem l2_ok {t : (List Nat) × (List Int)} {x : Int} {s : List Int} (h : Pot s) (ht : t.1.length ≤ 60) : Hd (m_law_l2 t x s) (fun c => ∃ s', c = .nx s' ∧ Pot s') := by
  unfold m_law_l2
  refine Hd.bind (word_ok h ht) ?_
  rintro ⟨w, q⟩ ⟨w1, w2, hq⟩
  dsimp only at w1 w2 hq ⊢
  refine Hd.bind (hd_rng1 (by omega) (by omega)) ?_
  rintro _ rfl
  have e1 : MK.lcP (m_law_c3 t (w, q)) (rangeL 0 (Int.toNat t.1.length)) = some (hits t.1 w t.1.length) := by
    rw [lcP_fn (g := fun x => if decide (cutL t.1 (some x) (some (x + (w.length : Int))) = w) = true then some x else none)]
    · rfl
    · intro x _
      unfold m_law_c3
      split <;> rfl
  rw [e1]
  refine Hd.sb ?_
  rw [places_eq w1 (by omega) (by omega)]
  refine Hd.sb ?_
  have e2 : MK.mapP m_law_c4 (hits t.1 w t.1.length) = some ((hits t.1 w t.1.length).map fun _ => true) := mapP_fn fun x _ => rfl
  rw [e2]
  have hl : (hits t.1 w t.1.length).length ≤ 60 := by
    refine Nat.le_trans (List.length_filterMap_le _ _) ?_
    rw [rangeL_len]; exact ht
  refine Hd.bind (P := fun b => b = false) ?_ ?_
  · rw [if_neg (by decide), if_neg (by simp)]
    refine Hd.ret ?_
    simp
  rintro _ rfl
  rw [if_neg (by decide)]
  refine Hd.bind (hd_app (by omega)) ?_
  intro _ _
  refine Hd.sb ?_
  rw [if_neg (by simp)]
  exact Hd.ret ⟨_, rfl, hq⟩
theorem law_true (ns : List Int) (h : ns.length ≤ 63) : m_law ns = some true := by
  refine Hd.to ?_
  unfold m_law
  refine Hd.bind (hd_rng1 (by split <;> split <;> omega) (by split <;> split <;> omega)) ?_
  rintro _ rfl
  refine Hd.bind (Hd.loopN (I := fun _ => True) trivial ?_) fun c hc => Hd.ctl hc fun s _ => Hd.ret rfl
  intro x hx s _
  have hx := mem_rangeL.mp hx
  have hx2 : x ≤ 63 := by
    have := hx.2
    split at this <;> split at this <;> omega
  unfold m_law_l1
  refine Hd.bind (pot_of_ok hx.1 (by omega)) fun p hp => Hd.bind (pick_ok hp (by omega) (by omega)) fun a ha => Hd.bind (hd_idx ha.1 (by simpa using ha.2.1)) fun n hn => ?_
  have hn : n = 40 ∨ n = 60 := by
    have := hn.1
    simp only [List.mem_cons, List.not_mem_nil, or_false] at this
    omega
  refine Hd.bind (text_ok ha.2.2 (by omega) (by omega)) fun t ht => Hd.bind (hd_rng1 (by omega) (by omega)) ?_
  rintro _ rfl
  refine Hd.bind (Hd.loopN ht.2 fun y _ s hs => l2_ok hs (by omega)) fun c hc => Hd.ctl hc fun s _ => Hd.ret ⟨_, rfl, trivial⟩
end Lk02

namespace Lk02
open PySem PySem.Spec L2 MK
def topS (i : Nat) : Stmt := PySem.Challenge.pw_likemarks_k02_places_told.main.body.getD i (.Pass ⟨0, 0, 0, 0⟩)
abbrev s0 : Stmt := topS 3
abbrev s1 : Stmt := topS 4
abbrev s2 : Stmt := topS 5
abbrev s3 : Stmt := topS 6
abbrev s4 : Stmt := topS 7
abbrev s5 : Stmt := topS 9
abbrev s6 : Stmt := topS 1
abbrev s7 : Stmt := topS 8
abbrev s8 : Stmt := topS 10
theorem lit0 : (Str.ofString "abcdefghijklmnopqrstuvwxyz") = sS Lit0 := by decide +kernel
theorem lit0_ok : OkS Lit0 := OkS.lit (by decide +kernel)
theorem lit1 : (Str.ofString "") = sS Lit1 := by decide +kernel
theorem lit1_ok : OkS Lit1 := OkS.lit (by decide +kernel)
structure Txt (K : PySem.W.Frag) (mg : Str → Option Value) (fa : Nat → Addr) (fd : Nat → FuncData) : Prop where
  f0 : Fun K "_law_pot_of" "_law_pot_of" s0 (fa 0) (fd 0)
  g0 : mg "_law_pot_of" = some (.ref (fa 0))
  b0 : Binds K (fd 0) ["_law_script", "_law_k"] []
  f1 : Fun K "_law_pick" "_law_pick" s1 (fa 1) (fd 1)
  g1 : mg "_law_pick" = some (.ref (fa 1))
  b1 : Binds K (fd 1) ["_law_pot", "_law_many"] []
  f2 : Fun K "_law_signs_of" "_law_signs_of" s2 (fa 2) (fd 2)
  g2 : mg "_law_signs_of" = some (.ref (fa 2))
  b2 : Binds K (fd 2) ["_law_pot"] []
  f3 : Fun K "_law_standard_text" "_law_standard_text" s3 (fa 3) (fd 3)
  g3 : mg "_law_standard_text" = some (.ref (fa 3))
  b3 : Binds K (fd 3) ["_law_pot", "_law_signs", "_law_many"] []
  f4 : Fun K "_law_text_of" "_law_text_of" s4 (fa 4) (fd 4)
  g4 : mg "_law_text_of" = some (.ref (fa 4))
  b4 : Binds K (fd 4) ["_law_pot", "_law_most"] []
  f5 : Fun K "_law_word_of" "_law_word_of" s5 (fa 5) (fd 5)
  g5 : mg "_law_word_of" = some (.ref (fa 5))
  b5 : Binds K (fd 5) ["_law_pot", "_law_text"] []
  f6 : Fun K "places" "places" s6 (fa 6) (fd 6)
  g6 : mg "places" = some (.ref (fa 6))
  b6 : Binds K (fd 6) ["row", "word"] []
  f7 : Fun K "_law_whole" "_law_whole" s7 (fa 7) (fd 7)
  g7 : mg "_law_whole" = some (.ref (fa 7))
  b7 : Binds K (fd 7) ["_law_thing"] []
  f8 : Fun K "law" "law" s8 (fa 8) (fd 8)
  g8 : mg "law" = some (.ref (fa 8))
  b8 : Binds K (fd 8) ["_law_script"] []
  n_abs : mg "abs" = none
  n_all : mg "all" = none
  n_bool : mg "bool" = none
  n_int : mg "int" = none
  n_isinstance : mg "isinstance" = none
  n_len : mg "len" = none
  n_list : mg "list" = none
  n_max : mg "max" = none
  n_min : mg "min" = none
  n_range : mg "range" = none
section
variable {P : Program} {w : World} {K : PySem.W.Frag} {mg : Str → Option Value} {base : Heap} {fa : Nat → Addr} {fd : Nat → FuncData}
theorem sc_law_pot_of : FnScope ["_law_script", "_law_k", "_law_cell"] ["_law_script", "_law_k"] (defScope s0) := ⟨rfl, rfl, rfl, by decide +kernel, rfl, by decide +kernel, by decide +kernel⟩
def sp_law_pot_of (K : PySem.W.Frag) : Sp := fun vs H Q E => ∃ (script_1 : (List Int)) (v_2 : V) (k_4 : Int) (v_5 : V) (G : Hp) (r : (List Int)), vs = [v_2, v_5] ∧ L2.Same G H ∧ (pScr K) script_1 v_2 G ∧ pI k_4 v_5 G ∧ m_law_pot_of script_1 k_4 = some r ∧ (∀ p vs G1 H1, Post [] G H G1 H1 → H p = none → G1 p = none → H1 p = some (.lst vs) → All2 pI G1 r vs → r.length ≤ sizeLine → Q (.ref p) H1)
theorem ok_law_pot_of (T : Txt K mg fa fd) : FnOk P w K mg base CX0 1 (fa 0) (fd 0) ["_law_script", "_law_k"] (sp_law_pot_of K) := by
  refine T.f0.ok sc_law_pot_of (fun vs H Q E h => ?_) (fun cdv A outer s H vs Q E hr h => ?_)
  · obtain ⟨_, _, _, _, _, _, rfl, _⟩ := h; rfl
  · obtain ⟨script_1, v_2, k_4, v_5, G0, r0, rfl, hs0, h_3, h_6, hm, hq⟩ := h
    obtain rfl := h_6
    refine ⟨_, (pss_cons (ps_set (i := 2) sc_law_pot_of.nd rfl (Or.inl rfl) pe_int)
      (pss_cons (ps_if (pt_cmpR op_lt (pv 1) (pe_callB (call_lenQ (K := K) rfl) (by rfl) T.n_len PySem.boot_len (pa_cons (pv 0) pa_nil)) (nomark _)) (pss_cons (ps_set (i := 2) sc_law_pot_of.nd rfl (Or.inl rfl) (pe_op op_mod (pe_callB call_absI (by rfl) T.n_abs (by decide +kernel) (pa_cons (pe_ix (ix_listK (K := K) rfl) (pv 0) (pv 1) (fun _ _ => rfl)) pa_nil)) (pe_op op_powX (pe_op op_powX pe_int pe_int) pe_int)))
      pss_nil) pss_nil)
      (pss_cons (ps_ret (pe_lst (pa_cons (pe_op op_mulW (pv 2) (pe_callTy call_int1I (by rfl) T.n_int (by decide +kernel) (pa_cons (pe_cmpR op_ge (pv 2) (pe_op op_powX pe_int pe_int) (nomark _)) pa_nil))) (pa_cons (pe_op op_mod (pe_op op_powX (pe_op op_add (pe_op op_add (pe_op op_mod (pv 2) pe_int) (pe_op op_mul pe_int (pv 1))) pe_int) pe_int) pe_int) pa_nil))))
      pss_nil))), ?_⟩
    have w0 : W H G0 [] G0 [] H := W.init hs0
    refine st_conv (σ' := [some v_2, some (V.int k_4), none]) rfl ?_
    refine cps_asg (fun x => [some v_2, some (V.int k_4), some x]) (fun _ => rfl) ?_
    refine ev_use ev_c ?_
    refine s_if0 ?_
    refine et_use (et_test (ev_op (ev_var rfl) (ev_cb (ea_cons (ev_var rfl) ea_nil) (kk_lenScr (Mn.mono h_3 w0.sub))) (k_ltI _ _))) ?_
    obtain ⟨j_7, hm_if, hm⟩ := bindS hm
    refine cut_if4 (P := (fun σ1 H1 => ∃ G1, σ1 = [some v_2, some (V.int k_4), some (V.int j_7)] ∧ L2.Same G0 G1 ∧ W H G0 [] G1 [] H1)) _ ?_ ?_ ?_
    · intro hb_8 N_9 kn_10
      have hm := iteT' hm_if hb_8
      refine cps_asg (fun x => [some v_2, some (V.int k_4), some x]) (fun _ => rfl) ?_
      obtain ⟨t_11, e_t_11, hm⟩ := bindS hm
      obtain ⟨cell_12, e_cell_12, hm⟩ := bindS hm
      refine ev_use (castI e_cell_12 (ev_op (ev_cb (ea_cons (ev_op (ev_var rfl) (ev_var rfl) (k_idxScr (Mn.mono h_3 w0.sub) e_t_11)) ea_nil) (kk_abs _)) (ev_op (ev_op ev_c ev_c (k_powC _ _ (by decide +kernel))) ev_c (k_powC _ _ (by decide +kernel))) (k_modC _ _ (by decide +kernel)))) ?_
      refine cps_next ?_
      obtain rfl := someI hm
      exact kn_10 _ _ ⟨_, rfl, (L2.Same.refl _), w0⟩
    · intro hb_8 N_9 kn_10
      have hm := iteF' hm_if hb_8
      refine cps_next ?_
      obtain rfl := someI hm
      exact kn_10 _ _ ⟨_, rfl, (L2.Same.refl _), w0⟩
    rintro _ H_13 ⟨G_14, rfl, s_15, w_16⟩
    refine cps_ret ?_
    refine cps_lst ?_
    refine cps_cons ?_
    obtain ⟨t_17, e_t_17, hm⟩ := bindS hm
    refine ev_use (ev_op (ev_var rfl) (ev_cb (ea_cons (ev_op (ev_var rfl) (ev_op ev_c ev_c (k_powC _ _ (by decide +kernel))) (k_geI _ _)) ea_nil) (kk_intB _)) (k_mul e_t_17)) ?_
    refine cps_cons ?_
    obtain ⟨t_18, e_t_18, hm⟩ := bindS hm
    refine ev_use (ev_op (ev_op (ev_op (ev_op (ev_op (ev_var rfl) ev_c (k_modC _ _ (by decide +kernel))) (ev_op ev_c (ev_var rfl) (k_mulC _ _ (Or.inl ⟨by decide, by decide⟩))) (k_add _ _)) ev_c (k_add _ _)) ev_c (k_pow e_t_18)) ev_c (k_modC _ _ (by decide +kernel))) ?_
    refine cps_nil ?_
    refine ⟨lenle rfl, fun p_19 hp_19 => ?_⟩
    have ha_20 : All2 pI G_14 [t_17, (t_18 % (2147483647))] [(V.int t_17), (V.int (t_18 % (2147483647)))] := (All2.cons rfl (All2.cons rfl .nil))
    have hE_22 := W.freshE w_16 hp_19
    have w_21 := W.cell w_16 hp_19 (.lst [(V.int t_17), (V.int (t_18 % (2147483647)))])
    have er := (someI hm).symm
    subst er
    exact hq _ _ _ _ (W.post w_21) hE_22 (W.out w_21 _ (List.Mem.head _)) (W.at w_21 0) ha_20 (lenle rfl) 

theorem sc_law_pick : FnScope ["_law_pot", "_law_many", "_law_digit"] ["_law_pot", "_law_many"] (defScope s1) := ⟨rfl, rfl, rfl, by decide +kernel, rfl, by decide +kernel, by decide +kernel⟩
def sp_law_pick (K : PySem.W.Frag) : Sp := fun vs H Q E => ∃ (a_3 : Addr) (pot_1 : (List Int)) (many_7 : Int) (v_8 : V) (G : Hp) (r : (Int × (List Int))), vs = [.ref a_3, v_8] ∧ L2.Same G H ∧ G a_3 = none ∧ H a_3 = some (.lst (pot_1.map V.int)) ∧ pot_1.length ≤ sizeLine ∧ pI many_7 v_8 G ∧ m_law_pick pot_1 many_7 = some r ∧ (∀ v G1 H1, Post [a_3] G H G1 H1 → pI r.1 v G1 → H1 a_3 = some (.lst (r.2.map V.int)) → r.2.length ≤ sizeLine → Q v H1)
theorem ok_law_pick (T : Txt K mg fa fd) : FnOk P w K mg base CX0 1 (fa 1) (fd 1) ["_law_pot", "_law_many"] (sp_law_pick K) := by
  refine T.f1.ok sc_law_pick (fun vs H Q E h => ?_) (fun cdv A outer s H vs Q E hr h => ?_)
  · obtain ⟨_, _, _, _, _, _, rfl, _⟩ := h; rfl
  · obtain ⟨a_3, pot_1, many_7, v_8, G0, r0, rfl, hs0, h_4, h_5, h_6, h_9, hm, hq⟩ := h
    obtain rfl := h_9
    refine ⟨_, (pss_cons (ps_if (pt_cmpR op_gt (pe_ix (ix_listK (K := K) rfl) (pv 0) pe_int (fun _ _ => rfl)) pe_int (nomark _)) (pss_cons (ps_set (i := 2) sc_law_pick.nd rfl (Or.inl rfl) (pe_op op_mod (pe_ix (ix_listK (K := K) rfl) (pv 0) pe_int (fun _ _ => rfl)) (pv 1)))
      (pss_cons (ps_asg (pe_op op_fdiv (pe_ix (ix_listK (K := K) rfl) (pv 0) pe_int (fun _ _ => rfl)) (pv 1)) (pg_sub (pv 0) pe_int set_list))
      (pss_cons (ps_ret (pv 2))
      pss_nil))) pss_nil)
      (pss_cons (ps_asg (pe_op op_mod (pe_op op_add (pe_op op_mul (pe_ix (ix_listK (K := K) rfl) (pv 0) pe_int (fun _ _ => rfl)) pe_int) pe_int) pe_int) (pg_sub (pv 0) pe_int set_list))
      (pss_cons (ps_ret (pe_op op_mod (pe_op op_fdiv (pe_op op_mod (pe_op op_mulW (pe_ix (ix_listK (K := K) rfl) (pv 0) pe_int (fun _ _ => rfl)) (pe_ix (ix_listK (K := K) rfl) (pv 0) pe_int (fun _ _ => rfl))) pe_int) pe_int) (pv 1)))
      pss_nil))), ?_⟩
    have w0 : W H G0 [a_3] G0 [(a_3, .lst (pot_1.map V.int))] H := W.init1 hs0 h_5 h_4
    refine st_conv (σ' := [some (V.ref a_3), some (V.int many_7), none]) rfl ?_
    refine s_if0 ?_
    obtain ⟨t_10, e_t_10, hm⟩ := bindS hm
    obtain ⟨v_11, r_12, k_13⟩ := k_idxC (K := K) (W.at w0 0) (All2.ofInt _ G0) e_t_10
    obtain rfl := r_12
    refine et_use (et_test (ev_op (ev_op (ev_var rfl) ev_c k_13) ev_c (k_gtI _ _))) ?_
    refine if_cases _ (fun hb_14 => ?_) (fun hb_14 => ?_)
    · have hm := iteT' hm hb_14
      refine cps_asg (fun x => [some (V.ref a_3), some (V.int many_7), some x]) (fun _ => rfl) ?_
      obtain ⟨t_15, e_t_15, hm⟩ := bindS hm
      obtain ⟨v_16, r_17, k_18⟩ := k_idxC (K := K) (W.at w0 0) (All2.ofInt _ G0) e_t_15
      obtain rfl := r_17
      obtain ⟨t_19, e_t_19, hm⟩ := bindS hm
      refine ev_use (ev_op (ev_op (ev_var rfl) ev_c k_18) (ev_var rfl) (k_mod e_t_19)) ?_
      refine cps_asgG ?_
      obtain ⟨t_20, e_t_20, hm⟩ := bindS hm
      obtain ⟨v_21, r_22, k_23⟩ := k_idxC (K := K) (W.at w0 0) (All2.ofInt _ G0) e_t_20
      obtain rfl := r_22
      obtain ⟨t_24, e_t_24, hm⟩ := bindS hm
      refine ev_use (ev_op (ev_op (ev_var rfl) ev_c k_23) (ev_var rfl) (k_fdiv e_t_24)) ?_
      refine cps_sub ?_
      refine ev_use (ev_var rfl) ?_
      refine ev_use ev_c ?_
      obtain ⟨xs_25, e_xs_25, hm⟩ := bindS hm
      obtain ⟨j_26, hj_27, ha_28, hl_29⟩ := set_all (All2.ofInt _ G0) rfl e_xs_25
      refine set_hw (W.at w0 0) hj_27 ?_
      have hl_30 : xs_25.length ≤ sizeLine := by rw [hl_29]; exact h_6
      have w_31 : W H G0 [a_3] _ [(a_3, .lst ((pot_1.map V.int).set j_26 (V.int t_24)))] _ := W.write w0 0 rfl (.lst ((pot_1.map V.int).set j_26 (V.int t_24)))
      have q_33 := All2.int ha_28
      have w_32 : W H G0 [a_3] _ [(a_3, .lst (xs_25.map V.int))] _ := W.recell w_31 (by rw [← q_33])
      refine cps_ret ?_
      refine ev_use (ev_var rfl) ?_
      have er := (someI hm).symm
      subst er
      exact hq _ _ _ (W.post w_32) rfl (W.at w_32 0) hl_30
    have hm := iteF' hm hb_14
    refine cps_nextR ?_
    refine cps_asgG ?_
    obtain ⟨t_34, e_t_34, hm⟩ := bindS hm
    obtain ⟨v_35, r_36, k_37⟩ := k_idxC (K := K) (W.at w0 0) (All2.ofInt _ G0) e_t_34
    obtain rfl := r_36
    refine ev_use (ev_op (ev_op (ev_op (ev_op (ev_var rfl) ev_c k_37) ev_c (k_mulC _ _ (Or.inr ⟨by decide, by decide⟩))) ev_c (k_add _ _)) ev_c (k_modC _ _ (by decide +kernel))) ?_
    refine cps_sub ?_
    refine ev_use (ev_var rfl) ?_
    refine ev_use ev_c ?_
    obtain ⟨xs_38, e_xs_38, hm⟩ := bindS hm
    obtain ⟨j_39, hj_40, ha_41, hl_42⟩ := set_all (All2.ofInt _ G0) rfl e_xs_38
    refine set_hw (W.at w0 0) hj_40 ?_
    have hl_43 : xs_38.length ≤ sizeLine := by rw [hl_42]; exact h_6
    have w_44 : W H G0 [a_3] _ [(a_3, .lst ((pot_1.map V.int).set j_39 (V.int (((t_34 * (69621)) + (12345)) % (2147483647)))))] _ := W.write w0 0 rfl (.lst ((pot_1.map V.int).set j_39 (V.int (((t_34 * (69621)) + (12345)) % (2147483647)))))
    have q_46 := All2.int ha_41
    have w_45 : W H G0 [a_3] _ [(a_3, .lst (xs_38.map V.int))] _ := W.recell w_44 (by rw [← q_46])
    refine cps_ret ?_
    obtain ⟨t_47, e_t_47, hm⟩ := bindS hm
    obtain ⟨v_48, r_49, k_50⟩ := k_idxC (K := K) (W.at w_45 0) (All2.ofInt _ G0) e_t_47
    obtain rfl := r_49
    obtain ⟨t_51, e_t_51, hm⟩ := bindS hm
    obtain ⟨v_52, r_53, k_54⟩ := k_idxC (K := K) (W.at w_45 0) (All2.ofInt _ G0) e_t_51
    obtain rfl := r_53
    obtain ⟨t_55, e_t_55, hm⟩ := bindS hm
    obtain ⟨t_56, e_t_56, hm⟩ := bindS hm
    refine ev_use (ev_op (ev_op (ev_op (ev_op (ev_op (ev_var rfl) ev_c k_50) (ev_op (ev_var rfl) ev_c k_54) (k_mul e_t_55)) ev_c (k_modC _ _ (by decide +kernel))) ev_c (k_fdivC _ _ ⟨by decide, by decide⟩)) (ev_var rfl) (k_mod e_t_56)) ?_
    have er := (someI hm).symm
    subst er
    exact hq _ _ _ (W.post w_45) rfl (W.at w_45 0) hl_43

theorem sc_law_signs_of : FnScope ["_law_pot", "_law_first", "_law_step", "_law_k"] ["_law_pot"] (defScope s2) := ⟨rfl, rfl, rfl, by decide +kernel, rfl, by decide +kernel, by decide +kernel⟩
def sp_law_signs_of (K : PySem.W.Frag) : Sp := fun vs H Q E => ∃ (a_3 : Addr) (pot_1 : (List Int)) (G : Hp) (r : ((List (List Nat)) × (List Int))), vs = [.ref a_3] ∧ L2.Same G H ∧ G a_3 = none ∧ H a_3 = some (.lst (pot_1.map V.int)) ∧ pot_1.length ≤ sizeLine ∧ m_law_signs_of pot_1 = some r ∧ (∀ p vs G1 H1, Post [a_3] G H G1 H1 → H p = none → G1 p = none → H1 p = some (.lst vs) → All2 pS G1 r.1 vs → r.1.length ≤ sizeLine → H1 a_3 = some (.lst (r.2.map V.int)) → r.2.length ≤ sizeLine → Q (.ref p) H1)
theorem ok_law_signs_of (T : Txt K mg fa fd) : FnOk P w K mg base CX0 2 (fa 2) (fd 2) ["_law_pot"] (sp_law_signs_of K) := by
  refine T.f2.ok sc_law_signs_of (fun vs H Q E h => ?_) (fun cdv A outer s H vs Q E hr h => ?_)
  · obtain ⟨_, _, _, _, rfl, _⟩ := h; rfl
  · obtain ⟨a_3, pot_1, G0, r0, rfl, hs0, h_4, h_5, h_6, hm, hq⟩ := h
    refine ⟨_, (pss_cons (ps_set (i := 1) sc_law_signs_of.nd rfl (Or.inr rfl) (pe_call (ok_law_pick T) (hr.mono (by decide)) (by rfl) T.g1 T.f1.kp T.b1 .nil pass0 (pa_cons (pv 0) (pa_cons pe_int pa_nil))))
      (pss_cons (ps_set (i := 2) sc_law_signs_of.nd rfl (Or.inr rfl) (pe_ix (ix_tupK (K := K) rfl) (pe_tup (pa_cons pe_int (pa_cons pe_int (pa_cons pe_int (pa_cons pe_int (pa_cons pe_int (pa_cons pe_int (pa_cons pe_int (pa_cons pe_int pa_nil))))))))) (pe_call (ok_law_pick T) (hr.mono (by decide)) (by rfl) T.g1 T.f1.kp T.b1 .nil pass0 (pa_cons (pv 0) (pa_cons pe_int pa_nil))) (fun _ _ => rfl)))
      (pss_cons (ps_ret (pe_lc (own := [("_law_k", 3)]) rfl sc_law_signs_of.nd (pi_range1 (by rfl) T.n_range (pa_cons pe_int pa_nil)) (blkOk_by (N := ["_law_pot", "_law_first", "_law_step", "_law_k"]) (sc := (defScope s2)) (by decide +kernel)) (fun _ _ _ _ _ => (pg_name (i := 3) sc_law_signs_of.nd rfl (Or.inl rfl))) (fun _ _ _ _ _ => pts_nil) (fun _ _ _ _ _ => (pe_ix ix_str pe_str (pe_op op_mod (pe_op op_add (pv 1) (pe_op op_mulW (pv 2) (pv 3))) pe_int) (fun _ _ => rfl)))))
      pss_nil))), ?_⟩
    have w0 : W H G0 [a_3] G0 [(a_3, .lst (pot_1.map V.int))] H := W.init1 hs0 h_5 h_4
    refine st_conv (σ' := [some (V.ref a_3), none, none, none]) rfl ?_
    refine cps_asg (fun x => [some (V.ref a_3), some x, none, none]) (fun _ => rfl) ?_
    refine cps_call ?_
    refine cps_cons ?_
    refine ev_use (ev_var rfl) ?_
    refine cps_cons ?_
    refine ev_use ev_c ?_
    refine cps_nil ?_
    obtain ⟨r_7, e_r_7, hm⟩ := bindS hm
    refine ⟨a_3, pot_1, (26), (V.int (26)), _, r_7, rfl, w0.sub, (W.out w0 _ (List.Mem.head _)), (W.at w0 0), h_6, rfl, e_r_7, fun v_13 G_8 H_10 q_9 r_14 hc_15 hcl_16 => ?_⟩
    have w_11 : W H G0 [a_3] G_8 [(a_3, .lst (r_7.2.map V.int))] H_10 := W.callM w0 0 rfl q_9 hc_15
    obtain rfl := r_14
    refine cps_asg (fun x => [some (V.ref a_3), some (V.int r_7.1), some x, none]) (fun _ => rfl) ?_
    refine cps_op ?_
    refine cps_tup ?_
    refine cps_cons ?_
    refine ev_use ev_c ?_
    refine cps_cons ?_
    refine ev_use ev_c ?_
    refine cps_cons ?_
    refine ev_use ev_c ?_
    refine cps_cons ?_
    refine ev_use ev_c ?_
    refine cps_cons ?_
    refine ev_use ev_c ?_
    refine cps_cons ?_
    refine ev_use ev_c ?_
    refine cps_cons ?_
    refine ev_use ev_c ?_
    refine cps_cons ?_
    refine ev_use ev_c ?_
    refine cps_nil ?_
    refine ⟨lenle rfl, fun p_17 hp_17 => ?_⟩
    have s_19 := same_lay (o := .tup [(V.int (1)), (V.int (3)), (V.int (5)), (V.int (7)), (V.int (9)), (V.int (11)), (V.int (15)), (V.int (25))]) w_11 hp_17
    have w_18 := W.lay w_11 hp_17 (.tup [(V.int (1)), (V.int (3)), (V.int (5)), (V.int (7)), (V.int (9)), (V.int (11)), (V.int (15)), (V.int (25))])
    refine cps_call ?_
    refine cps_cons ?_
    refine ev_use (ev_var rfl) ?_
    refine cps_cons ?_
    refine ev_use ev_c ?_
    refine cps_nil ?_
    obtain ⟨r_21, e_r_21, hm⟩ := bindS hm
    refine ⟨a_3, r_7.2, (8), (V.int (8)), _, r_21, rfl, w_18.sub, (W.out w_18 _ (List.Mem.head _)), (W.at w_18 0), hcl_16, rfl, e_r_21, fun v_27 G_22 H_24 q_23 r_28 hc_29 hcl_30 => ?_⟩
    have w_25 : W H G0 [a_3] G_22 [(a_3, .lst (r_21.2.map V.int))] H_24 := W.callM w_18 0 rfl q_23 hc_29
    obtain rfl := r_28
    obtain ⟨t_31, e_t_31, hm⟩ := bindS hm
    have ha_35 : All2 pI G_22 [(1), (3), (5), (7), (9), (11), (15), (25)] [(V.int (1)), (V.int (3)), (V.int (5)), (V.int (7)), (V.int (9)), (V.int (11)), (V.int (15)), (V.int (25))] := (All2.cons rfl (All2.cons rfl (All2.cons rfl (All2.cons rfl (All2.cons rfl (All2.cons rfl (All2.cons rfl (All2.cons rfl .nil))))))))
    obtain ⟨v_32, r_33, k_34⟩ := k_idxTG (K := K) (w_25.sub _ _ ((Post.base q_23) _ _ upd_same)) ha_35 e_t_31
    obtain rfl := r_33
    refine k_34 _ ?_
    refine cps_ret ?_
    refine cps_lc ?_
    refine cps_rng1 ?_
    refine cps_cons ?_
    refine ev_use ev_c ?_
    refine cps_nil ?_
    obtain ⟨xs_36, e_xs_36, hm⟩ := bindS hm
    obtain ⟨hb_37, hx_39, hl_38⟩ := rng1_ok e_xs_36
    refine ⟨_, rfl, hb_37.1, hb_37.2, ?_⟩
    intro D_40 hD_40
    have hE_41 := W.freshE w_25 hD_40
    obtain ⟨ys_67, e_ys_67, hm⟩ := bindS hm
    have w_68 := W.cell w_25 hD_40 (.lst [])
    refine lc_wM walk_range (by rw [hx_39]; exact rangeL_len _ _) e_ys_67 hl_38 (fun av acc H1 => ∃ G1, L2.Same G_22 G1 ∧ W H G0 [a_3] G1 [(D_40, .lst av), (a_3, .lst (r_21.2.map V.int))] H1 ∧ All2 pS G1 acc av) ⟨_, (L2.Same.refl _), w_68, .nil⟩ (fun _ _ _ _ => True.intro) ?_ ?_
    · intro i_42 x_43 r_59 v_44 av_45 acc_46 H_47 H_48 hx_49 hm hP_51 hlt_52 hy_53 N_54 ks_56
      obtain ⟨G_60, s_61, w_62, ha_63⟩ := hP_51
      rw [hx_39] at hx_49
      obtain ⟨rfl, rfl⟩ := rng_item hx_49 hy_53
      refine lc_nm (τ := [some (V.ref a_3), some (V.int r_7.1), some (V.int t_31), some (V.int x_43)]) rfl rfl ?_
      refine iteT_yes ?_
      obtain ⟨t_64, e_t_64, hm⟩ := bindS hm
      obtain ⟨t_65, e_t_65, hm⟩ := bindS hm
      refine ev_use (ev_op (ev_str lit0) (ev_op (ev_op (ev_var rfl) (ev_op (ev_var rfl) (ev_var rfl) (k_mul e_t_64)) (k_add _ _)) ev_c (k_modC _ _ (by decide +kernel))) (k_idxS lit0_ok e_t_65)) ?_
      have w_66 : W H G0 [a_3] _ [(D_40, .lst (av_45 ++ [(vS t_65)])), (a_3, .lst (r_21.2.map V.int))] _ := W.write w_62 0 rfl (.lst (av_45 ++ [(vS t_65)]))
      obtain rfl := someI hm
      exact ⟨_, (W.at w_62 0), hlt_52, ks_56 _ _ ⟨_, s_61, w_66, (All2.app ha_63 (All2.one ⟨rfl, (OkS.idx lit0_ok e_t_65)⟩))⟩⟩
    rintro av_69 H_70 ⟨G_71, s_72, w_73, ha_74⟩
    have hl_75 : ys_67.length ≤ sizeLine := Nat.le_trans (mapP_len e_ys_67) (lenz (by rw [hx_39]; exact rangeL_len _ _) hl_38)
    have er := (someI hm).symm
    subst er
    exact hq _ _ _ _ (W.post w_73) hE_41 (W.out w_73 _ (List.Mem.head _)) (W.at w_73 0) ha_74 hl_75 (W.at w_73 1) hcl_30

theorem sc_law_standard_text : FnScope ["_law_pot", "_law_signs", "_law_many", "_law_one", "_law_other", "_law_turn"] ["_law_pot", "_law_signs", "_law_many"] (defScope s3) := ⟨rfl, rfl, rfl, by decide +kernel, rfl, by decide +kernel, by decide +kernel⟩
def sp_law_standard_text (K : PySem.W.Frag) : Sp := fun vs H Q E => ∃ (a_3 : Addr) (pot_1 : (List Int)) (signs_7 : (List (List Nat))) (v_8 : V) (many_10 : Int) (v_11 : V) (G : Hp) (r : ((List Nat) × (List Int))), vs = [.ref a_3, v_8, v_11] ∧ L2.Same G H ∧ G a_3 = none ∧ H a_3 = some (.lst (pot_1.map V.int)) ∧ pot_1.length ≤ sizeLine ∧ (pL pS) signs_7 v_8 G ∧ pI many_10 v_11 G ∧ m_law_standard_text pot_1 signs_7 many_10 = some r ∧ (∀ v G1 H1, Post [a_3] G H G1 H1 → pS r.1 v G1 → H1 a_3 = some (.lst (r.2.map V.int)) → r.2.length ≤ sizeLine → Q v H1)
theorem ok_law_standard_text (T : Txt K mg fa fd) : FnOk P w K mg base CX0 2 (fa 3) (fd 3) ["_law_pot", "_law_signs", "_law_many"] (sp_law_standard_text K) := by
  refine T.f3.ok sc_law_standard_text (fun vs H Q E h => ?_) (fun cdv A outer s H vs Q E hr h => ?_)
  · obtain ⟨_, _, _, _, _, _, _, _, rfl, _⟩ := h; rfl
  · obtain ⟨a_3, pot_1, signs_7, v_8, many_10, v_11, G0, r0, rfl, hs0, h_4, h_5, h_6, h_9, h_12, hm, hq⟩ := h
    obtain rfl := h_12
    refine ⟨_, (pss_cons (ps_par (i := 3) (j := 4) (by rfl) sc_law_standard_text.nd rfl rfl (by decide) rfl rfl (pa_cons (pe_ix (ix_listK (K := K) rfl) (pv 1) pe_int (fun _ _ => rfl)) (pa_cons (pe_ix (ix_listK (K := K) rfl) (pv 1) pe_int (fun _ _ => rfl)) pa_nil)) (by rfl))
      (pss_cons (ps_for PassesOwn.never rfl (pi_range1 (by rfl) T.n_range (pa_cons pe_int pa_nil)) (pg_name (i := 5) sc_law_standard_text.nd rfl (Or.inl rfl)) (pss_cons (ps_if (pt_cmpR op_lt (pe_callB call_lenS (by rfl) T.n_len PySem.boot_len (pa_cons (pv 4) pa_nil)) (pv 2) (nomark _)) (pss_cons (ps_par (i := 3) (j := 4) (by rfl) sc_law_standard_text.nd rfl rfl (by decide) rfl rfl (pa_cons (pv 4) (pa_cons (pe_op op_catS (pe_op op_repS (pv 4) (pe_op op_add pe_int (pe_call (ok_law_pick T) (hr.mono (by decide)) (by rfl) T.g1 T.f1.kp T.b1 .nil pass0 (pa_cons (pv 0) (pa_cons pe_int pa_nil))))) (pv 3)) pa_nil)) (by rfl))
      pss_nil) pss_nil)
      pss_nil))
      (pss_cons (ps_ret (pe_slice sl_str (pv 4) po_none (po_some (pv 2))))
      pss_nil))), ?_⟩
    have w0 : W H G0 [a_3] G0 [(a_3, .lst (pot_1.map V.int))] H := W.init1 hs0 h_5 h_4
    refine st_conv (σ' := [some (V.ref a_3), some v_8, some (V.int many_10), none, none, none]) rfl ?_
    refine cps_par (fun x y => [some (V.ref a_3), some v_8, some (V.int many_10), some x, some y, none]) (fun _ _ => rfl) ?_
    refine cps_cons ?_
    obtain ⟨t_13, e_t_13, hm⟩ := bindS hm
    obtain ⟨v_14, r_15, k_16⟩ := k_idxG (K := K) h_9 w0.sub e_t_13
    obtain ⟨rfl, ok_17⟩ := r_15
    refine ev_use (ev_op (ev_var rfl) ev_c k_16) ?_
    refine cps_cons ?_
    obtain ⟨t_18, e_t_18, hm⟩ := bindS hm
    obtain ⟨v_19, r_20, k_21⟩ := k_idxG (K := K) h_9 w0.sub e_t_18
    obtain ⟨rfl, ok_22⟩ := r_20
    refine ev_use (ev_op (ev_var rfl) ev_c k_21) ?_
    refine cps_nil ?_
    refine ⟨_, _, rfl, ?_⟩
    refine cps_forG ?_
    refine cps_rng1 ?_
    refine cps_cons ?_
    refine ev_use ev_c ?_
    refine cps_nil ?_
    obtain ⟨xs_23, e_xs_23, hm⟩ := bindS hm
    obtain ⟨hb_24, hx_26, hl_25⟩ := rng1_ok e_xs_23
    refine ⟨_, rfl, hb_24.1, hb_24.2, ?_⟩
    obtain ⟨res_43, e_res_43, hm⟩ := bindS hm
    refine fold_w3 walk_range (by rw [hx_26]; exact rangeL_len _ _) e_res_43 (fun s1 σ1 H1 => ∃ o1_ : Option V, ∃ G1, σ1 = [some (V.ref a_3), some v_8, some (V.int many_10), some (vS s1.1), some (vS s1.2.1), o1_] ∧ L2.Same G0 G1 ∧ W H G0 [a_3] G1 [(a_3, .lst (s1.2.2.map V.int))] H1 ∧ OkS s1.1 ∧ OkS s1.2.1 ∧ s1.2.2.length ≤ sizeLine) ⟨_, _, rfl, (L2.Same.refl _), w0, ok_17, ok_22, h_6⟩ (fun _ _ _ _ => True.intro) ?_ ?_
    · intro i_27 x_28 s_29 c_30 v_31 sg_32 H_33 H_34 hx_35 hm hP_38 hy_39 N_40 kn_41
      obtain ⟨o_44, G_48, rfl, s_49, w_50, ok_45, ok_46, hl_47⟩ := hP_38
      rw [hx_26] at hx_35
      obtain ⟨rfl, rfl⟩ := rng_item hx_35 hy_39
      refine for_nm (τ := [some (V.ref a_3), some v_8, some (V.int many_10), some (vS s_29.1), some (vS s_29.2.1), some (V.int x_28)]) rfl ?_
      refine s_if0 ?_
      refine et_use (et_test (ev_op (ev_cb (ea_cons (ev_var rfl) ea_nil) (kk_lenS ok_46)) (ev_var rfl) (k_ltI _ _))) ?_
      obtain ⟨j_51, hm_if, hm⟩ := bindS hm
      refine cut_if4 (P := (fun σ1 H1 => ∃ G1, σ1 = [some (V.ref a_3), some v_8, some (V.int many_10), some (vS j_51.1), some (vS j_51.2.1), some (V.int x_28)] ∧ L2.Same G_48 G1 ∧ W H G0 [a_3] G1 [(a_3, .lst (j_51.2.2.map V.int))] H1 ∧ OkS j_51.1 ∧ OkS j_51.2.1 ∧ j_51.2.2.length ≤ sizeLine)) _ ?_ ?_ ?_
      · intro hb_52 N_53 kn_54
        have hm := iteT' hm_if hb_52
        refine cps_par (fun x y => [some (V.ref a_3), some v_8, some (V.int many_10), some x, some y, some (V.int x_28)]) (fun _ _ => rfl) ?_
        refine cps_cons ?_
        refine ev_use (ev_var rfl) ?_
        refine cps_cons ?_
        refine cps_op ?_
        refine cps_op ?_
        refine ev_use (ev_var rfl) ?_
        refine cps_op ?_
        refine ev_use ev_c ?_
        refine cps_call ?_
        refine cps_cons ?_
        refine ev_use (ev_var rfl) ?_
        refine cps_cons ?_
        refine ev_use ev_c ?_
        refine cps_nil ?_
        obtain ⟨r_55, e_r_55, hm⟩ := bindS hm
        refine ⟨a_3, s_29.2.2, (3), (V.int (3)), _, r_55, rfl, w_50.sub, (W.out w_50 _ (List.Mem.head _)), (W.at w_50 0), hl_47, rfl, e_r_55, fun v_61 G_56 H_58 q_57 r_62 hc_63 hcl_64 => ?_⟩
        have w_59 : W H G0 [a_3] G_56 [(a_3, .lst (r_55.2.map V.int))] H_58 := W.callM w_50 0 rfl q_57 hc_63
        obtain rfl := r_62
        refine k_add _ _ _ ?_
        obtain ⟨t_65, e_t_65, hm⟩ := bindS hm
        refine k_rep ok_46 e_t_65 _ ?_
        refine ev_use (ev_var rfl) ?_
        obtain ⟨t_66, e_t_66, hm⟩ := bindS hm
        refine kk_cat e_t_66 _ ?_
        refine cps_nil ?_
        refine ⟨_, _, rfl, ?_⟩
        refine cps_next ?_
        obtain rfl := someI hm
        exact kn_54 _ _ ⟨_, rfl, (Post.base q_57), w_59, ok_46, (OkS.cat (OkS.rep ok_46 e_t_65) ok_45 e_t_66), hcl_64⟩
      · intro hb_52 N_53 kn_54
        have hm := iteF' hm_if hb_52
        refine cps_next ?_
        obtain rfl := someI hm
        exact kn_54 _ _ ⟨_, rfl, (L2.Same.refl _), w_50, ok_45, ok_46, hl_47⟩
      rintro _ H_67 ⟨G_71, rfl, s_72, w_73, ok_68, ok_69, hl_70⟩
      refine cps_next ?_
      obtain rfl := someI hm
      exact kn_41 _ _ ⟨_, _, rfl, (L2.Same.trans s_49 s_72), w_73, ok_68, ok_69, hl_70⟩
    rintro _ H_74 ⟨o_75, G_79, rfl, s_80, w_81, ok_76, ok_77, hl_78⟩
    refine cps_ret ?_
    refine ev_use (ev_sl (ev_var rfl) eo_none (eo_some (ev_var rfl)) (k_cutS ok_77)) ?_
    have er := (someI hm).symm
    subst er
    exact hq _ _ _ (W.post w_81) ⟨rfl, (OkS.cut ok_77 _ _)⟩ (W.at w_81 0) hl_78

theorem sc_law_text_of : FnScope ["_law_pot", "_law_most", "_law_way", "_law_many", "_law_signs", "_law_wide", "_law_text", "_law_at", "_law_place"] ["_law_pot", "_law_most"] (defScope s4) := ⟨rfl, rfl, rfl, by decide +kernel, rfl, by decide +kernel, by decide +kernel⟩
def sp_law_text_of (K : PySem.W.Frag) : Sp := fun vs H Q E => ∃ (a_3 : Addr) (pot_1 : (List Int)) (most_7 : Int) (v_8 : V) (G : Hp) (r : ((List Nat) × (List Int))), vs = [.ref a_3, v_8] ∧ L2.Same G H ∧ G a_3 = none ∧ H a_3 = some (.lst (pot_1.map V.int)) ∧ pot_1.length ≤ sizeLine ∧ pI most_7 v_8 G ∧ m_law_text_of pot_1 most_7 = some r ∧ (∀ v G1 H1, Post [a_3] G H G1 H1 → pS r.1 v G1 → H1 a_3 = some (.lst (r.2.map V.int)) → r.2.length ≤ sizeLine → Q v H1)
theorem ok_law_text_of (T : Txt K mg fa fd) : FnOk P w K mg base CX0 3 (fa 4) (fd 4) ["_law_pot", "_law_most"] (sp_law_text_of K) := by
  refine T.f4.ok sc_law_text_of (fun vs H Q E h => ?_) (fun cdv A outer s H vs Q E hr h => ?_)
  · obtain ⟨_, _, _, _, _, _, rfl, _⟩ := h; rfl
  · obtain ⟨a_3, pot_1, most_7, v_8, G0, r0, rfl, hs0, h_4, h_5, h_6, h_9, hm, hq⟩ := h
    obtain rfl := h_9
    refine ⟨_, (pss_cons (ps_set (i := 2) sc_law_text_of.nd rfl (Or.inl rfl) (pe_call (ok_law_pick T) (hr.mono (by decide)) (by rfl) T.g1 T.f1.kp T.b1 .nil pass0 (pa_cons (pv 0) (pa_cons pe_int pa_nil))))
      (pss_cons (ps_set (i := 3) sc_law_text_of.nd rfl (Or.inl rfl) (pe_call (ok_law_pick T) (hr.mono (by decide)) (by rfl) T.g1 T.f1.kp T.b1 .nil pass0 (pa_cons (pv 0) (pa_cons (pe_op op_add (pv 1) pe_int) pa_nil))))
      (pss_cons (ps_if (pt_cmpR op_eq (pe_call (ok_law_pick T) (hr.mono (by decide)) (by rfl) T.g1 T.f1.kp T.b1 .nil pass0 (pa_cons (pv 0) (pa_cons pe_int pa_nil))) pe_int (nomark _)) (pss_cons (ps_set (i := 3) sc_law_text_of.nd rfl (Or.inl rfl) (pe_ix (ix_tupK (K := K) rfl) (pe_tup (pa_cons pe_int (pa_cons pe_int (pa_cons pe_int (pa_cons (pv 1) pa_nil))))) (pe_call (ok_law_pick T) (hr.mono (by decide)) (by rfl) T.g1 T.f1.kp T.b1 .nil pass0 (pa_cons (pv 0) (pa_cons pe_int pa_nil))) (fun _ _ => rfl)))
      pss_nil) pss_nil)
      (pss_cons (ps_set (i := 4) sc_law_text_of.nd rfl (Or.inr rfl) (pe_call (ok_law_signs_of T) (hr.mono (by decide)) (by rfl) T.g2 T.f2.kp T.b2 .nil pass0 (pa_cons (pv 0) pa_nil)))
      (pss_cons (ps_set (i := 5) sc_law_text_of.nd rfl (Or.inr rfl) (pe_ix (ix_tupK (K := K) rfl) (pe_tup (pa_cons pe_int (pa_cons pe_int (pa_cons pe_int (pa_cons pe_int pa_nil))))) (pe_call (ok_law_pick T) (hr.mono (by decide)) (by rfl) T.g1 T.f1.kp T.b1 .nil pass0 (pa_cons (pv 0) (pa_cons pe_int pa_nil))) (fun _ _ => rfl)))
      (pss_cons (ps_set (i := 6) sc_law_text_of.nd rfl (Or.inl rfl) (pe_joinN (K := K) rfl (pe_join pe_str (pe_lc (own := [("_law_place", 8)]) rfl sc_law_text_of.nd (pi_range1 (by rfl) T.n_range (pa_cons (pv 3) pa_nil)) (blkOk_by (N := ["_law_pot", "_law_most", "_law_way", "_law_many", "_law_signs", "_law_wide", "_law_text", "_law_at", "_law_place"]) (sc := (defScope s4)) (by decide +kernel)) (fun _ _ _ _ _ => (pg_name (i := 8) sc_law_text_of.nd rfl (Or.inl rfl))) (fun _ _ _ _ _ => pts_nil) (fun _ _ _ _ _ => (pe_ix (ix_listK (K := K) rfl) (pv 4) (pe_call (ok_law_pick T) (hr.mono (by decide)) (by rfl) T.g1 T.f1.kp T.b1 .nil pass0 (pa_cons (pv 0) (pa_cons (pv 5) pa_nil))) (fun _ _ => rfl)))))))
      (pss_cons (ps_if (pt_cmpR op_eq (pv 2) pe_int (nomark _)) (pss_cons (ps_set (i := 6) sc_law_text_of.nd rfl (Or.inl rfl) (pe_op op_repS (pe_ix (ix_listK (K := K) rfl) (pv 4) pe_int (fun _ _ => rfl)) (pv 3)))
      pss_nil) pss_nil)
      (pss_cons (ps_if (pt_cmpR op_eq (pv 2) pe_int (nomark _)) (pss_cons (ps_set (i := 6) sc_law_text_of.nd rfl (Or.inl rfl) (pe_slice sl_str (pe_op op_repS (pe_slice sl_str (pv 6) po_none (po_some (pe_op op_add pe_int (pe_call (ok_law_pick T) (hr.mono (by decide)) (by rfl) T.g1 T.f1.kp T.b1 .nil pass0 (pa_cons (pv 0) (pa_cons pe_int pa_nil)))))) (pv 3)) po_none (po_some (pv 3))))
      pss_nil) pss_nil)
      (pss_cons (ps_if (pt_cmpR op_eq (pv 2) pe_int (nomark _)) (pss_cons (ps_set (i := 6) sc_law_text_of.nd rfl (Or.inl rfl) (pe_call (ok_law_standard_text T) (hr.mono (by decide)) (by rfl) T.g3 T.f3.kp T.b3 .nil pass0 (pa_cons (pv 0) (pa_cons (pv 4) (pa_cons (pv 3) pa_nil)))))
      pss_nil) pss_nil)
      (pss_cons (ps_if (PW.pt (pw_and (pt_cmpR op_eq (pv 2) pe_int (nomark _)) (pw_and1 (pt_cmpR op_gt (pv 3) pe_int (nomark _))))) (pss_cons (ps_set (i := 7) sc_law_text_of.nd rfl (Or.inl rfl) (pe_call (ok_law_pick T) (hr.mono (by decide)) (by rfl) T.g1 T.f1.kp T.b1 .nil pass0 (pa_cons (pv 0) (pa_cons (pv 3) pa_nil))))
      (pss_cons (ps_set (i := 6) sc_law_text_of.nd rfl (Or.inl rfl) (pe_op op_catS (pe_op op_catS (pe_op op_repS (pe_ix (ix_listK (K := K) rfl) (pv 4) pe_int (fun _ _ => rfl)) (pv 7)) (pe_ix (ix_listK (K := K) rfl) (pv 4) pe_int (fun _ _ => rfl))) (pe_op op_repS (pe_ix (ix_listK (K := K) rfl) (pv 4) pe_int (fun _ _ => rfl)) (pe_op op_sub (pe_op op_sub (pv 3) (pv 7)) pe_int))))
      pss_nil)) pss_nil)
      (pss_cons (ps_if (pt_cmpR op_eq (pv 2) pe_int (nomark _)) (pss_cons (ps_set (i := 6) sc_law_text_of.nd rfl (Or.inl rfl) (pe_slice sl_str (pe_op op_catS (pe_op op_catS (pe_slice sl_str (pv 6) po_none (po_some (pe_op op_fdiv (pv 3) pe_int))) (pe_revS (pe_slice sl_str (pv 6) po_none (po_some (pe_op op_fdiv (pv 3) pe_int))))) (pv 6)) po_none (po_some (pv 3))))
      pss_nil) pss_nil)
      (pss_cons (ps_ret (pv 6))
      pss_nil)))))))))))), ?_⟩
    have w0 : W H G0 [a_3] G0 [(a_3, .lst (pot_1.map V.int))] H := W.init1 hs0 h_5 h_4
    refine st_conv (σ' := [some (V.ref a_3), some (V.int most_7), none, none, none, none, none, none, none]) rfl ?_
    refine cps_asg (fun x => [some (V.ref a_3), some (V.int most_7), some x, none, none, none, none, none, none]) (fun _ => rfl) ?_
    refine cps_call ?_
    refine cps_cons ?_
    refine ev_use (ev_var rfl) ?_
    refine cps_cons ?_
    refine ev_use ev_c ?_
    refine cps_nil ?_
    obtain ⟨r_10, e_r_10, hm⟩ := bindS hm
    refine ⟨a_3, pot_1, (6), (V.int (6)), _, r_10, rfl, w0.sub, (W.out w0 _ (List.Mem.head _)), (W.at w0 0), h_6, rfl, e_r_10, fun v_16 G_11 H_13 q_12 r_17 hc_18 hcl_19 => ?_⟩
    have w_14 : W H G0 [a_3] G_11 [(a_3, .lst (r_10.2.map V.int))] H_13 := W.callM w0 0 rfl q_12 hc_18
    obtain rfl := r_17
    refine cps_asg (fun x => [some (V.ref a_3), some (V.int most_7), some (V.int r_10.1), some x, none, none, none, none, none]) (fun _ => rfl) ?_
    refine cps_call ?_
    refine cps_cons ?_
    refine ev_use (ev_var rfl) ?_
    refine cps_cons ?_
    refine ev_use (ev_op (ev_var rfl) ev_c (k_add _ _)) ?_
    refine cps_nil ?_
    obtain ⟨r_20, e_r_20, hm⟩ := bindS hm
    refine ⟨a_3, r_10.2, (most_7 + (1)), (V.int (most_7 + (1))), _, r_20, rfl, w_14.sub, (W.out w_14 _ (List.Mem.head _)), (W.at w_14 0), hcl_19, rfl, e_r_20, fun v_26 G_21 H_23 q_22 r_27 hc_28 hcl_29 => ?_⟩
    have w_24 : W H G0 [a_3] G_21 [(a_3, .lst (r_20.2.map V.int))] H_23 := W.callM w_14 0 rfl q_22 hc_28
    obtain rfl := r_27
    refine s_if0 ?_
    refine cps_test ?_
    refine cps_op ?_
    refine cps_call ?_
    refine cps_cons ?_
    refine ev_use (ev_var rfl) ?_
    refine cps_cons ?_
    refine ev_use ev_c ?_
    refine cps_nil ?_
    obtain ⟨r_30, e_r_30, hm⟩ := bindS hm
    refine ⟨a_3, r_20.2, (6), (V.int (6)), _, r_30, rfl, w_24.sub, (W.out w_24 _ (List.Mem.head _)), (W.at w_24 0), hcl_29, rfl, e_r_30, fun v_36 G_31 H_33 q_32 r_37 hc_38 hcl_39 => ?_⟩
    have w_34 : W H G0 [a_3] G_31 [(a_3, .lst (r_30.2.map V.int))] H_33 := W.callM w_24 0 rfl q_32 hc_38
    obtain rfl := r_37
    refine ev_use ev_c ?_
    refine (k_eqI _ _) _ ?_
    refine ⟨_, rfl, ?_⟩
    obtain ⟨j_40, hm_if, hm⟩ := bindS hm
    refine cut_if4 (P := (fun σ1 H1 => ∃ G1, σ1 = [some (V.ref a_3), some (V.int most_7), some (V.int r_10.1), some (V.int j_40.1), none, none, none, none, none] ∧ L2.Same G_31 G1 ∧ W H G0 [a_3] G1 [(a_3, .lst (j_40.2.map V.int))] H1 ∧ j_40.2.length ≤ sizeLine)) _ ?_ ?_ ?_
    · intro hb_41 N_42 kn_43
      have hm := iteT' hm_if hb_41
      refine cps_asg (fun x => [some (V.ref a_3), some (V.int most_7), some (V.int r_10.1), some x, none, none, none, none, none]) (fun _ => rfl) ?_
      refine cps_op ?_
      refine cps_tup ?_
      refine cps_cons ?_
      refine ev_use ev_c ?_
      refine cps_cons ?_
      refine ev_use ev_c ?_
      refine cps_cons ?_
      refine ev_use ev_c ?_
      refine cps_cons ?_
      refine ev_use (ev_var rfl) ?_
      refine cps_nil ?_
      refine ⟨lenle rfl, fun p_44 hp_44 => ?_⟩
      have s_46 := same_lay (o := .tup [(V.int (0)), (V.int (1)), (V.int (2)), (V.int most_7)]) w_34 hp_44
      have r_47 := pT4_new (p := p_44) (W.freshG w_34 hp_44) (show pI (0) (V.int (0)) G_31 from rfl) (show pI (1) (V.int (1)) G_31 from rfl) (show pI (2) (V.int (2)) G_31 from rfl) (show pI most_7 (V.int most_7) G_31 from rfl)
      have w_45 := W.lay w_34 hp_44 (.tup [(V.int (0)), (V.int (1)), (V.int (2)), (V.int most_7)])
      refine cps_call ?_
      refine cps_cons ?_
      refine ev_use (ev_var rfl) ?_
      refine cps_cons ?_
      refine ev_use ev_c ?_
      refine cps_nil ?_
      obtain ⟨r_48, e_r_48, hm⟩ := bindS hm
      refine ⟨a_3, r_30.2, (4), (V.int (4)), _, r_48, rfl, w_45.sub, (W.out w_45 _ (List.Mem.head _)), (W.at w_45 0), hcl_39, rfl, e_r_48, fun v_54 G_49 H_51 q_50 r_55 hc_56 hcl_57 => ?_⟩
      have w_52 : W H G0 [a_3] G_49 [(a_3, .lst (r_48.2.map V.int))] H_51 := W.callM w_45 0 rfl q_50 hc_56
      obtain rfl := r_55
      obtain ⟨t_58, e_t_58, hm⟩ := bindS hm
      have ha_62 : All2 pI G_49 [(0), (1), (2), most_7] [(V.int (0)), (V.int (1)), (V.int (2)), (V.int most_7)] := (All2.cons rfl (All2.cons rfl (All2.cons rfl (All2.cons rfl .nil))))
      obtain ⟨v_59, r_60, k_61⟩ := k_idxTG (K := K) (w_52.sub _ _ ((Post.base q_50) _ _ upd_same)) ha_62 e_t_58
      obtain rfl := r_60
      refine k_61 _ ?_
      refine cps_next ?_
      obtain rfl := someI hm
      exact kn_43 _ _ ⟨_, rfl, (L2.Same.trans s_46 (Post.base q_50)), w_52, hcl_57⟩
    · intro hb_41 N_42 kn_43
      have hm := iteF' hm_if hb_41
      refine cps_next ?_
      obtain rfl := someI hm
      exact kn_43 _ _ ⟨_, rfl, (L2.Same.refl _), w_34, hcl_39⟩
    rintro _ H_63 ⟨G_65, rfl, s_66, w_67, hl_64⟩
    refine cps_asg (fun x => [some (V.ref a_3), some (V.int most_7), some (V.int r_10.1), some (V.int j_40.1), some x, none, none, none, none]) (fun _ => rfl) ?_
    refine cps_call ?_
    refine cps_cons ?_
    refine ev_use (ev_var rfl) ?_
    refine cps_nil ?_
    obtain ⟨r_68, e_r_68, hm⟩ := bindS hm
    refine ⟨a_3, j_40.2, _, r_68, rfl, w_67.sub, (W.out w_67 _ (List.Mem.head _)), (W.at w_67 0), hl_64, e_r_68, fun p_74 vs_75 G_69 H_71 q_70 hp_78 hg_79 hh_80 ha_76 hl_77 hc_81 hcl_82 => ?_⟩
    have hE_83 := W.freshE w_67 hp_78
    have w_72 : W H G0 [a_3] (upd G_69 p_74 (.lst vs_75)) [(a_3, .lst (r_68.2.map V.int))] H_71 := W.callMLay w_67 0 rfl q_70 hc_81 hp_78 hg_79 hh_80
    have r_84 := pL_new hg_79 ha_76 hl_77
    refine cps_asg (fun x => [some (V.ref a_3), some (V.int most_7), some (V.int r_10.1), some (V.int j_40.1), some (V.ref p_74), some x, none, none, none]) (fun _ => rfl) ?_
    refine cps_op ?_
    refine cps_tup ?_
    refine cps_cons ?_
    refine ev_use ev_c ?_
    refine cps_cons ?_
    refine ev_use ev_c ?_
    refine cps_cons ?_
    refine ev_use ev_c ?_
    refine cps_cons ?_
    refine ev_use ev_c ?_
    refine cps_nil ?_
    refine ⟨lenle rfl, fun p_85 hp_85 => ?_⟩
    have s_87 := same_lay (o := .tup [(V.int (2)), (V.int (2)), (V.int (3)), (V.int (26))]) w_72 hp_85
    have r_88 := pT4_new (p := p_85) (W.freshG w_72 hp_85) (show pI (2) (V.int (2)) (upd G_69 p_74 (.lst vs_75)) from rfl) (show pI (2) (V.int (2)) (upd G_69 p_74 (.lst vs_75)) from rfl) (show pI (3) (V.int (3)) (upd G_69 p_74 (.lst vs_75)) from rfl) (show pI (26) (V.int (26)) (upd G_69 p_74 (.lst vs_75)) from rfl)
    have w_86 := W.lay w_72 hp_85 (.tup [(V.int (2)), (V.int (2)), (V.int (3)), (V.int (26))])
    refine cps_call ?_
    refine cps_cons ?_
    refine ev_use (ev_var rfl) ?_
    refine cps_cons ?_
    refine ev_use ev_c ?_
    refine cps_nil ?_
    obtain ⟨r_89, e_r_89, hm⟩ := bindS hm
    refine ⟨a_3, r_68.2, (4), (V.int (4)), _, r_89, rfl, w_86.sub, (W.out w_86 _ (List.Mem.head _)), (W.at w_86 0), hcl_82, rfl, e_r_89, fun v_95 G_90 H_92 q_91 r_96 hc_97 hcl_98 => ?_⟩
    have w_93 : W H G0 [a_3] G_90 [(a_3, .lst (r_89.2.map V.int))] H_92 := W.callM w_86 0 rfl q_91 hc_97
    obtain rfl := r_96
    obtain ⟨t_99, e_t_99, hm⟩ := bindS hm
    have ha_103 : All2 pI G_90 [(2), (2), (3), (26)] [(V.int (2)), (V.int (2)), (V.int (3)), (V.int (26))] := (All2.cons rfl (All2.cons rfl (All2.cons rfl (All2.cons rfl .nil))))
    obtain ⟨v_100, r_101, k_102⟩ := k_idxTG (K := K) (w_93.sub _ _ ((Post.base q_91) _ _ upd_same)) ha_103 e_t_99
    obtain rfl := r_101
    refine k_102 _ ?_
    refine cps_asg (fun x => [some (V.ref a_3), some (V.int most_7), some (V.int r_10.1), some (V.int j_40.1), some (V.ref p_74), some (V.int t_99), some x, none, none]) (fun _ => rfl) ?_
    refine cps_m1 ?_
    refine ev_use (ev_str lit1) ?_
    refine ⟨⟨_, rfl⟩, ?_⟩
    refine cps_lc ?_
    refine cps_rng1 ?_
    refine cps_cons ?_
    refine ev_use (ev_var rfl) ?_
    refine cps_nil ?_
    obtain ⟨xs_104, e_xs_104, hm⟩ := bindS hm
    obtain ⟨hb_105, hx_107, hl_106⟩ := rng1_ok e_xs_104
    refine ⟨_, rfl, hb_105.1, hb_105.2, ?_⟩
    intro D_108 hD_108
    have hE_109 := W.freshE w_93 hD_108
    obtain ⟨ys_149, e_ys_149, hm⟩ := bindS hm
    have w_150 := W.cell w_93 hD_108 (.lst [])
    refine lc_w walk_range (by rw [hx_107]; exact rangeL_len _ _) e_ys_149 hl_106 (fun av acc s H1 => ∃ G1, L2.Same G_90 G1 ∧ W H G0 [a_3] G1 [(D_108, .lst av), (a_3, .lst (s.map V.int))] H1 ∧ All2 pS G1 acc av ∧ s.length ≤ sizeLine) ⟨_, (L2.Same.refl _), w_150, .nil, hcl_98⟩ (fun _ _ _ _ _ => True.intro) ?_ ?_
    · intro i_110 x_111 s_125 r_127 s_126 v_112 av_113 acc_114 H_115 H_116 hx_117 hm hP_119 hlt_120 hy_121 N_122 kn_123 ks_124
      obtain ⟨G_128, s_129, w_130, ha_131, hl_132⟩ := hP_119
      rw [hx_107] at hx_117
      obtain ⟨rfl, rfl⟩ := rng_item hx_117 hy_121
      refine lc_nm (τ := [some (V.ref a_3), some (V.int most_7), some (V.int r_10.1), some (V.int j_40.1), some (V.ref p_74), some (V.int t_99), none, none, some (V.int x_111)]) rfl rfl ?_
      refine iteT_yes ?_
      refine cps_op ?_
      refine ev_use (ev_var rfl) ?_
      refine cps_call ?_
      refine cps_cons ?_
      refine ev_use (ev_var rfl) ?_
      refine cps_cons ?_
      refine ev_use (ev_var rfl) ?_
      refine cps_nil ?_
      obtain ⟨r_133, e_r_133, hm⟩ := bindS hm
      refine ⟨a_3, s_125, t_99, (V.int t_99), _, r_133, rfl, w_130.sub, (W.out w_130 _ (List.Mem.tail _ (List.Mem.head _))), (W.at w_130 1), hl_132, rfl, e_r_133, fun v_139 G_134 H_136 q_135 r_140 hc_141 hcl_142 => ?_⟩
      have w_137 : W H G0 [a_3] G_134 [(D_108, .lst av_113), (a_3, .lst (r_133.2.map V.int))] H_136 := W.callM w_130 1 rfl q_135 hc_141
      obtain rfl := r_140
      obtain ⟨t_143, e_t_143, hm⟩ := bindS hm
      obtain ⟨v_144, r_145, k_146⟩ := k_idxG (K := K) (Mn.mono r_84 (L2.Same.trans s_87 (L2.Same.trans (Post.base q_91) (L2.Same.trans s_129 (Post.base q_135))))) w_137.sub e_t_143
      obtain ⟨rfl, ok_147⟩ := r_145
      refine k_146 _ ?_
      have w_148 : W H G0 [a_3] _ [(D_108, .lst (av_113 ++ [(vS t_143)])), (a_3, .lst (r_133.2.map V.int))] _ := W.write w_137 0 rfl (.lst (av_113 ++ [(vS t_143)]))
      obtain ⟨rfl, rfl⟩ := Prod.mk.inj (someI hm)
      exact ⟨_, (W.at w_137 0), hlt_120, ks_124 _ _ _ rfl ⟨_, (L2.Same.trans s_129 (Post.base q_135)), w_148, (All2.app (All2.mono ha_131 (Post.base q_135)) (All2.one ⟨rfl, ok_147⟩)), hcl_142⟩⟩
    rintro av_151 H_152 ⟨G_153, s_154, w_155, ha_156, hl_157⟩
    have hl_158 : ys_149.1.length ≤ sizeLine := Nat.le_trans (lcS_len e_ys_149) (lenz (by rw [hx_107]; exact rangeL_len _ _) hl_106)
    have s_160 := same_freeze w_155 0 rfl
    have w_159 : W H G0 [a_3] _ [(a_3, .lst (ys_149.2.map V.int))] _ := W.freeze w_155 0 rfl hE_109
    have r_161 := (pL_new (W.out w_155 _ (List.Mem.head _)) ha_156 hl_158)
    obtain ⟨t_162, e_t_162, hm⟩ := bindS hm
    have r_163 := (Mn.mono r_161 w_159.sub)
    refine kk_join (K := K) r_163 e_t_162 _ ?_
    refine s_if0 ?_
    refine et_use (et_test (ev_op (ev_var rfl) ev_c (k_eqI _ _))) ?_
    obtain ⟨j_164, hm_if, hm⟩ := bindS hm
    refine cut_if4 (P := (fun σ1 H1 => ∃ G1, σ1 = [some (V.ref a_3), some (V.int most_7), some (V.int r_10.1), some (V.int j_40.1), some (V.ref p_74), some (V.int t_99), some (vS j_164), none, none] ∧ L2.Same (upd G_153 D_108 (.lst av_151)) G1 ∧ W H G0 [a_3] G1 [(a_3, .lst (ys_149.2.map V.int))] H1 ∧ OkS j_164)) _ ?_ ?_ ?_
    · intro hb_165 N_166 kn_167
      have hm := iteT' hm_if hb_165
      refine cps_asg (fun x => [some (V.ref a_3), some (V.int most_7), some (V.int r_10.1), some (V.int j_40.1), some (V.ref p_74), some (V.int t_99), some x, none, none]) (fun _ => rfl) ?_
      obtain ⟨t_168, e_t_168, hm⟩ := bindS hm
      obtain ⟨v_169, r_170, k_171⟩ := k_idxG (K := K) (Mn.mono r_84 (L2.Same.trans s_87 (L2.Same.trans (Post.base q_91) (L2.Same.trans s_154 s_160)))) w_159.sub e_t_168
      obtain ⟨rfl, ok_172⟩ := r_170
      obtain ⟨t_173, e_t_173, hm⟩ := bindS hm
      refine ev_use (ev_op (ev_op (ev_var rfl) ev_c k_171) (ev_var rfl) (k_rep ok_172 e_t_173)) ?_
      refine cps_next ?_
      obtain rfl := someI hm
      exact kn_167 _ _ ⟨_, rfl, (L2.Same.refl _), w_159, (OkS.rep ok_172 e_t_173)⟩
    · intro hb_165 N_166 kn_167
      have hm := iteF' hm_if hb_165
      refine cps_next ?_
      obtain rfl := someI hm
      exact kn_167 _ _ ⟨_, rfl, (L2.Same.refl _), w_159, (ok_join lit1_ok r_163 e_t_162)⟩
    rintro _ H_174 ⟨G_176, rfl, s_177, w_178, ok_175⟩
    refine s_if0 ?_
    refine et_use (et_test (ev_op (ev_var rfl) ev_c (k_eqI _ _))) ?_
    obtain ⟨j_179, hm_if, hm⟩ := bindS hm
    refine cut_if4 (P := (fun σ1 H1 => ∃ G1, σ1 = [some (V.ref a_3), some (V.int most_7), some (V.int r_10.1), some (V.int j_40.1), some (V.ref p_74), some (V.int t_99), some (vS j_179.1), none, none] ∧ L2.Same G_176 G1 ∧ W H G0 [a_3] G1 [(a_3, .lst (j_179.2.map V.int))] H1 ∧ OkS j_179.1 ∧ j_179.2.length ≤ sizeLine)) _ ?_ ?_ ?_
    · intro hb_180 N_181 kn_182
      have hm := iteT' hm_if hb_180
      refine cps_asg (fun x => [some (V.ref a_3), some (V.int most_7), some (V.int r_10.1), some (V.int j_40.1), some (V.ref p_74), some (V.int t_99), some x, none, none]) (fun _ => rfl) ?_
      refine cps_sl ?_
      refine cps_op ?_
      refine cps_sl ?_
      refine ev_use (ev_var rfl) ?_
      refine cps_nopart ?_
      refine cps_part ?_
      refine cps_op ?_
      refine ev_use ev_c ?_
      refine cps_call ?_
      refine cps_cons ?_
      refine ev_use (ev_var rfl) ?_
      refine cps_cons ?_
      refine ev_use ev_c ?_
      refine cps_nil ?_
      obtain ⟨r_183, e_r_183, hm⟩ := bindS hm
      refine ⟨a_3, ys_149.2, (5), (V.int (5)), _, r_183, rfl, w_178.sub, (W.out w_178 _ (List.Mem.head _)), (W.at w_178 0), hl_157, rfl, e_r_183, fun v_189 G_184 H_186 q_185 r_190 hc_191 hcl_192 => ?_⟩
      have w_187 : W H G0 [a_3] G_184 [(a_3, .lst (r_183.2.map V.int))] H_186 := W.callM w_178 0 rfl q_185 hc_191
      obtain rfl := r_190
      refine k_add _ _ _ ?_
      refine ⟨_, rfl, ?_⟩
      refine k_cutS ok_175 _ ?_
      refine ev_use (ev_var rfl) ?_
      obtain ⟨t_193, e_t_193, hm⟩ := bindS hm
      refine k_rep (OkS.cut ok_175 _ _) e_t_193 _ ?_
      refine cps_nopart ?_
      refine cps_part ?_
      refine ev_use (ev_var rfl) ?_
      refine ⟨_, rfl, ?_⟩
      refine k_cutS (OkS.rep (OkS.cut ok_175 _ _) e_t_193) _ ?_
      refine cps_next ?_
      obtain rfl := someI hm
      exact kn_182 _ _ ⟨_, rfl, (Post.base q_185), w_187, (OkS.cut (OkS.rep (OkS.cut ok_175 _ _) e_t_193) _ _), hcl_192⟩
    · intro hb_180 N_181 kn_182
      have hm := iteF' hm_if hb_180
      refine cps_next ?_
      obtain rfl := someI hm
      exact kn_182 _ _ ⟨_, rfl, (L2.Same.refl _), w_178, ok_175, hl_157⟩
    rintro _ H_194 ⟨G_197, rfl, s_198, w_199, ok_195, hl_196⟩
    refine s_if0 ?_
    refine et_use (et_test (ev_op (ev_var rfl) ev_c (k_eqI _ _))) ?_
    obtain ⟨j_200, hm_if, hm⟩ := bindS hm
    refine cut_if4 (P := (fun σ1 H1 => ∃ G1, σ1 = [some (V.ref a_3), some (V.int most_7), some (V.int r_10.1), some (V.int j_40.1), some (V.ref p_74), some (V.int t_99), some (vS j_200.1), none, none] ∧ L2.Same G_197 G1 ∧ W H G0 [a_3] G1 [(a_3, .lst (j_200.2.map V.int))] H1 ∧ OkS j_200.1 ∧ j_200.2.length ≤ sizeLine)) _ ?_ ?_ ?_
    · intro hb_201 N_202 kn_203
      have hm := iteT' hm_if hb_201
      refine cps_asg (fun x => [some (V.ref a_3), some (V.int most_7), some (V.int r_10.1), some (V.int j_40.1), some (V.ref p_74), some (V.int t_99), some x, none, none]) (fun _ => rfl) ?_
      refine cps_call ?_
      refine cps_cons ?_
      refine ev_use (ev_var rfl) ?_
      refine cps_cons ?_
      refine ev_use (ev_var rfl) ?_
      refine cps_cons ?_
      refine ev_use (ev_var rfl) ?_
      refine cps_nil ?_
      obtain ⟨r_204, e_r_204, hm⟩ := bindS hm
      refine ⟨a_3, j_179.2, r_68.1, (V.ref p_74), j_40.1, (V.int j_40.1), _, r_204, rfl, w_199.sub, (W.out w_199 _ (List.Mem.head _)), (W.at w_199 0), hl_196, (Mn.mono r_84 (L2.Same.trans s_87 (L2.Same.trans (Post.base q_91) (L2.Same.trans s_154 (L2.Same.trans s_160 (L2.Same.trans s_177 s_198)))))), rfl, e_r_204, fun v_210 G_205 H_207 q_206 r_211 hc_212 hcl_213 => ?_⟩
      have w_208 : W H G0 [a_3] G_205 [(a_3, .lst (r_204.2.map V.int))] H_207 := W.callM w_199 0 rfl q_206 hc_212
      obtain ⟨rfl, ok_214⟩ := r_211
      refine cps_next ?_
      obtain rfl := someI hm
      exact kn_203 _ _ ⟨_, rfl, (Post.base q_206), w_208, ok_214, hcl_213⟩
    · intro hb_201 N_202 kn_203
      have hm := iteF' hm_if hb_201
      refine cps_next ?_
      obtain rfl := someI hm
      exact kn_203 _ _ ⟨_, rfl, (L2.Same.refl _), w_199, ok_195, hl_196⟩
    rintro _ H_215 ⟨G_218, rfl, s_219, w_220, ok_216, hl_217⟩
    refine s_if0 ?_
    refine et_use (et_and (et_test (ev_op (ev_var rfl) ev_c (k_eqI _ _))) (fun _ => (et_test (ev_op (ev_var rfl) ev_c (k_gtI _ _))))) ?_
    obtain ⟨j_221, hm_if, hm⟩ := bindS hm
    refine cut_if4 (P := (fun σ1 H1 => ∃ o1_ : Option V, ∃ G1, σ1 = [some (V.ref a_3), some (V.int most_7), some (V.int r_10.1), some (V.int j_40.1), some (V.ref p_74), some (V.int t_99), some (vS j_221.1), o1_, none] ∧ L2.Same G_218 G1 ∧ W H G0 [a_3] G1 [(a_3, .lst (j_221.2.map V.int))] H1 ∧ OkS j_221.1 ∧ j_221.2.length ≤ sizeLine)) _ ?_ ?_ ?_
    · intro hb_222 N_223 kn_224
      have hm := iteT' hm_if hb_222
      refine cps_asg (fun x => [some (V.ref a_3), some (V.int most_7), some (V.int r_10.1), some (V.int j_40.1), some (V.ref p_74), some (V.int t_99), some (vS j_200.1), some x, none]) (fun _ => rfl) ?_
      refine cps_call ?_
      refine cps_cons ?_
      refine ev_use (ev_var rfl) ?_
      refine cps_cons ?_
      refine ev_use (ev_var rfl) ?_
      refine cps_nil ?_
      obtain ⟨r_225, e_r_225, hm⟩ := bindS hm
      refine ⟨a_3, j_200.2, j_40.1, (V.int j_40.1), _, r_225, rfl, w_220.sub, (W.out w_220 _ (List.Mem.head _)), (W.at w_220 0), hl_217, rfl, e_r_225, fun v_231 G_226 H_228 q_227 r_232 hc_233 hcl_234 => ?_⟩
      have w_229 : W H G0 [a_3] G_226 [(a_3, .lst (r_225.2.map V.int))] H_228 := W.callM w_220 0 rfl q_227 hc_233
      obtain rfl := r_232
      refine cps_asg (fun x => [some (V.ref a_3), some (V.int most_7), some (V.int r_10.1), some (V.int j_40.1), some (V.ref p_74), some (V.int t_99), some x, some (V.int r_225.1), none]) (fun _ => rfl) ?_
      obtain ⟨t_235, e_t_235, hm⟩ := bindS hm
      obtain ⟨v_236, r_237, k_238⟩ := k_idxG (K := K) (Mn.mono r_84 (L2.Same.trans s_87 (L2.Same.trans (Post.base q_91) (L2.Same.trans s_154 (L2.Same.trans s_160 (L2.Same.trans s_177 (L2.Same.trans s_198 (L2.Same.trans s_219 (Post.base q_227))))))))) w_229.sub e_t_235
      obtain ⟨rfl, ok_239⟩ := r_237
      obtain ⟨t_240, e_t_240, hm⟩ := bindS hm
      obtain ⟨t_241, e_t_241, hm⟩ := bindS hm
      obtain ⟨v_242, r_243, k_244⟩ := k_idxG (K := K) (Mn.mono r_84 (L2.Same.trans s_87 (L2.Same.trans (Post.base q_91) (L2.Same.trans s_154 (L2.Same.trans s_160 (L2.Same.trans s_177 (L2.Same.trans s_198 (L2.Same.trans s_219 (Post.base q_227))))))))) w_229.sub e_t_241
      obtain ⟨rfl, ok_245⟩ := r_243
      obtain ⟨t_246, e_t_246, hm⟩ := bindS hm
      obtain ⟨t_247, e_t_247, hm⟩ := bindS hm
      obtain ⟨v_248, r_249, k_250⟩ := k_idxG (K := K) (Mn.mono r_84 (L2.Same.trans s_87 (L2.Same.trans (Post.base q_91) (L2.Same.trans s_154 (L2.Same.trans s_160 (L2.Same.trans s_177 (L2.Same.trans s_198 (L2.Same.trans s_219 (Post.base q_227))))))))) w_229.sub e_t_247
      obtain ⟨rfl, ok_251⟩ := r_249
      obtain ⟨t_252, e_t_252, hm⟩ := bindS hm
      obtain ⟨t_253, e_t_253, hm⟩ := bindS hm
      refine ev_use (ev_op (ev_op (ev_op (ev_op (ev_var rfl) ev_c k_238) (ev_var rfl) (k_rep ok_239 e_t_240)) (ev_op (ev_var rfl) ev_c k_244) (kk_cat e_t_246)) (ev_op (ev_op (ev_var rfl) ev_c k_250) (ev_op (ev_op (ev_var rfl) (ev_var rfl) (k_sub _ _)) ev_c (k_sub _ _)) (k_rep ok_251 e_t_252)) (kk_cat e_t_253)) ?_
      refine cps_next ?_
      obtain rfl := someI hm
      exact kn_224 _ _ ⟨_, _, rfl, (Post.base q_227), w_229, (OkS.cat (OkS.cat (OkS.rep ok_239 e_t_240) ok_245 e_t_246) (OkS.rep ok_251 e_t_252) e_t_253), hcl_234⟩
    · intro hb_222 N_223 kn_224
      have hm := iteF' hm_if hb_222
      refine cps_next ?_
      obtain rfl := someI hm
      exact kn_224 _ _ ⟨_, _, rfl, (L2.Same.refl _), w_220, ok_216, hl_217⟩
    rintro _ H_254 ⟨o_255, G_258, rfl, s_259, w_260, ok_256, hl_257⟩
    refine s_if0 ?_
    refine et_use (et_test (ev_op (ev_var rfl) ev_c (k_eqI _ _))) ?_
    obtain ⟨j_261, hm_if, hm⟩ := bindS hm
    refine cut_if4 (P := (fun σ1 H1 => ∃ G1, σ1 = [some (V.ref a_3), some (V.int most_7), some (V.int r_10.1), some (V.int j_40.1), some (V.ref p_74), some (V.int t_99), some (vS j_261), o_255, none] ∧ L2.Same G_258 G1 ∧ W H G0 [a_3] G1 [(a_3, .lst (j_221.2.map V.int))] H1 ∧ OkS j_261)) _ ?_ ?_ ?_
    · intro hb_262 N_263 kn_264
      have hm := iteT' hm_if hb_262
      refine cps_asg (fun x => [some (V.ref a_3), some (V.int most_7), some (V.int r_10.1), some (V.int j_40.1), some (V.ref p_74), some (V.int t_99), some x, o_255, none]) (fun _ => rfl) ?_
      obtain ⟨t_265, e_t_265, hm⟩ := bindS hm
      obtain ⟨t_266, e_t_266, hm⟩ := bindS hm
      obtain ⟨text_267, e_text_267, hm⟩ := bindS hm
      refine ev_use (castS e_text_267 (ev_sl (ev_op (ev_op (ev_sl (ev_var rfl) eo_none (eo_some (ev_op (ev_var rfl) ev_c (k_fdivC _ _ ⟨by decide, by decide⟩))) (k_cutS ok_256)) (ev_revS (ev_sl (ev_var rfl) eo_none (eo_some (ev_op (ev_var rfl) ev_c (k_fdivC _ _ ⟨by decide, by decide⟩))) (k_cutS ok_256)) (OkS.cut ok_256 _ _)) (kk_cat e_t_265)) (ev_var rfl) (kk_cat e_t_266)) eo_none (eo_some (ev_var rfl)) (k_cutS (OkS.cat (OkS.cat (OkS.cut ok_256 _ _) (OkS.rev (OkS.cut ok_256 _ _)) e_t_265) ok_256 e_t_266)))) ?_
      have ok_268 := castOk e_text_267 (OkS.cut (OkS.cat (OkS.cat (OkS.cut ok_256 _ _) (OkS.rev (OkS.cut ok_256 _ _)) e_t_265) ok_256 e_t_266) _ _)
      refine cps_next ?_
      obtain rfl := someI hm
      exact kn_264 _ _ ⟨_, rfl, (L2.Same.refl _), w_260, ok_268⟩
    · intro hb_262 N_263 kn_264
      have hm := iteF' hm_if hb_262
      refine cps_next ?_
      obtain rfl := someI hm
      exact kn_264 _ _ ⟨_, rfl, (L2.Same.refl _), w_260, ok_256⟩
    rintro _ H_269 ⟨G_271, rfl, s_272, w_273, ok_270⟩
    refine cps_ret ?_
    refine ev_use (ev_var rfl) ?_
    have er := (someI hm).symm
    subst er
    exact hq _ _ _ (W.post w_273) ⟨rfl, ok_270⟩ (W.at w_273 0) hl_257

theorem sc_law_word_of : FnScope ["_law_pot", "_law_text", "_law_way", "_law_letter", "_law_at", "_law_word", "_law_spot"] ["_law_pot", "_law_text"] (defScope s5) := ⟨rfl, rfl, rfl, by decide +kernel, rfl, by decide +kernel, by decide +kernel⟩
def sp_law_word_of (K : PySem.W.Frag) : Sp := fun vs H Q E => ∃ (a_3 : Addr) (pot_1 : (List Int)) (text_7 : (List Nat)) (v_8 : V) (G : Hp) (r : ((List Nat) × (List Int))), vs = [.ref a_3, v_8] ∧ L2.Same G H ∧ G a_3 = none ∧ H a_3 = some (.lst (pot_1.map V.int)) ∧ pot_1.length ≤ sizeLine ∧ pS text_7 v_8 G ∧ m_law_word_of pot_1 text_7 = some r ∧ (∀ v G1 H1, Post [a_3] G H G1 H1 → pS r.1 v G1 → H1 a_3 = some (.lst (r.2.map V.int)) → r.2.length ≤ sizeLine → Q v H1)
theorem ok_law_word_of (T : Txt K mg fa fd) : FnOk P w K mg base CX0 2 (fa 5) (fd 5) ["_law_pot", "_law_text"] (sp_law_word_of K) := by
  refine T.f5.ok sc_law_word_of (fun vs H Q E h => ?_) (fun cdv A outer s H vs Q E hr h => ?_)
  · obtain ⟨_, _, _, _, _, _, rfl, _⟩ := h; rfl
  · obtain ⟨a_3, pot_1, text_7, v_8, G0, r0, rfl, hs0, h_4, h_5, h_6, h_9, hm, hq⟩ := h
    obtain ⟨rfl, ok_10⟩ := h_9
    refine ⟨_, (pss_cons (ps_set (i := 2) sc_law_word_of.nd rfl (Or.inl rfl) (pe_call (ok_law_pick T) (hr.mono (by decide)) (by rfl) T.g1 T.f1.kp T.b1 .nil pass0 (pa_cons (pv 0) (pa_cons pe_int pa_nil))))
      (pss_cons (ps_set (i := 3) sc_law_word_of.nd rfl (Or.inl rfl) (pe_ix ix_str pe_str (pe_call (ok_law_pick T) (hr.mono (by decide)) (by rfl) T.g1 T.f1.kp T.b1 .nil pass0 (pa_cons (pv 0) (pa_cons pe_int pa_nil))) (fun _ _ => rfl)))
      (pss_cons (ps_if (PW.pt (pw_or (pt_cmpR op_eq (pv 1) pe_str (nomark _)) (pw_or1 (pt_cmpR op_eq (pv 2) pe_int (nomark _))))) (pss_cons (ps_ret (pe_op op_repS (pv 3) (pe_op op_add pe_int (pe_call (ok_law_pick T) (hr.mono (by decide)) (by rfl) T.g1 T.f1.kp T.b1 .nil pass0 (pa_cons (pv 0) (pa_cons pe_int pa_nil))))))
      pss_nil) pss_nil)
      (pss_cons (ps_set (i := 4) sc_law_word_of.nd rfl (Or.inl rfl) (pe_call (ok_law_pick T) (hr.mono (by decide)) (by rfl) T.g1 T.f1.kp T.b1 .nil pass0 (pa_cons (pv 0) (pa_cons (pe_callB call_lenS (by rfl) T.n_len PySem.boot_len (pa_cons (pv 1) pa_nil)) pa_nil))))
      (pss_cons (ps_set (i := 5) sc_law_word_of.nd rfl (Or.inl rfl) (pe_slice sl_str (pv 1) (po_some (pv 4)) (po_some (pe_op op_add (pe_op op_add (pv 4) pe_int) (pe_call (ok_law_pick T) (hr.mono (by decide)) (by rfl) T.g1 T.f1.kp T.b1 .nil pass0 (pa_cons (pv 0) (pa_cons (pe_op op_sub (pe_callB call_lenS (by rfl) T.n_len PySem.boot_len (pa_cons (pv 1) pa_nil)) (pv 4)) pa_nil)))))))
      (pss_cons (ps_set (i := 6) sc_law_word_of.nd rfl (Or.inl rfl) (pe_call (ok_law_pick T) (hr.mono (by decide)) (by rfl) T.g1 T.f1.kp T.b1 .nil pass0 (pa_cons (pv 0) (pa_cons (pe_callB call_lenS (by rfl) T.n_len PySem.boot_len (pa_cons (pv 5) pa_nil)) pa_nil))))
      (pss_cons (ps_if (pt_cmpR op_eq (pv 2) pe_int (nomark _)) (pss_cons (ps_ret (pe_op op_catS (pe_op op_catS (pe_slice sl_str (pv 5) po_none (po_some (pv 6))) (pv 3)) (pe_slice sl_str (pv 5) (po_some (pe_op op_add (pv 6) pe_int)) po_none)))
      pss_nil) pss_nil)
      (pss_cons (ps_if (pt_cmpR op_eq (pv 2) pe_int (nomark _)) (pss_cons (ps_ret (pe_slice sl_str (pe_op op_catS (pe_op op_catS (pv 5) (pv 3)) (pv 1)) po_none (po_some pe_int)))
      pss_nil) pss_nil)
      (pss_cons (ps_if (pt_cmpR op_eq (pv 2) pe_int (nomark _)) (pss_cons (ps_ret (pe_slice sl_str (pv 5) po_none (po_some (pe_op op_add pe_int (pe_call (ok_law_pick T) (hr.mono (by decide)) (by rfl) T.g1 T.f1.kp T.b1 .nil pass0 (pa_cons (pv 0) (pa_cons pe_int pa_nil)))))))
      pss_nil) pss_nil)
      (pss_cons (ps_ret (pv 5))
      pss_nil)))))))))), ?_⟩
    have w0 : W H G0 [a_3] G0 [(a_3, .lst (pot_1.map V.int))] H := W.init1 hs0 h_5 h_4
    refine st_conv (σ' := [some (V.ref a_3), some (vS text_7), none, none, none, none, none]) rfl ?_
    refine cps_asg (fun x => [some (V.ref a_3), some (vS text_7), some x, none, none, none, none]) (fun _ => rfl) ?_
    refine cps_call ?_
    refine cps_cons ?_
    refine ev_use (ev_var rfl) ?_
    refine cps_cons ?_
    refine ev_use ev_c ?_
    refine cps_nil ?_
    obtain ⟨r_11, e_r_11, hm⟩ := bindS hm
    refine ⟨a_3, pot_1, (6), (V.int (6)), _, r_11, rfl, w0.sub, (W.out w0 _ (List.Mem.head _)), (W.at w0 0), h_6, rfl, e_r_11, fun v_17 G_12 H_14 q_13 r_18 hc_19 hcl_20 => ?_⟩
    have w_15 : W H G0 [a_3] G_12 [(a_3, .lst (r_11.2.map V.int))] H_14 := W.callM w0 0 rfl q_13 hc_19
    obtain rfl := r_18
    refine cps_asg (fun x => [some (V.ref a_3), some (vS text_7), some (V.int r_11.1), some x, none, none, none]) (fun _ => rfl) ?_
    refine cps_op ?_
    refine ev_use (ev_str lit0) ?_
    refine cps_call ?_
    refine cps_cons ?_
    refine ev_use (ev_var rfl) ?_
    refine cps_cons ?_
    refine ev_use ev_c ?_
    refine cps_nil ?_
    obtain ⟨r_21, e_r_21, hm⟩ := bindS hm
    refine ⟨a_3, r_11.2, (26), (V.int (26)), _, r_21, rfl, w_15.sub, (W.out w_15 _ (List.Mem.head _)), (W.at w_15 0), hcl_20, rfl, e_r_21, fun v_27 G_22 H_24 q_23 r_28 hc_29 hcl_30 => ?_⟩
    have w_25 : W H G0 [a_3] G_22 [(a_3, .lst (r_21.2.map V.int))] H_24 := W.callM w_15 0 rfl q_23 hc_29
    obtain rfl := r_28
    obtain ⟨t_31, e_t_31, hm⟩ := bindS hm
    refine k_idxS lit0_ok e_t_31 _ ?_
    refine s_if0 ?_
    refine et_use (et_or (et_test (ev_op (ev_var rfl) (ev_str lit1) (k_eqS _ _))) (fun _ => (et_test (ev_op (ev_var rfl) ev_c (k_eqI _ _))))) ?_
    refine if_cases _ (fun hb_32 => ?_) (fun hb_32 => ?_)
    · have hm := iteT' hm hb_32
      refine cps_ret ?_
      refine cps_op ?_
      refine ev_use (ev_var rfl) ?_
      refine cps_op ?_
      refine ev_use ev_c ?_
      refine cps_call ?_
      refine cps_cons ?_
      refine ev_use (ev_var rfl) ?_
      refine cps_cons ?_
      refine ev_use ev_c ?_
      refine cps_nil ?_
      obtain ⟨r_33, e_r_33, hm⟩ := bindS hm
      refine ⟨a_3, r_21.2, (60), (V.int (60)), _, r_33, rfl, w_25.sub, (W.out w_25 _ (List.Mem.head _)), (W.at w_25 0), hcl_30, rfl, e_r_33, fun v_39 G_34 H_36 q_35 r_40 hc_41 hcl_42 => ?_⟩
      have w_37 : W H G0 [a_3] G_34 [(a_3, .lst (r_33.2.map V.int))] H_36 := W.callM w_25 0 rfl q_35 hc_41
      obtain rfl := r_40
      refine k_add _ _ _ ?_
      obtain ⟨t_43, e_t_43, hm⟩ := bindS hm
      refine k_rep (OkS.idx lit0_ok e_t_31) e_t_43 _ ?_
      have er := (someI hm).symm
      subst er
      exact hq _ _ _ (W.post w_37) ⟨rfl, (OkS.rep (OkS.idx lit0_ok e_t_31) e_t_43)⟩ (W.at w_37 0) hcl_42
    have hm := iteF' hm hb_32
    refine cps_nextR ?_
    refine cps_asg (fun x => [some (V.ref a_3), some (vS text_7), some (V.int r_11.1), some (vS t_31), some x, none, none]) (fun _ => rfl) ?_
    refine cps_call ?_
    refine cps_cons ?_
    refine ev_use (ev_var rfl) ?_
    refine cps_cons ?_
    refine ev_use (ev_cb (ea_cons (ev_var rfl) ea_nil) (kk_lenS ok_10)) ?_
    refine cps_nil ?_
    obtain ⟨r_44, e_r_44, hm⟩ := bindS hm
    refine ⟨a_3, r_21.2, ((text_7).length : Int), (V.int ((text_7).length : Int)), _, r_44, rfl, w_25.sub, (W.out w_25 _ (List.Mem.head _)), (W.at w_25 0), hcl_30, rfl, e_r_44, fun v_50 G_45 H_47 q_46 r_51 hc_52 hcl_53 => ?_⟩
    have w_48 : W H G0 [a_3] G_45 [(a_3, .lst (r_44.2.map V.int))] H_47 := W.callM w_25 0 rfl q_46 hc_52
    obtain rfl := r_51
    refine cps_asg (fun x => [some (V.ref a_3), some (vS text_7), some (V.int r_11.1), some (vS t_31), some (V.int r_44.1), some x, none]) (fun _ => rfl) ?_
    refine cps_sl ?_
    refine ev_use (ev_var rfl) ?_
    refine cps_part ?_
    refine ev_use (ev_var rfl) ?_
    refine ⟨_, rfl, ?_⟩
    refine cps_part ?_
    refine cps_op ?_
    refine ev_use (ev_op (ev_var rfl) ev_c (k_add _ _)) ?_
    refine cps_call ?_
    refine cps_cons ?_
    refine ev_use (ev_var rfl) ?_
    refine cps_cons ?_
    refine ev_use (ev_op (ev_cb (ea_cons (ev_var rfl) ea_nil) (kk_lenS ok_10)) (ev_var rfl) (k_sub _ _)) ?_
    refine cps_nil ?_
    obtain ⟨r_54, e_r_54, hm⟩ := bindS hm
    refine ⟨a_3, r_44.2, (((text_7).length : Int) - r_44.1), (V.int (((text_7).length : Int) - r_44.1)), _, r_54, rfl, w_48.sub, (W.out w_48 _ (List.Mem.head _)), (W.at w_48 0), hcl_53, rfl, e_r_54, fun v_60 G_55 H_57 q_56 r_61 hc_62 hcl_63 => ?_⟩
    have w_58 : W H G0 [a_3] G_55 [(a_3, .lst (r_54.2.map V.int))] H_57 := W.callM w_48 0 rfl q_56 hc_62
    obtain rfl := r_61
    refine k_add _ _ _ ?_
    refine ⟨_, rfl, ?_⟩
    refine k_cutS ok_10 _ ?_
    refine cps_asg (fun x => [some (V.ref a_3), some (vS text_7), some (V.int r_11.1), some (vS t_31), some (V.int r_44.1), some (vS (cutL text_7 (some r_44.1) (some ((r_44.1 + (1)) + r_54.1)))), some x]) (fun _ => rfl) ?_
    refine cps_call ?_
    refine cps_cons ?_
    refine ev_use (ev_var rfl) ?_
    refine cps_cons ?_
    refine ev_use (ev_cb (ea_cons (ev_var rfl) ea_nil) (kk_lenS (OkS.cut ok_10 _ _))) ?_
    refine cps_nil ?_
    obtain ⟨r_64, e_r_64, hm⟩ := bindS hm
    refine ⟨a_3, r_54.2, (((cutL text_7 (some r_44.1) (some ((r_44.1 + (1)) + r_54.1)))).length : Int), (V.int (((cutL text_7 (some r_44.1) (some ((r_44.1 + (1)) + r_54.1)))).length : Int)), _, r_64, rfl, w_58.sub, (W.out w_58 _ (List.Mem.head _)), (W.at w_58 0), hcl_63, rfl, e_r_64, fun v_70 G_65 H_67 q_66 r_71 hc_72 hcl_73 => ?_⟩
    have w_68 : W H G0 [a_3] G_65 [(a_3, .lst (r_64.2.map V.int))] H_67 := W.callM w_58 0 rfl q_66 hc_72
    obtain rfl := r_71
    refine s_if0 ?_
    refine et_use (et_test (ev_op (ev_var rfl) ev_c (k_eqI _ _))) ?_
    refine if_cases _ (fun hb_74 => ?_) (fun hb_74 => ?_)
    · have hm := iteT' hm hb_74
      refine cps_ret ?_
      obtain ⟨t_75, e_t_75, hm⟩ := bindS hm
      obtain ⟨t_76, e_t_76, hm⟩ := bindS hm
      refine ev_use (ev_op (ev_op (ev_sl (ev_var rfl) eo_none (eo_some (ev_var rfl)) (k_cutS (OkS.cut ok_10 _ _))) (ev_var rfl) (kk_cat e_t_75)) (ev_sl (ev_var rfl) (eo_some (ev_op (ev_var rfl) ev_c (k_add _ _))) eo_none (k_cutS (OkS.cut ok_10 _ _))) (kk_cat e_t_76)) ?_
      have er := (someI hm).symm
      subst er
      exact hq _ _ _ (W.post w_68) ⟨rfl, (OkS.cat (OkS.cat (OkS.cut (OkS.cut ok_10 _ _) _ _) (OkS.idx lit0_ok e_t_31) e_t_75) (OkS.cut (OkS.cut ok_10 _ _) _ _) e_t_76)⟩ (W.at w_68 0) hcl_73
    have hm := iteF' hm hb_74
    refine cps_nextR ?_
    refine s_if0 ?_
    refine et_use (et_test (ev_op (ev_var rfl) ev_c (k_eqI _ _))) ?_
    refine if_cases _ (fun hb_77 => ?_) (fun hb_77 => ?_)
    · have hm := iteT' hm hb_77
      refine cps_ret ?_
      obtain ⟨t_78, e_t_78, hm⟩ := bindS hm
      obtain ⟨t_79, e_t_79, hm⟩ := bindS hm
      refine ev_use (ev_sl (ev_op (ev_op (ev_var rfl) (ev_var rfl) (kk_cat e_t_78)) (ev_var rfl) (kk_cat e_t_79)) eo_none (eo_some ev_c) (k_cutS (OkS.cat (OkS.cat (OkS.cut ok_10 _ _) (OkS.idx lit0_ok e_t_31) e_t_78) ok_10 e_t_79))) ?_
      have er := (someI hm).symm
      subst er
      exact hq _ _ _ (W.post w_68) ⟨rfl, (OkS.cut (OkS.cat (OkS.cat (OkS.cut ok_10 _ _) (OkS.idx lit0_ok e_t_31) e_t_78) ok_10 e_t_79) _ _)⟩ (W.at w_68 0) hcl_73
    have hm := iteF' hm hb_77
    refine cps_nextR ?_
    refine s_if0 ?_
    refine et_use (et_test (ev_op (ev_var rfl) ev_c (k_eqI _ _))) ?_
    refine if_cases _ (fun hb_80 => ?_) (fun hb_80 => ?_)
    · have hm := iteT' hm hb_80
      refine cps_ret ?_
      refine cps_sl ?_
      refine ev_use (ev_var rfl) ?_
      refine cps_nopart ?_
      refine cps_part ?_
      refine cps_op ?_
      refine ev_use ev_c ?_
      refine cps_call ?_
      refine cps_cons ?_
      refine ev_use (ev_var rfl) ?_
      refine cps_cons ?_
      refine ev_use ev_c ?_
      refine cps_nil ?_
      obtain ⟨r_81, e_r_81, hm⟩ := bindS hm
      refine ⟨a_3, r_64.2, (3), (V.int (3)), _, r_81, rfl, w_68.sub, (W.out w_68 _ (List.Mem.head _)), (W.at w_68 0), hcl_73, rfl, e_r_81, fun v_87 G_82 H_84 q_83 r_88 hc_89 hcl_90 => ?_⟩
      have w_85 : W H G0 [a_3] G_82 [(a_3, .lst (r_81.2.map V.int))] H_84 := W.callM w_68 0 rfl q_83 hc_89
      obtain rfl := r_88
      refine k_add _ _ _ ?_
      refine ⟨_, rfl, ?_⟩
      refine k_cutS (OkS.cut ok_10 _ _) _ ?_
      have er := (someI hm).symm
      subst er
      exact hq _ _ _ (W.post w_85) ⟨rfl, (OkS.cut (OkS.cut ok_10 _ _) _ _)⟩ (W.at w_85 0) hcl_90
    have hm := iteF' hm hb_80
    refine cps_nextR ?_
    refine cps_ret ?_
    refine ev_use (ev_var rfl) ?_
    have er := (someI hm).symm
    subst er
    exact hq _ _ _ (W.post w_68) ⟨rfl, (OkS.cut ok_10 _ _)⟩ (W.at w_68 0) hcl_73

theorem sc_places : FnScope ["row", "word", "many", "place"] ["row", "word"] (defScope s6) := ⟨rfl, rfl, rfl, by decide +kernel, rfl, by decide +kernel, by decide +kernel⟩
def sp_places (K : PySem.W.Frag) : Sp := fun vs H Q E => ∃ (row_1 : (List Nat)) (v_2 : V) (word_4 : (List Nat)) (v_5 : V) (G : Hp) (r : (List Int)), vs = [v_2, v_5] ∧ L2.Same G H ∧ pS row_1 v_2 G ∧ pS word_4 v_5 G ∧ m_places row_1 word_4 = some r ∧ (∀ p vs G1 H1, Post [] G H G1 H1 → H p = none → G1 p = none → H1 p = some (.lst vs) → All2 pI G1 r vs → r.length ≤ sizeLine → Q (.ref p) H1)
theorem ok_places (T : Txt K mg fa fd) : FnOk P w K mg base CX0 1 (fa 6) (fd 6) ["row", "word"] (sp_places K) := by
  refine T.f6.ok sc_places (fun vs H Q E h => ?_) (fun cdv A outer s H vs Q E hr h => ?_)
  · obtain ⟨_, _, _, _, _, _, rfl, _⟩ := h; rfl
  · obtain ⟨row_1, v_2, word_4, v_5, G0, r0, rfl, hs0, h_3, h_6, hm, hq⟩ := h
    obtain ⟨rfl, ok_7⟩ := h_3
    obtain ⟨rfl, ok_8⟩ := h_6
    refine ⟨_, (pss_cons (ps_set (i := 2) sc_places.nd rfl (Or.inr rfl) (pe_callB call_lenS (by rfl) T.n_len PySem.boot_len (pa_cons (pv 1) pa_nil)))
      (pss_cons (ps_ret (pe_lc (own := [("place", 3)]) rfl sc_places.nd (pi_range1 (by rfl) T.n_range (pa_cons (pe_op op_add (pe_op op_sub (pe_callB call_lenS (by rfl) T.n_len PySem.boot_len (pa_cons (pv 0) pa_nil)) (pv 2)) pe_int) pa_nil)) (blkOk_by (N := ["row", "word", "many", "place"]) (sc := (defScope s6)) (by decide +kernel)) (fun _ _ _ _ _ => (pg_name (i := 3) sc_places.nd rfl (Or.inl rfl))) (fun _ _ _ _ _ => (pts_one (pt_cmpR op_eq (pe_slice sl_str (pv 0) (po_some (pv 3)) (po_some (pe_op op_add (pv 3) (pv 2)))) (pv 1) (nomark _)))) (fun _ _ _ _ _ => (pv 3))))
      pss_nil)), ?_⟩
    have w0 : W H G0 [] G0 [] H := W.init hs0
    refine st_conv (σ' := [some (vS row_1), some (vS word_4), none, none]) rfl ?_
    refine cps_asg (fun x => [some (vS row_1), some (vS word_4), some x, none]) (fun _ => rfl) ?_
    obtain ⟨many_9, e_many_9, hm⟩ := bindS hm
    refine ev_use (castI e_many_9 (ev_cb (ea_cons (ev_var rfl) ea_nil) (kk_lenS ok_8))) ?_
    refine cps_ret ?_
    refine cps_lc ?_
    refine cps_rng1 ?_
    refine cps_cons ?_
    refine ev_use (ev_op (ev_op (ev_cb (ea_cons (ev_var rfl) ea_nil) (kk_lenS ok_7)) (ev_var rfl) (k_sub _ _)) ev_c (k_add _ _)) ?_
    refine cps_nil ?_
    obtain ⟨xs_10, e_xs_10, hm⟩ := bindS hm
    obtain ⟨hb_11, hx_13, hl_12⟩ := rng1_ok e_xs_10
    refine ⟨_, rfl, hb_11.1, hb_11.2, ?_⟩
    intro D_14 hD_14
    have hE_15 := W.freshE w0 hD_14
    obtain ⟨ys_40, e_ys_40, hm⟩ := bindS hm
    have w_41 := W.cell w0 hD_14 (.lst [])
    refine lc_wP walk_range (by rw [hx_13]; exact rangeL_len _ _) e_ys_40 hl_12 (fun av acc H1 => ∃ G1, L2.Same G0 G1 ∧ W H G0 [] G1 [(D_14, .lst av)] H1 ∧ All2 pI G1 acc av) ⟨_, (L2.Same.refl _), w_41, .nil⟩ (fun _ _ _ _ => True.intro) ?_ ?_
    · intro i_16 x_17 r_33 v_18 av_19 acc_20 H_21 H_22 hx_23 hm hP_25 hlt_26 hy_27 N_28 kn_29 ks_30
      obtain ⟨G_34, s_35, w_36, ha_37⟩ := hP_25
      rw [hx_13] at hx_23
      obtain ⟨rfl, rfl⟩ := rng_item hx_23 hy_27
      refine lc_nm (τ := [some (vS row_1), some (vS word_4), some (V.int many_9), some (V.int x_17)]) rfl rfl ?_
      refine et_use (et_test (ev_op (ev_sl (ev_var rfl) (eo_some (ev_var rfl)) (eo_some (ev_op (ev_var rfl) (ev_var rfl) (k_add _ _))) (k_cutS ok_7)) (ev_var rfl) (k_eqS _ _))) ?_
      refine if_cases _ (fun hb_38 => ?_) (fun hb_38 => ?_)
      · have hm := iteT' hm hb_38
        refine ev_use (ev_var rfl) ?_
        have w_39 : W H G0 [] _ [(D_14, .lst (av_19 ++ [(V.int x_17)]))] _ := W.write w_36 0 rfl (.lst (av_19 ++ [(V.int x_17)]))
        obtain rfl := someI hm
        exact ⟨_, (W.at w_36 0), hlt_26, ks_30 _ _ _ rfl ⟨_, s_35, w_39, (All2.app ha_37 (All2.one rfl))⟩⟩
      · have hm := iteF' hm hb_38
        obtain rfl := someI hm
        exact kn_29 rfl _ ⟨_, s_35, w_36, ha_37⟩
    rintro av_42 H_43 ⟨G_44, s_45, w_46, ha_47⟩
    obtain rfl := All2.int ha_47
    have hl_48 : ys_40.length ≤ sizeLine := Nat.le_trans (lcP_len e_ys_40) (lenz (by rw [hx_13]; exact rangeL_len _ _) hl_12)
    have er := (someI hm).symm
    subst er
    exact hq _ _ _ _ (W.post w_46) hE_15 (W.out w_46 _ (List.Mem.head _)) (W.at w_46 0) ha_47 hl_48 

theorem sc_law_whole : FnScope ["_law_thing"] ["_law_thing"] (defScope s7) := ⟨rfl, rfl, rfl, by decide +kernel, rfl, by decide +kernel, by decide +kernel⟩
def sp_law_whole (K : PySem.W.Frag) : Sp := fun vs H Q E => ∃ (thing_1 : Int) (v_2 : V) (G : Hp) (r : Bool), vs = [v_2] ∧ L2.Same G H ∧ pI thing_1 v_2 G ∧ m_law_whole thing_1 = some r ∧ (∀ v G1 H1, Post [] G H G1 H1 → pB r v G1 → Q v H1)
theorem ok_law_whole (T : Txt K mg fa fd) : FnOk P w K mg base CX0 1 (fa 7) (fd 7) ["_law_thing"] (sp_law_whole K) := by
  refine T.f7.ok sc_law_whole (fun vs H Q E h => ?_) (fun cdv A outer s H vs Q E hr h => ?_)
  · obtain ⟨_, _, _, _, rfl, _⟩ := h; rfl
  · obtain ⟨thing_1, v_2, G0, r0, rfl, hs0, h_3, hm, hq⟩ := h
    obtain rfl := h_3
    refine ⟨_, (pss_cons (ps_ret (pe_and (pe_callB (call_isK (K := K) rfl) (by rfl) T.n_isinstance (by decide +kernel) (pa_cons (pv 0) (pa_cons (pe_bltn (v := .ty "int") (by rfl) T.n_int (by decide +kernel) rfl) pa_nil))) (pe_one (pe_not (pe_callB (call_isK (K := K) rfl) (by rfl) T.n_isinstance (by decide +kernel) (pa_cons (pv 0) (pa_cons (pe_bltn (v := .ty "bool") (by rfl) T.n_bool (by decide +kernel) rfl) pa_nil)))))))
      pss_nil), ?_⟩
    have w0 : W H G0 [] G0 [] H := W.init hs0
    refine st_conv (σ' := [some (V.int thing_1)]) rfl ?_
    refine cps_ret ?_
    refine ev_use (ev_and (ev_cb (ea_cons (ev_var rfl) (ea_cons ev_c ea_nil)) (isiT (K := K) (b := true) (tyI _) (by decide +kernel))) (fun _ => (ev_not (ev_cb (ea_cons (ev_var rfl) (ea_cons ev_c ea_nil)) (isiT (K := K) (b := false) (tyI _) (by decide +kernel)))))) ?_
    have er := (someI hm).symm
    subst er
    exact hq _ _ _ (W.post w0) rfl 

theorem sc_law : FnScope ["_law_script", "_law_k", "_law_pot", "_law_text", "_law_turn", "_law_word", "_law_due", "_law_found", "_law_at", "_law_place"] ["_law_script"] (defScope s8) := ⟨rfl, rfl, rfl, by decide +kernel, rfl, by decide +kernel, by decide +kernel⟩
def sp_law (K : PySem.W.Frag) : Sp := fun vs H Q E => ∃ (script_1 : (List Int)) (v_2 : V) (G : Hp) (r : Bool), vs = [v_2] ∧ L2.Same G H ∧ (pScr K) script_1 v_2 G ∧ m_law script_1 = some r ∧ (∀ v G1 H1, Post [] G H G1 H1 → pB r v G1 → Q v H1)
theorem ok_law (T : Txt K mg fa fd) : FnOk P w K mg base CX0 4 (fa 8) (fd 8) ["_law_script"] (sp_law K) := by
  refine T.f8.ok sc_law (fun vs H Q E h => ?_) (fun cdv A outer s H vs Q E hr h => ?_)
  · obtain ⟨_, _, _, _, rfl, _⟩ := h; rfl
  · obtain ⟨script_1, v_2, G0, r0, rfl, hs0, h_3, hm, hq⟩ := h
    refine ⟨_, (pss_cons (ps_for PassesOwn.never rfl (pi_range1 (by rfl) T.n_range (pa_cons (pe_callB (call_max2I rfl) (by rfl) T.n_max (by decide +kernel) (pa_cons pe_int (pa_cons (pe_callB (call_min2I rfl) (by rfl) T.n_min (by decide +kernel) (pa_cons (pe_callB (call_lenQ (K := K) rfl) (by rfl) T.n_len PySem.boot_len (pa_cons (pv 0) pa_nil)) (pa_cons pe_int pa_nil))) pa_nil))) pa_nil)) (pg_name (i := 1) sc_law.nd rfl (Or.inl rfl)) (pss_cons (ps_set (i := 2) sc_law.nd rfl (Or.inl rfl) (pe_call (ok_law_pot_of T) (hr.mono (by decide)) (by rfl) T.g0 T.f0.kp T.b0 .nil pass0 (pa_cons (pv 0) (pa_cons (pv 1) pa_nil))))
      (pss_cons (ps_set (i := 3) sc_law.nd rfl (Or.inr rfl) (pe_call (ok_law_text_of T) (hr.mono (by decide)) (by rfl) T.g4 T.f4.kp T.b4 .nil pass0 (pa_cons (pv 2) (pa_cons (pe_ix (ix_tupK (K := K) rfl) (pe_tup (pa_cons pe_int (pa_cons pe_int (pa_cons pe_int pa_nil)))) (pe_call (ok_law_pick T) (hr.mono (by decide)) (by rfl) T.g1 T.f1.kp T.b1 .nil pass0 (pa_cons (pv 2) (pa_cons pe_int pa_nil))) (fun _ _ => rfl)) pa_nil))))
      (pss_cons (ps_for PassesOwn.never rfl (pi_range1 (by rfl) T.n_range (pa_cons pe_int pa_nil)) (pg_name (i := 4) sc_law.nd rfl (Or.inl rfl)) (pss_cons (ps_set (i := 5) sc_law.nd rfl (Or.inr rfl) (pe_call (ok_law_word_of T) (hr.mono (by decide)) (by rfl) T.g5 T.f5.kp T.b5 .nil pass0 (pa_cons (pv 2) (pa_cons (pv 3) pa_nil))))
      (pss_cons (ps_setLc (i := 6) (own := [("_law_at", 8)]) rfl sc_law.nd rfl rfl (sw_true rfl rfl rfl (by decide +kernel)) (pi_range1 (by rfl) T.n_range (pa_cons (pe_callB call_lenS (by rfl) T.n_len PySem.boot_len (pa_cons (pv 3) pa_nil)) pa_nil)) (blkOk_by (N := ["_law_script", "_law_k", "_law_pot", "_law_text", "_law_turn", "_law_word", "_law_due", "_law_found", "_law_at", "_law_place"]) (sc := (defScope s8)) (by decide +kernel)) (fun _ _ _ _ _ => (pg_name (i := 8) sc_law.nd rfl (Or.inl rfl))) (fun _ _ _ _ _ => (pts_one (pt_cmpR op_eq (pe_slice sl_str (pv 3) (po_some (pv 8)) (po_some (pe_op op_add (pv 8) (pe_callB call_lenS (by rfl) T.n_len PySem.boot_len (pa_cons (pv 5) pa_nil))))) (pv 5) (nomark _)))) (fun _ _ _ _ _ => (pv 8)))
      (pss_cons (ps_set (i := 7) sc_law.nd rfl (Or.inl rfl) (pe_call (ok_places T) (hr.mono (by decide)) (by rfl) T.g6 T.f6.kp T.b6 .nil pass0 (pa_cons (pv 3) (pa_cons (pv 5) pa_nil))))
      (pss_cons (ps_if (PW.pt (pw_or (pt_not (pt_val (pe_callB (call_isK (K := K) rfl) (by rfl) T.n_isinstance (by decide +kernel) (pa_cons (pv 7) (pa_cons (pe_bltn (v := .ty "list") (by rfl) T.n_list (by decide +kernel) rfl) pa_nil))))) (pw_or (pt_cmpR (op_neDK (K := K) rfl hr.units) (pv 7) (pv 6) (nomark _)) (pw_or1 (pt_not (pt_val (pe_callB (cr_allK (K := K) rfl rfl) (by rfl) T.n_all (by decide +kernel) (pa_cons (pe_lc (own := [("_law_place", 9)]) rfl sc_law.nd (pi_listK (K := K) rfl (pv 7)) (blkOk_by (N := ["_law_script", "_law_k", "_law_pot", "_law_text", "_law_turn", "_law_word", "_law_due", "_law_found", "_law_at", "_law_place"]) (sc := (defScope s8)) (by decide +kernel)) (fun _ _ _ _ _ => (pg_name (i := 9) sc_law.nd rfl (Or.inl rfl))) (fun _ _ _ _ _ => pts_nil) (fun _ _ _ _ _ => (pe_call (ok_law_whole T) (hr.mono (by decide)) (by rfl) T.g7 T.f7.kp T.b7 .nil pass0 (pa_cons (pv 9) pa_nil)))) pa_nil)))))))) (pss_cons (ps_ret pe_bl)
      pss_nil) pss_nil)
      (pss_cons (ps_expr (pe_bmK (K := K) rfl (pe_bm PySem.F.plainAttrs_list PySem.F.slot_list_append PySem.F.type_list_append mt_append (pv 7) (pa_cons pe_int pa_nil))))
      (pss_cons (ps_if (pt_cmpR (op_neDK (K := K) rfl hr.units) (pe_call (ok_places T) (hr.mono (by decide)) (by rfl) T.g6 T.f6.kp T.b6 .nil pass0 (pa_cons (pv 3) (pa_cons (pv 5) pa_nil))) (pv 6) (nomark _)) (pss_cons (ps_ret pe_bl)
      pss_nil) pss_nil)
      pss_nil)))))))
      pss_nil))))
      (pss_cons (ps_ret pe_bl)
      pss_nil)), ?_⟩
    have w0 : W H G0 [] G0 [] H := W.init hs0
    refine st_conv (σ' := [some v_2, none, none, none, none, none, none, none, none, none]) rfl ?_
    refine cps_forG ?_
    refine cps_rng1 ?_
    refine cps_cons ?_
    refine ev_use (ev_cb (ea_cons ev_c (ea_cons (ev_cb (ea_cons (ev_cb (ea_cons (ev_var rfl) ea_nil) (kk_lenScr (Mn.mono h_3 w0.sub))) (ea_cons ev_c ea_nil)) (kk_min2 _ _)) ea_nil)) (kk_max2 _ _)) ?_
    refine cps_nil ?_
    obtain ⟨xs_4, e_xs_4, hm⟩ := bindS hm
    obtain ⟨hb_5, hx_7, hl_6⟩ := rng1_ok e_xs_4
    refine ⟨_, rfl, hb_5.1, hb_5.2, ?_⟩
    obtain ⟨res_24, e_res_24, hm⟩ := bindS hm
    have hR_res_24 : ∀ r, res_24 = .rt r → r0 = r := fun r e => (ctlK_rt hm e)
    refine loop_w3 walk_range (by rw [hx_7]; exact rangeL_len _ _) e_res_24 (fun s1 σ1 H1 => ∃ o1_ : Option V, ∃ o2_ : Option V, ∃ o3_ : Option V, ∃ o4_ : Option V, ∃ o5_ : Option V, ∃ o6_ : Option V, ∃ o7_ : Option V, ∃ G1, σ1 = [some v_2, o7_, o1_, o2_, o3_, o4_, o5_, o6_, none, none] ∧ L2.Same G0 G1 ∧ W H G0 [] G1 [] H1) ⟨_, _, _, _, _, _, _, _, rfl, (L2.Same.refl _), w0⟩ (fun _ _ _ _ => True.intro) ?_ ?_
    · intro i_8 x_9 s_10 c_11 v_12 sg_13 H_14 H_15 hx_16 hm hR_18 hP_19 hy_20 N_21 kn_22 kb_23
      obtain ⟨o_25, o_26, o_27, o_28, o_29, o_30, o_31, G_32, rfl, s_33, w_34⟩ := hP_19
      rw [hx_7] at hx_16
      obtain ⟨rfl, rfl⟩ := rng_item hx_16 hy_20
      refine for_nm (τ := [some v_2, some (V.int x_9), o_25, o_26, o_27, o_28, o_29, o_30, none, none]) rfl ?_
      refine cps_asg (fun x => [some v_2, some (V.int x_9), some x, o_26, o_27, o_28, o_29, o_30, none, none]) (fun _ => rfl) ?_
      refine cps_call ?_
      refine cps_cons ?_
      refine ev_use (ev_var rfl) ?_
      refine cps_cons ?_
      refine ev_use (ev_var rfl) ?_
      refine cps_nil ?_
      obtain ⟨r_35, e_r_35, hm⟩ := bindS hm
      refine ⟨script_1, v_2, x_9, (V.int x_9), _, r_35, rfl, w_34.sub, (Mn.mono h_3 s_33), rfl, e_r_35, fun p_41 vs_42 G_36 H_38 q_37 hp_45 hg_46 hh_47 ha_43 hl_44 => ?_⟩
      have hE_48 := W.freshE w_34 hp_45
      obtain rfl := All2.int ha_43
      have w_39 := W.callOwn w_34 q_37 hp_45 hg_46 hh_47
      refine cps_asg (fun x => [some v_2, some (V.int x_9), some (V.ref p_41), some x, o_27, o_28, o_29, o_30, none, none]) (fun _ => rfl) ?_
      refine cps_call ?_
      refine cps_cons ?_
      refine ev_use (ev_var rfl) ?_
      refine cps_cons ?_
      refine cps_op ?_
      refine cps_tup ?_
      refine cps_cons ?_
      refine ev_use ev_c ?_
      refine cps_cons ?_
      refine ev_use ev_c ?_
      refine cps_cons ?_
      refine ev_use ev_c ?_
      refine cps_nil ?_
      refine ⟨lenle rfl, fun p_49 hp_49 => ?_⟩
      have s_51 := same_lay (o := .tup [(V.int (40)), (V.int (40)), (V.int (60))]) w_39 hp_49
      have r_52 := pT3_new (p := p_49) (W.freshG w_39 hp_49) (show pI (40) (V.int (40)) G_36 from rfl) (show pI (40) (V.int (40)) G_36 from rfl) (show pI (60) (V.int (60)) G_36 from rfl)
      have w_50 := W.lay w_39 hp_49 (.tup [(V.int (40)), (V.int (40)), (V.int (60))])
      refine cps_call ?_
      refine cps_cons ?_
      refine ev_use (ev_var rfl) ?_
      refine cps_cons ?_
      refine ev_use ev_c ?_
      refine cps_nil ?_
      obtain ⟨r_53, e_r_53, hm⟩ := bindS hm
      refine ⟨p_41, r_35, (3), (V.int (3)), _, r_53, rfl, w_50.sub, (W.out w_50 _ (List.Mem.head _)), (W.at w_50 0), hl_44, rfl, e_r_53, fun v_59 G_54 H_56 q_55 r_60 hc_61 hcl_62 => ?_⟩
      have w_57 : W H G0 [] G_54 [(p_41, .lst (r_53.2.map V.int))] H_56 := W.callM w_50 0 rfl q_55 hc_61
      obtain rfl := r_60
      obtain ⟨t_63, e_t_63, hm⟩ := bindS hm
      have ha_67 : All2 pI G_54 [(40), (40), (60)] [(V.int (40)), (V.int (40)), (V.int (60))] := (All2.cons rfl (All2.cons rfl (All2.cons rfl .nil)))
      obtain ⟨v_64, r_65, k_66⟩ := k_idxTG (K := K) (w_57.sub _ _ ((Post.base q_55) _ _ upd_same)) ha_67 e_t_63
      obtain rfl := r_65
      refine k_66 _ ?_
      refine cps_nil ?_
      obtain ⟨r_68, e_r_68, hm⟩ := bindS hm
      refine ⟨p_41, r_53.2, t_63, (V.int t_63), _, r_68, rfl, w_57.sub, (W.out w_57 _ (List.Mem.head _)), (W.at w_57 0), hcl_62, rfl, e_r_68, fun v_74 G_69 H_71 q_70 r_75 hc_76 hcl_77 => ?_⟩
      have w_72 : W H G0 [] G_69 [(p_41, .lst (r_68.2.map V.int))] H_71 := W.callM w_57 0 rfl q_70 hc_76
      obtain ⟨rfl, ok_78⟩ := r_75
      refine cps_forG ?_
      refine cps_rng1 ?_
      refine cps_cons ?_
      refine ev_use ev_c ?_
      refine cps_nil ?_
      obtain ⟨xs_79, e_xs_79, hm⟩ := bindS hm
      obtain ⟨hb_80, hx_82, hl_81⟩ := rng1_ok e_xs_79
      refine ⟨_, rfl, hb_80.1, hb_80.2, ?_⟩
      obtain ⟨res_99, e_res_99, hm⟩ := bindS hm
      have hR_res_99 : ∀ r, res_99 = .rt (.rt r) → r0 = r := fun r e => (hR_res_24 _ (hR_18 _ (ctlK_rt hm e)))
      refine loop_w3 walk_range (by rw [hx_82]; exact rangeL_len _ _) e_res_99 (fun s1 σ1 H1 => ∃ o1_ : Option V, ∃ o2_ : Option V, ∃ o3_ : Option V, ∃ o4_ : Option V, ∃ G1, σ1 = [some v_2, some (V.int x_9), some (V.ref p_41), some (vS r_68.1), o4_, o1_, o2_, o3_, none, none] ∧ L2.Same G_69 G1 ∧ W H G0 [] G1 [(p_41, .lst (s1.map V.int))] H1 ∧ s1.length ≤ sizeLine) ⟨_, _, _, _, _, rfl, (L2.Same.refl _), w_72, hcl_77⟩ (fun _ _ _ _ => True.intro) ?_ ?_
      · intro i_83 x_84 s_85 c_86 v_87 sg_88 H_89 H_90 hx_91 hm hR_93 hP_94 hy_95 N_96 kn_97 kb_98
        obtain ⟨o_100, o_101, o_102, o_103, G_105, rfl, s_106, w_107, hl_104⟩ := hP_94
        rw [hx_82] at hx_91
        obtain ⟨rfl, rfl⟩ := rng_item hx_91 hy_95
        refine for_nm (τ := [some v_2, some (V.int x_9), some (V.ref p_41), some (vS r_68.1), some (V.int x_84), o_100, o_101, o_102, none, none]) rfl ?_
        refine cps_asg (fun x => [some v_2, some (V.int x_9), some (V.ref p_41), some (vS r_68.1), some (V.int x_84), some x, o_101, o_102, none, none]) (fun _ => rfl) ?_
        refine cps_call ?_
        refine cps_cons ?_
        refine ev_use (ev_var rfl) ?_
        refine cps_cons ?_
        refine ev_use (ev_var rfl) ?_
        refine cps_nil ?_
        obtain ⟨r_108, e_r_108, hm⟩ := bindS hm
        refine ⟨p_41, s_85, r_68.1, (vS r_68.1), _, r_108, rfl, w_107.sub, (W.out w_107 _ (List.Mem.head _)), (W.at w_107 0), hl_104, ⟨rfl, ok_78⟩, e_r_108, fun v_114 G_109 H_111 q_110 r_115 hc_116 hcl_117 => ?_⟩
        have w_112 : W H G0 [] G_109 [(p_41, .lst (r_108.2.map V.int))] H_111 := W.callM w_107 0 rfl q_110 hc_116
        obtain ⟨rfl, ok_118⟩ := r_115
        refine cps_asg (fun x => [some v_2, some (V.int x_9), some (V.ref p_41), some (vS r_68.1), some (V.int x_84), some (vS r_108.1), some x, o_102, none, none]) (fun _ => rfl) ?_
        refine cps_lc ?_
        refine cps_rng1 ?_
        refine cps_cons ?_
        refine ev_use (ev_cb (ea_cons (ev_var rfl) ea_nil) (kk_lenS ok_78)) ?_
        refine cps_nil ?_
        obtain ⟨xs_119, e_xs_119, hm⟩ := bindS hm
        obtain ⟨hb_120, hx_122, hl_121⟩ := rng1_ok e_xs_119
        refine ⟨_, rfl, hb_120.1, hb_120.2, ?_⟩
        intro D_123 hD_123
        have hE_124 := W.freshE w_112 hD_123
        obtain ⟨ys_149, e_ys_149, hm⟩ := bindS hm
        have w_150 := W.cell w_112 hD_123 (.lst [])
        refine lc_wP walk_range (by rw [hx_122]; exact rangeL_len _ _) e_ys_149 hl_121 (fun av acc H1 => ∃ G1, L2.Same G_109 G1 ∧ W H G0 [] G1 [(D_123, .lst av), (p_41, .lst (r_108.2.map V.int))] H1 ∧ All2 pI G1 acc av) ⟨_, (L2.Same.refl _), w_150, .nil⟩ (fun _ _ _ _ => True.intro) ?_ ?_
        · intro i_125 x_126 r_142 v_127 av_128 acc_129 H_130 H_131 hx_132 hm hP_134 hlt_135 hy_136 N_137 kn_138 ks_139
          obtain ⟨G_143, s_144, w_145, ha_146⟩ := hP_134
          rw [hx_122] at hx_132
          obtain ⟨rfl, rfl⟩ := rng_item hx_132 hy_136
          refine lc_nm (τ := [some v_2, some (V.int x_9), some (V.ref p_41), some (vS r_68.1), some (V.int x_84), some (vS r_108.1), o_101, o_102, some (V.int x_126), none]) rfl rfl ?_
          refine et_use (et_test (ev_op (ev_sl (ev_var rfl) (eo_some (ev_var rfl)) (eo_some (ev_op (ev_var rfl) (ev_cb (ea_cons (ev_var rfl) ea_nil) (kk_lenS ok_118)) (k_add _ _))) (k_cutS ok_78)) (ev_var rfl) (k_eqS _ _))) ?_
          refine if_cases _ (fun hb_147 => ?_) (fun hb_147 => ?_)
          · have hm := iteT' hm hb_147
            refine ev_use (ev_var rfl) ?_
            have w_148 : W H G0 [] _ [(D_123, .lst (av_128 ++ [(V.int x_126)])), (p_41, .lst (r_108.2.map V.int))] _ := W.write w_145 0 rfl (.lst (av_128 ++ [(V.int x_126)]))
            obtain rfl := someI hm
            exact ⟨_, (W.at w_145 0), hlt_135, ks_139 _ _ _ rfl ⟨_, s_144, w_148, (All2.app ha_146 (All2.one rfl))⟩⟩
          · have hm := iteF' hm hb_147
            obtain rfl := someI hm
            exact kn_138 rfl _ ⟨_, s_144, w_145, ha_146⟩
        rintro av_151 H_152 ⟨G_153, s_154, w_155, ha_156⟩
        obtain rfl := All2.int ha_156
        have hl_157 : ys_149.length ≤ sizeLine := Nat.le_trans (lcP_len e_ys_149) (lenz (by rw [hx_122]; exact rangeL_len _ _) hl_121)
        have s_159 := same_freeze w_155 0 rfl
        have w_158 : W H G0 [] _ [(p_41, .lst (r_108.2.map V.int))] _ := W.freeze w_155 0 rfl hE_124
        have r_160 := (pL_new (W.out w_155 _ (List.Mem.head _)) ha_156 hl_157)
        refine cps_asg (fun x => [some v_2, some (V.int x_9), some (V.ref p_41), some (vS r_68.1), some (V.int x_84), some (vS r_108.1), some (V.ref D_123), some x, none, none]) (fun _ => rfl) ?_
        refine cps_call ?_
        refine cps_cons ?_
        refine ev_use (ev_var rfl) ?_
        refine cps_cons ?_
        refine ev_use (ev_var rfl) ?_
        refine cps_nil ?_
        obtain ⟨r_161, e_r_161, hm⟩ := bindS hm
        refine ⟨r_68.1, (vS r_68.1), r_108.1, (vS r_108.1), _, r_161, rfl, w_158.sub, ⟨rfl, ok_78⟩, ⟨rfl, ok_118⟩, e_r_161, fun p_167 vs_168 G_162 H_164 q_163 hp_171 hg_172 hh_173 ha_169 hl_170 => ?_⟩
        have hE_174 := W.freshE w_158 hp_171
        obtain rfl := All2.int ha_169
        have w_165 := W.callOwn w_158 q_163 hp_171 hg_172 hh_173
        refine s_if0 ?_
        obtain ⟨b_175, hm_230, hm⟩ := bindS hm
        refine cut_et2 (P := fun b H1 => b = b_175 ∧ ∃ G1, L2.Same G_162 G1 ∧ W H G0 [] G1 [(p_167, .lst (r_161.map V.int)), (p_41, .lst (r_108.2.map V.int))] H1) ?_ ?_
        · intro Q' kQ
          have hm := hm_230
          refine cps_or ?_
          refine et_use (et_not (et_b (ev_cb (ea_cons (ev_var rfl) (ea_cons ev_c ea_nil)) (isiT (K := K) (b := true) (tyLs (pL_cell (W.at w_165 0) ha_169 w_165.sub hl_170)) (by decide +kernel))))) ?_
          refine if_cases _ (fun hb_176 => ?_) (fun hb_176 => ?_)
          · have hm := iteT' hm hb_176
            obtain rfl := someI hm
            exact kQ _ _ ⟨rfl, _, (L2.Same.refl _), w_165⟩
          · have hm := iteF' hm hb_176
            obtain ⟨b_177, hm_225, hm⟩ := bindS hm
            refine cut_et2 (P := fun b H1 => b = b_177 ∧ ∃ G1, L2.Same G_162 G1 ∧ W H G0 [] G1 [(p_167, .lst (r_161.map V.int)), (p_41, .lst (r_108.2.map V.int))] H1) ?_ ?_
            · intro Q' kQ
              have hm := hm_225
              refine cps_or ?_
              refine et_use (et_test (ev_op (ev_var rfl) (ev_var rfl) (k_neD (K := K) (R := (pL pI)) (pL_cell (W.at w_165 0) ha_169 w_165.sub hl_170) (Mn.mono (Mn.mono r_160 (Post.base q_163)) w_165.sub)))) ?_
              refine if_cases _ (fun hb_178 => ?_) (fun hb_178 => ?_)
              · have hm := iteT' hm hb_178
                obtain rfl := someI hm
                exact kQ _ _ ⟨rfl, _, (L2.Same.refl _), w_165⟩
              · have hm := iteF' hm hb_178
                refine cps_not ?_
                refine cps_b ?_
                refine cps_cb ?_
                refine cps_cons ?_
                refine cps_lc ?_
                refine cps_list ?_
                refine ev_use (ev_var rfl) ?_
                refine ⟨_, rfl, ⟨_, SqL.of (W.at w_165 0)⟩, ?_⟩
                intro D_179 hD_179
                have hE_180 := W.freshE w_165 hD_179
                obtain ⟨ys_213, e_ys_213, hm⟩ := bindS hm
                have w_214 := W.cell w_165 hD_179 (.lst [])
                refine lc_wM walk_list (All2.len ha_169) e_ys_213 ((All2.len ha_169) ▸ hl_170) (fun av acc H1 => ∃ G1, L2.Same G_162 G1 ∧ W H G0 [] G1 [(D_179, .lst av), (p_167, .lst (r_161.map V.int)), (p_41, .lst (r_108.2.map V.int))] H1 ∧ All2 pB G1 acc av) ⟨_, (L2.Same.refl _), w_214, .nil⟩ (fun _ _ _ ⟨_, s_, w_, _⟩ => SqL.of (W.at w_ 1)) ?_ ?_
                · intro i_181 x_182 r_198 v_183 av_184 acc_185 H_186 H_187 hx_188 hm hP_190 hlt_191 hy_192 N_193 ks_195
                  obtain ⟨G_199, s_200, w_201, ha_202⟩ := hP_190
                  obtain ⟨rfl, r_203⟩ := lst_item ha_169 hx_188 hy_192
                  obtain rfl := r_203
                  refine lc_nm (τ := [some v_2, some (V.int x_9), some (V.ref p_41), some (vS r_68.1), some (V.int x_84), some (vS r_108.1), some (V.ref D_123), some (V.ref p_167), none, some (V.int x_182)]) rfl rfl ?_
                  refine iteT_yes ?_
                  refine cps_call ?_
                  refine cps_cons ?_
                  refine ev_use (ev_var rfl) ?_
                  refine cps_nil ?_
                  obtain ⟨r_204, e_r_204, hm⟩ := bindS hm
                  refine ⟨x_182, (V.int x_182), _, r_204, rfl, w_201.sub, rfl, e_r_204, fun v_210 G_205 H_207 q_206 r_211 => ?_⟩
                  have w_208 := W.call w_201 q_206
                  obtain rfl := r_211
                  have w_212 : W H G0 [] _ [(D_179, .lst (av_184 ++ [(V.bl r_204)])), (p_167, .lst (r_161.map V.int)), (p_41, .lst (r_108.2.map V.int))] _ := W.write w_208 0 rfl (.lst (av_184 ++ [(V.bl r_204)]))
                  obtain rfl := someI hm
                  exact ⟨_, (W.at w_208 0), hlt_191, ks_195 _ _ ⟨_, (L2.Same.trans s_200 (Post.base q_206)), w_212, (All2.app (All2.mono ha_202 (Post.base q_206)) (All2.one rfl))⟩⟩
                rintro av_215 H_216 ⟨G_217, s_218, w_219, ha_220⟩
                obtain rfl := All2.bool ha_220
                have hl_221 : ys_213.length ≤ sizeLine := Nat.le_trans (mapP_len e_ys_213) (lenz (All2.len ha_169) ((All2.len ha_169) ▸ hl_170))
                have s_223 := same_freeze w_219 0 rfl
                have w_222 : W H G0 [] _ [(p_167, .lst (r_161.map V.int)), (p_41, .lst (r_108.2.map V.int))] _ := W.freeze w_219 0 rfl hE_180
                have r_224 := (pL_new (W.out w_219 _ (List.Mem.head _)) ha_220 hl_221)
                refine cps_nil ?_
                refine k_all (K := K) (Mn.mono r_224 w_222.sub) _ ?_
                refine ⟨_, rfl, ?_⟩
                obtain rfl := someI hm
                exact kQ _ _ ⟨rfl, _, (L2.Same.trans s_218 s_223), w_222⟩
            rintro _ H_226 ⟨rfl, G_227, s_228, w_229⟩
            obtain rfl := someI hm
            exact kQ _ _ ⟨rfl, _, s_228, w_229⟩
        rintro _ H_231 ⟨rfl, G_232, s_233, w_234⟩
        refine if_cases _ (fun hb_235 => ?_) (fun hb_235 => ?_)
        · have hm := iteT' hm hb_235
          refine cps_ret ?_
          refine ev_use ev_c ?_
          have er := (hR_res_99 _ (hR_93 _ (someI hm).symm))
          subst er
          exact hq _ _ _ (W.post w_234) rfl 
        have hm := iteF' hm hb_235
        refine cps_nextR ?_
        refine cps_drop ?_
        refine cps_bm ?_
        refine ev_use (ev_var rfl) ?_
        refine ⟨tyL (W.at w_234 0), ?_⟩
        refine cps_cons ?_
        refine ev_use ev_c ?_
        refine cps_nil ?_
        obtain ⟨xs_236, e_xs_236, hm⟩ := bindS hm
        refine app_hw (All2.mono ha_169 s_233) e_xs_236 (W.at w_234 0) ?_
        have ha_237 := app_all (All2.mono ha_169 s_233) rfl e_xs_236
        have w_240 : W H G0 [] _ [(p_167, .lst ((r_161.map V.int) ++ [(V.int (0))])), (p_41, .lst (r_108.2.map V.int))] _ := W.write w_234 0 rfl (.lst ((r_161.map V.int) ++ [(V.int (0))]))
        refine s_if0 ?_
        refine cps_test ?_
        refine cps_op ?_
        refine cps_call ?_
        refine cps_cons ?_
        refine ev_use (ev_var rfl) ?_
        refine cps_cons ?_
        refine ev_use (ev_var rfl) ?_
        refine cps_nil ?_
        obtain ⟨r_241, e_r_241, hm⟩ := bindS hm
        refine ⟨r_68.1, (vS r_68.1), r_108.1, (vS r_108.1), _, r_241, rfl, w_240.sub, ⟨rfl, ok_78⟩, ⟨rfl, ok_118⟩, e_r_241, fun p_247 vs_248 G_242 H_244 q_243 hp_251 hg_252 hh_253 ha_249 hl_250 => ?_⟩
        have hE_254 := W.freshE w_240 hp_251
        obtain rfl := All2.int ha_249
        have w_245 := W.callLay w_240 q_243 hp_251 hg_252 hh_253
        have r_255 := pL_new hg_252 ha_249 hl_250
        refine ev_use (ev_var rfl) ?_
        refine (k_neD (K := K) (R := (pL pI)) (Mn.mono r_255 w_245.sub) (Mn.mono (Mn.mono r_160 (L2.Same.trans (Post.base q_163) (L2.Same.trans s_233 (L2.Same.trans (Post.base q_243) (same_new hg_252))))) w_245.sub)) _ ?_
        refine ⟨_, rfl, ?_⟩
        refine if_cases _ (fun hb_256 => ?_) (fun hb_256 => ?_)
        · have hm := iteT' hm hb_256
          refine cps_ret ?_
          refine ev_use ev_c ?_
          have er := (hR_res_99 _ (hR_93 _ (someI hm).symm))
          subst er
          exact hq _ _ _ (W.post w_245) rfl 
        have hm := iteF' hm hb_256
        refine cps_nextR ?_
        refine cps_next ?_
        have w_257 : W H G0 [] _ [(p_41, .lst (r_108.2.map V.int))] _ := W.dropN w_245 1
        exact kn_97 _ _ _ (someI hm).symm ⟨_, _, _, _, _, rfl, (L2.Same.trans s_106 (L2.Same.trans (Post.base q_110) (L2.Same.trans s_154 (L2.Same.trans s_159 (L2.Same.trans (Post.base q_163) (L2.Same.trans s_233 (L2.Same.trans (Post.base q_243) (same_new hg_252)))))))), w_257, hcl_117⟩
      rintro s_258 _ H_260 he_259 ⟨o_261, o_262, o_263, o_264, G_266, rfl, s_267, w_268, hl_265⟩
      have hm := ctlK_nx hm he_259
      refine cps_next ?_
      have w_269 : W H G0 [] _ [] _ := W.dropN w_268 1
      exact kn_22 _ _ _ (someI hm).symm ⟨_, _, _, _, _, _, _, _, rfl, (L2.Same.trans s_33 (L2.Same.trans (Post.base q_37) (L2.Same.trans s_51 (L2.Same.trans (Post.base q_55) (L2.Same.trans (Post.base q_70) s_267))))), w_269⟩
    rintro s_270 _ H_272 he_271 ⟨o_273, o_274, o_275, o_276, o_277, o_278, o_279, G_280, rfl, s_281, w_282⟩
    have hm := ctlK_nx hm he_271
    refine cps_ret ?_
    refine ev_use ev_c ?_
    have er := (someI hm).symm
    subst er
    exact hq _ _ _ (W.post w_282) rfl 

end
set_option maxHeartbeats 4000000 in
theorem all_mk {P : Program} {w : World} {K : PySem.W.Frag} {h : Heap} {mg : Str → Option Value} {fl : Addr} (X : K.In h) (G : h.Ns mainGlobals mg) (hfa : mg "law" = some (.ref fl)) {f0 : Addr} {od0 an0 : Option Addr} {sl0 : Array (Option Value)} {oc0 kV0 dc0 pm0 cd0 ct0 : Value} {f1 : Addr} {od1 an1 : Option Addr} {sl1 : Array (Option Value)} {oc1 kV1 dc1 pm1 cd1 ct1 : Value} {f2 : Addr} {od2 an2 : Option Addr} {sl2 : Array (Option Value)} {oc2 kV2 dc2 pm2 cd2 ct2 : Value} {f3 : Addr} {od3 an3 : Option Addr} {sl3 : Array (Option Value)} {oc3 kV3 dc3 pm3 cd3 ct3 : Value} {f4 : Addr} {od4 an4 : Option Addr} {sl4 : Array (Option Value)} {oc4 kV4 dc4 pm4 cd4 ct4 : Value} {f5 : Addr} {od5 an5 : Option Addr} {sl5 : Array (Option Value)} {oc5 kV5 dc5 pm5 cd5 ct5 : Value} {f6 : Addr} {od6 an6 : Option Addr} {sl6 : Array (Option Value)} {oc6 kV6 dc6 pm6 cd6 ct6 : Value} {f7 : Addr} {od7 an7 : Option Addr} {sl7 : Array (Option Value)} {oc7 kV7 dc7 pm7 cd7 ct7 : Value} {f8 : Addr} {od8 an8 : Option Addr} {sl8 : Array (Option Value)} {oc8 kV8 dc8 pm8 cd8 ct8 : Value}
    (a0 : PySem.W.nsIn K mainGlobals "_law_pot_of" = some (some (.ref f0))) (l0 : K.lookup f0 = some ⟨oc0, od0, .func (PySem.W.fnOf "_law_pot_of" "_law_pot_of" (defArgs s0) (defBody s0) (defScope s0) .none kV0 dc0 pm0 an0 cd0 ct0), sl0⟩) (c0 : PySem.W.codeIn K cd0 "_law_pot_of" = true) (k0 : PySem.W.keepIn K (.ref f0) = true)
    (a1 : PySem.W.nsIn K mainGlobals "_law_pick" = some (some (.ref f1))) (l1 : K.lookup f1 = some ⟨oc1, od1, .func (PySem.W.fnOf "_law_pick" "_law_pick" (defArgs s1) (defBody s1) (defScope s1) .none kV1 dc1 pm1 an1 cd1 ct1), sl1⟩) (c1 : PySem.W.codeIn K cd1 "_law_pick" = true) (k1 : PySem.W.keepIn K (.ref f1) = true)
    (a2 : PySem.W.nsIn K mainGlobals "_law_signs_of" = some (some (.ref f2))) (l2 : K.lookup f2 = some ⟨oc2, od2, .func (PySem.W.fnOf "_law_signs_of" "_law_signs_of" (defArgs s2) (defBody s2) (defScope s2) .none kV2 dc2 pm2 an2 cd2 ct2), sl2⟩) (c2 : PySem.W.codeIn K cd2 "_law_signs_of" = true) (k2 : PySem.W.keepIn K (.ref f2) = true)
    (a3 : PySem.W.nsIn K mainGlobals "_law_standard_text" = some (some (.ref f3))) (l3 : K.lookup f3 = some ⟨oc3, od3, .func (PySem.W.fnOf "_law_standard_text" "_law_standard_text" (defArgs s3) (defBody s3) (defScope s3) .none kV3 dc3 pm3 an3 cd3 ct3), sl3⟩) (c3 : PySem.W.codeIn K cd3 "_law_standard_text" = true) (k3 : PySem.W.keepIn K (.ref f3) = true)
    (a4 : PySem.W.nsIn K mainGlobals "_law_text_of" = some (some (.ref f4))) (l4 : K.lookup f4 = some ⟨oc4, od4, .func (PySem.W.fnOf "_law_text_of" "_law_text_of" (defArgs s4) (defBody s4) (defScope s4) .none kV4 dc4 pm4 an4 cd4 ct4), sl4⟩) (c4 : PySem.W.codeIn K cd4 "_law_text_of" = true) (k4 : PySem.W.keepIn K (.ref f4) = true)
    (a5 : PySem.W.nsIn K mainGlobals "_law_word_of" = some (some (.ref f5))) (l5 : K.lookup f5 = some ⟨oc5, od5, .func (PySem.W.fnOf "_law_word_of" "_law_word_of" (defArgs s5) (defBody s5) (defScope s5) .none kV5 dc5 pm5 an5 cd5 ct5), sl5⟩) (c5 : PySem.W.codeIn K cd5 "_law_word_of" = true) (k5 : PySem.W.keepIn K (.ref f5) = true)
    (a6 : PySem.W.nsIn K mainGlobals "places" = some (some (.ref f6))) (l6 : K.lookup f6 = some ⟨oc6, od6, .func (PySem.W.fnOf "places" "places" (defArgs s6) (defBody s6) (defScope s6) .none kV6 dc6 pm6 an6 cd6 ct6), sl6⟩) (c6 : PySem.W.codeIn K cd6 "places" = true) (k6 : PySem.W.keepIn K (.ref f6) = true)
    (a7 : PySem.W.nsIn K mainGlobals "_law_whole" = some (some (.ref f7))) (l7 : K.lookup f7 = some ⟨oc7, od7, .func (PySem.W.fnOf "_law_whole" "_law_whole" (defArgs s7) (defBody s7) (defScope s7) .none kV7 dc7 pm7 an7 cd7 ct7), sl7⟩) (c7 : PySem.W.codeIn K cd7 "_law_whole" = true) (k7 : PySem.W.keepIn K (.ref f7) = true)
    (a8 : PySem.W.nsIn K mainGlobals "law" = some (some (.ref f8))) (l8 : K.lookup f8 = some ⟨oc8, od8, .func (PySem.W.fnOf "law" "law" (defArgs s8) (defBody s8) (defScope s8) .none kV8 dc8 pm8 an8 cd8 ct8), sl8⟩) (c8 : PySem.W.codeIn K cd8 "law" = true) (k8 : PySem.W.keepIn K (.ref f8) = true)
    (z_abs : PySem.W.nsIn K mainGlobals "abs" = some none) (z_all : PySem.W.nsIn K mainGlobals "all" = some none) (z_bool : PySem.W.nsIn K mainGlobals "bool" = some none) (z_int : PySem.W.nsIn K mainGlobals "int" = some none) (z_isinstance : PySem.W.nsIn K mainGlobals "isinstance" = some none) (z_len : PySem.W.nsIn K mainGlobals "len" = some none) (z_list : PySem.W.nsIn K mainGlobals "list" = some none) (z_max : PySem.W.nsIn K mainGlobals "max" = some none) (z_min : PySem.W.nsIn K mainGlobals "min" = some none) (z_range : PySem.W.nsIn K mainGlobals "range" = some none)  :
    ∃ fd : FuncData, (∀ (s : Shared) (v : Value), BindsTo s fd ⟨[v], []⟩ [("_law_script", v)]) ∧ ∀ base : Heap, K.In base → base.Ns mainGlobals mg → FnOk P w K mg base CX0 4 fl fd ["_law_script"] (sp_law K) := by
  have e := hfa.symm.trans (PySem.W.mg_of X G a8)
  cases e
  have F0 := fun_mk (st := s0) l0 c0 k0
  have B0 := F0.binds (ps := ["_law_script", "_law_k"]) fun _ _ _ _ _ _ us hl => match us, hl with | [_, _], _ => rfl
  have F1 := fun_mk (st := s1) l1 c1 k1
  have B1 := F1.binds (ps := ["_law_pot", "_law_many"]) fun _ _ _ _ _ _ us hl => match us, hl with | [_, _], _ => rfl
  have F2 := fun_mk (st := s2) l2 c2 k2
  have B2 := F2.binds (ps := ["_law_pot"]) fun _ _ _ _ _ _ us hl => match us, hl with | [_], _ => rfl
  have F3 := fun_mk (st := s3) l3 c3 k3
  have B3 := F3.binds (ps := ["_law_pot", "_law_signs", "_law_many"]) fun _ _ _ _ _ _ us hl => match us, hl with | [_, _, _], _ => rfl
  have F4 := fun_mk (st := s4) l4 c4 k4
  have B4 := F4.binds (ps := ["_law_pot", "_law_most"]) fun _ _ _ _ _ _ us hl => match us, hl with | [_, _], _ => rfl
  have F5 := fun_mk (st := s5) l5 c5 k5
  have B5 := F5.binds (ps := ["_law_pot", "_law_text"]) fun _ _ _ _ _ _ us hl => match us, hl with | [_, _], _ => rfl
  have F6 := fun_mk (st := s6) l6 c6 k6
  have B6 := F6.binds (ps := ["row", "word"]) fun _ _ _ _ _ _ us hl => match us, hl with | [_, _], _ => rfl
  have F7 := fun_mk (st := s7) l7 c7 k7
  have B7 := F7.binds (ps := ["_law_thing"]) fun _ _ _ _ _ _ us hl => match us, hl with | [_], _ => rfl
  have F8 := fun_mk (st := s8) l8 c8 k8
  have B8 := F8.binds (ps := ["_law_script"]) fun _ _ _ _ _ _ us hl => match us, hl with | [_], _ => rfl
  have T : Txt K mg (fun n => match n with | 0 => f0 | 1 => f1 | 2 => f2 | 3 => f3 | 4 => f4 | 5 => f5 | 6 => f6 | 7 => f7 | 8 => fl | _ => fl) (fun n => match n with | 0 => (PySem.W.fnOf "_law_pot_of" "_law_pot_of" (defArgs s0) (defBody s0) (defScope s0) .none kV0 dc0 pm0 an0 cd0 ct0) | 1 => (PySem.W.fnOf "_law_pick" "_law_pick" (defArgs s1) (defBody s1) (defScope s1) .none kV1 dc1 pm1 an1 cd1 ct1) | 2 => (PySem.W.fnOf "_law_signs_of" "_law_signs_of" (defArgs s2) (defBody s2) (defScope s2) .none kV2 dc2 pm2 an2 cd2 ct2) | 3 => (PySem.W.fnOf "_law_standard_text" "_law_standard_text" (defArgs s3) (defBody s3) (defScope s3) .none kV3 dc3 pm3 an3 cd3 ct3) | 4 => (PySem.W.fnOf "_law_text_of" "_law_text_of" (defArgs s4) (defBody s4) (defScope s4) .none kV4 dc4 pm4 an4 cd4 ct4) | 5 => (PySem.W.fnOf "_law_word_of" "_law_word_of" (defArgs s5) (defBody s5) (defScope s5) .none kV5 dc5 pm5 an5 cd5 ct5) | 6 => (PySem.W.fnOf "places" "places" (defArgs s6) (defBody s6) (defScope s6) .none kV6 dc6 pm6 an6 cd6 ct6) | 7 => (PySem.W.fnOf "_law_whole" "_law_whole" (defArgs s7) (defBody s7) (defScope s7) .none kV7 dc7 pm7 an7 cd7 ct7) | 8 => (PySem.W.fnOf "law" "law" (defArgs s8) (defBody s8) (defScope s8) .none kV8 dc8 pm8 an8 cd8 ct8) | _ => (PySem.W.fnOf "law" "law" (defArgs s8) (defBody s8) (defScope s8) .none kV8 dc8 pm8 an8 cd8 ct8)) := { f0 := F0, g0 := PySem.W.mg_of X G a0, b0 := B0, f1 := F1, g1 := PySem.W.mg_of X G a1, b1 := B1, f2 := F2, g2 := PySem.W.mg_of X G a2, b2 := B2, f3 := F3, g3 := PySem.W.mg_of X G a3, b3 := B3, f4 := F4, g4 := PySem.W.mg_of X G a4, b4 := B4, f5 := F5, g5 := PySem.W.mg_of X G a5, b5 := B5, f6 := F6, g6 := PySem.W.mg_of X G a6, b6 := B6, f7 := F7, g7 := PySem.W.mg_of X G a7, b7 := B7, f8 := F8, g8 := PySem.W.mg_of X G a8, b8 := B8, n_abs := PySem.W.mg_none_of X G z_abs, n_all := PySem.W.mg_none_of X G z_all, n_bool := PySem.W.mg_none_of X G z_bool, n_int := PySem.W.mg_none_of X G z_int, n_isinstance := PySem.W.mg_none_of X G z_isinstance, n_len := PySem.W.mg_none_of X G z_len, n_list := PySem.W.mg_none_of X G z_list, n_max := PySem.W.mg_none_of X G z_max, n_min := PySem.W.mg_none_of X G z_min, n_range := PySem.W.mg_none_of X G z_range }
  exact ⟨(PySem.W.fnOf "law" "law" (defArgs s8) (defBody s8) (defScope s8) .none kV8 dc8 pm8 an8 cd8 ct8), fun s v => .of_eq rfl, fun base _ _ => ok_law T⟩
end Lk02

open PySem PySem.W PyProof.Rows
set_option maxRecDepth 100000 in
set_option maxHeartbeats 0 in
theorem PySem.Challenge.cw_likemarks_k02_places_told_holds : PySem.Challenge.rw_likemarks_k02_places_told.Holds := by
  w_on; o_law; k_head; (case hw => w_witness2)
  k_fill
  refine L2.walk_of (l := PySem.Challenge.rw_likemarks_k02_places_told) (n := 63) (k := 4) (x := "_law_script") (CX := fun _ => L2.CX0) (sp := fun w => Lk02.sp_law _) rfl (by decide) rfl ⟨rfl, by decide, by decide⟩ (fun w h Y => PySem.W.kIn_of Y) ?F (fun _ H a ns hl _ hS => ⟨ns, .ref a, H, true, rfl, L2.Same.refl _, ⟨a, rfl, hS⟩, Lk02.law_true ns hl, fun v _ _ _ hv => hv⟩) (fun _ _ _ _ _ h => h)
  case F =>
    intro w mg fl h KX G hmg
    refine' Lk02.all_mk KX G hmg ?a0 ?l0 ?c0 ?k0 ?a1 ?l1 ?c1 ?k1 ?a2 ?l2 ?c2 ?k2 ?a3 ?l3 ?c3 ?k3 ?a4 ?l4 ?c4 ?k4 ?a5 ?l5 ?c5 ?k5 ?a6 ?l6 ?c6 ?k6 ?a7 ?l7 ?c7 ?k7 ?a8 ?l8 ?c8 ?k8 ?z_abs ?z_all ?z_bool ?z_int ?z_isinstance ?z_len ?z_list ?z_max ?z_min ?z_range
    (case a0 => k_is)
    (case l0 => k_is)
    (case c0 => k_is)
    (case k0 => k_is)
    (case a1 => k_is)
    (case l1 => k_is)
    (case c1 => k_is)
    (case k1 => k_is)
    (case a2 => k_is)
    (case l2 => k_is)
    (case c2 => k_is)
    (case k2 => k_is)
    (case a3 => k_is)
    (case l3 => k_is)
    (case c3 => k_is)
    (case k3 => k_is)
    (case a4 => k_is)
    (case l4 => k_is)
    (case c4 => k_is)
    (case k4 => k_is)
    (case a5 => k_is)
    (case l5 => k_is)
    (case c5 => k_is)
    (case k5 => k_is)
    (case a6 => k_is)
    (case l6 => k_is)
    (case c6 => k_is)
    (case k6 => k_is)
    (case a7 => k_is)
    (case l7 => k_is)
    (case c7 => k_is)
    (case k7 => k_is)
    (case a8 => k_is)
    (case l8 => k_is)
    (case c8 => k_is)
    (case k8 => k_is)
    (case z_abs => k_is)
    (case z_all => k_is)
    (case z_bool => k_is)
    (case z_int => k_is)
    (case z_isinstance => k_is)
    (case z_len => k_is)
    (case z_list => k_is)
    (case z_max => k_is)
    (case z_min => k_is)
    (case z_range => k_is)
